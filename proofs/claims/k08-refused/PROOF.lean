import PyProof.Rows.All
import Wide.All
import OpenK.AllK
import Wide.FinOn
import HandS.ForMost
import HandS.Wide
import HandS.SortInts
import HandS.More
import HandS.IsInst
import HandS.Deep
import HandS.Conv
import HandS.SetFor
import HandS.EndBits
import HandS.ExcOwn
import HandS.WordsExc
import HandS.Head0
import HandS.Head1
import HandS.Head2
import HandS.HeadEnd
import HandS.HeadHook1
import HandS.TryMany
import HandS.ExcIs
import PySem.Challenge.RW_waybook_k08_refused
set_option Elab.async false
set_option linter.all false
set_option maxRecDepth 100000
set_option maxHeartbeats 4000000
/-! DL: readings of the hand layer as plain data: slots hold data, mutable things stand in a ledger. -/
namespace DL
open PySem L2

/-- plain data as a reading sees it; ref: a thing told by its address alone (an object, a mutable list or dict of the ledger) -/
inductive D where
  | non | bl (b : Bool) | int (i : Int) | str (x : Str) | ty (n : String)
  | lst (ds : List D) | frl (ds : List D) | tup (ds : List D) | ref (a : Addr)
/-- what stands in the ledger -/
inductive MO where
  | lst (ds : List D) | dct (kvs : List (Key × D)) | ins (C : Addr) (fs : List (Str × D))
  /-- a dict that is locked while a loop walks it -/
  | dcl (od : Obj) (ws : List (Key × V)) (kvs : List (Key × D))
abbrev Mp := Addr → Option MO
abbrev Ro := List (Option D)
def ud (M : Mp) (a : Addr) (o : MO) : Mp := fun b => if b = a then some o else M b
def del (M : Mp) (a : Addr) : Mp := fun b => if b = a then none else M b
theorem ud_same {M : Mp} {a : Addr} {o : MO} : ud M a o a = some o := by unfold ud; rw [if_pos rfl]
theorem ud_ne {M : Mp} {a b : Addr} {o : MO} (h : b ≠ a) : ud M a o b = M b := by unfold ud; rw [if_neg h]
theorem ud_ud {M : Mp} {a : Addr} {o u : MO} : ud (ud M a o) a u = ud M a u := by
  funext b; unfold ud; split <;> rfl
theorem del_ud {M : Mp} {a : Addr} {o : MO} (h : M a = none) : del (ud M a o) a = M := by
  funext b; unfold del ud
  by_cases e : b = a
  · rw [if_pos e, e, h]
  · rw [if_neg e, if_neg e]
theorem ud_comm {M : Mp} {a b : Addr} {o u : MO} (h : a ≠ b) : ud (ud M a o) b u = ud (ud M b u) a o := by
  funext c; unfold ud
  by_cases e : c = b
  · rw [if_pos e, if_neg (fun z => h (z.symm.trans e)), if_pos e]
  · rw [if_neg e, if_neg e]
theorem ne_old {M : Mp} {a b : Addr} {o : MO} (h : M a = some o) (h' : M b = none) : a ≠ b := by
  intro e; subst e; rw [h] at h'; cases h'
theorem ne_mo {M : Mp} {a b : Addr} {o u : MO} (h : M a = some o) (h' : M b = some u) (d : o ≠ u) : a ≠ b := by
  intro e; subst e; rw [h] at h'; exact d (Option.some.inj h')
/-- all of M stands in M' as well -/
def Sub (M M' : Mp) : Prop := ∀ a o, M a = some o → M' a = some o
theorem Sub.refl (M : Mp) : Sub M M := fun _ _ h => h
theorem Sub.trans {M M1 M2 : Mp} (a : Sub M M1) (b : Sub M1 M2) : Sub M M2 := fun x o h => b x o (a x o h)
theorem Sub.new {M : Mp} {p : Addr} {o : MO} (h : M p = none) : Sub M (ud M p o) := fun a u e => by
  rw [ud_ne (ne_old e h)]; exact e
theorem Sub.mut {M M' : Mp} {p : Addr} {o : MO} (s : Sub M M') (h : M p = none) : Sub M (ud M' p o) := fun a u e => by
  rw [ud_ne (ne_old e h)]; exact s a u e
theorem Sub.back {M M' : Mp} {p : Addr} (s : Sub M M') (h : M' p = none) : M p = none := by
  cases e : M p with
  | none => rfl
  | some o => rw [s p o e] at h; cases h

mutual
inductive Dt (K : PySem.W.Frag) (G : Hp) : V → D → Prop where
  | non : Dt K G .non .non
  | bl (b : Bool) : Dt K G (.bl b) (.bl b)
  | int (i : Int) : Dt K G (.int i) (.int i)
  | str (x : Str) : Dt K G (.str x) (.str x)
  | ty (n : String) : Dt K G (.ty n) (.ty n)
  | ref (a : Addr) : Dt K G (.ref a) (.ref a)
  | lst {a : Addr} {xs : List V} {ds : List D} : G a = some (.lst xs) → DtL K G xs ds → Dt K G (.ref a) (.lst ds)
  | frl {a : Addr} {xs : List V} {ds : List D} : SqL K G a xs → DtL K G xs ds → Dt K G (.ref a) (.frl ds)
  | tup {a : Addr} {xs : List V} {ds : List D} : G a = some (.tup xs) → DtL K G xs ds → Dt K G (.ref a) (.tup ds)
inductive DtL (K : PySem.W.Frag) (G : Hp) : List V → List D → Prop where
  | nil : DtL K G [] []
  | cons {v : V} {vs : List V} {d : D} {ds : List D} : Dt K G v d → DtL K G vs ds → DtL K G (v :: vs) (d :: ds)
end
section
variable {K : PySem.W.Frag} {G G' H H' : Hp}
mutual
theorem Dt.mono (e : Same G G') : ∀ {v : V} {d : D}, Dt K G v d → Dt K G' v d
  | _, _, .non => .non
  | _, _, .bl b => .bl b
  | _, _, .int i => .int i
  | _, _, .str x => .str x
  | _, _, .ty n => .ty n
  | _, _, .ref a => .ref a
  | _, _, .lst h1 h2 => .lst (e _ _ h1) (DtL.mono e h2)
  | _, _, .frl h1 h2 => .frl (e.seq h1) (DtL.mono e h2)
  | _, _, .tup h1 h2 => .tup (e _ _ h1) (DtL.mono e h2)
theorem DtL.mono (e : Same G G') : ∀ {vs : List V} {ds : List D}, DtL K G vs ds → DtL K G' vs ds
  | _, _, .nil => .nil
  | _, _, .cons h1 h2 => .cons (Dt.mono e h1) (DtL.mono e h2)
end
theorem DtL.length : ∀ {vs : List V} {ds : List D}, DtL K G vs ds → vs.length = ds.length
  | _, _, .nil => rfl
  | _, _, .cons _ h => congrArg (· + 1) h.length
theorem DtL.get : ∀ {vs : List V} {ds : List D} {i : Nat} {d : D}, DtL K G vs ds → ds[i]? = some d → ∃ v, vs[i]? = some v ∧ Dt K G v d
  | _, _, _, _, .nil, e => by simp at e
  | _, _, 0, _, .cons r _, e => by simp at e; subst e; exact ⟨_, rfl, r⟩
  | _, _, i + 1, d, .cons _ t, e => by
    obtain ⟨u, h1, h2⟩ := DtL.get (i := i) (d := d) t (by simpa using e)
    exact ⟨u, by simpa using h1, h2⟩
theorem DtL.append : ∀ {vs us : List V} {ds es : List D}, DtL K G vs ds → DtL K G us es → DtL K G (vs ++ us) (ds ++ es)
  | _, _, _, _, .nil, s => s
  | _, _, _, _, .cons r t, s => .cons r (DtL.append t s)
theorem DtL.take : ∀ {vs : List V} {ds : List D} (n : Nat), DtL K G vs ds → DtL K G (vs.take n) (ds.take n)
  | _, _, 0, _ => .nil
  | _, _, _ + 1, .nil => .nil
  | _, _, n + 1, .cons r t => .cons r (DtL.take n t)
theorem DtL.drop : ∀ {vs : List V} {ds : List D} (n : Nat), DtL K G vs ds → DtL K G (vs.drop n) (ds.drop n)
  | _, _, 0, r => r
  | _, _, _ + 1, .nil => .nil
  | _, _, n + 1, .cons _ t => DtL.drop n t
theorem DtL.set {v : V} {d : D} (r : Dt K G v d) : ∀ {vs : List V} {ds : List D} (i : Nat), DtL K G vs ds → DtL K G (vs.set i v) (ds.set i d)
  | _, _, _, .nil => .nil
  | _, _, 0, .cons _ t => .cons r t
  | _, _, i + 1, .cons q t => .cons q (DtL.set r i t)
theorem DtL.ints : ∀ {vs : List V} {ns : List Int}, DtL K G vs (ns.map D.int) → vs = ns.map V.int
  | _, [], .nil => rfl
  | _, n :: ns, .cons (.int _) t => congrArg (V.int n :: ·) t.ints
theorem DtL.bls : ∀ {vs : List V} {ns : List Bool}, DtL K G vs (ns.map D.bl) → vs = ns.map V.bl
  | _, [], .nil => rfl
  | _, n :: ns, .cons (.bl _) t => congrArg (V.bl n :: ·) t.bls
theorem DtL.of_ints : ∀ ns : List Int, DtL K G (ns.map V.int) (ns.map D.int)
  | [] => .nil
  | n :: ns => .cons (.int n) (DtL.of_ints ns)
theorem DtL.reverse : ∀ {vs : List V} {ds : List D}, DtL K G vs ds → DtL K G vs.reverse ds.reverse
  | _, _, .nil => .nil
  | _, _, .cons h t => by
    rw [List.reverse_cons, List.reverse_cons]
    exact DtL.append (DtL.reverse t) (.cons h .nil)

/-- a thing of the ledger as the heap has it -/
def MoOk (K : PySem.W.Frag) (G H : Hp) (a : Addr) : MO → Prop
  | .lst ds => ∃ xs, H a = some (.lst xs) ∧ DtL K G xs ds
  | .dct kvs => ∃ ws, H a = some (.dK ws) ∧ ws.map (·.1) = kvs.map (·.1) ∧ DtL K G (ws.map (·.2)) (kvs.map (·.2))
  | .ins C fs => ∃ dx gs, H a = some (.ins C dx gs) ∧ gs.map (·.1) = fs.map (·.1) ∧ DtL K G (gs.map (·.2)) (fs.map (·.2))
  | .dcl od ws kvs => H a = some (.frz od (.dK ws)) ∧ ws.map (·.1) = kvs.map (·.1) ∧ DtL K G (ws.map (·.2)) (kvs.map (·.2))
theorem MoOk.some {a : Addr} {o : MO} (h : MoOk K G H a o) : ∃ u, H a = some u := by
  cases o with
  | lst ds => obtain ⟨xs, e, _⟩ := h; exact ⟨_, e⟩
  | dct kvs => obtain ⟨ws, e, _⟩ := h; exact ⟨_, e⟩
  | ins C fs => obtain ⟨dx, gs, e, _⟩ := h; exact ⟨_, e⟩
  | dcl od ws kvs => obtain ⟨e, _⟩ := h; exact ⟨_, e⟩
theorem MoOk.mono {a : Addr} {o : MO} (e : Same G G') (k : H' a = H a) (h : MoOk K G H a o) : MoOk K G' H' a o := by
  cases o with
  | lst ds => obtain ⟨xs, e1, h1⟩ := h; exact ⟨xs, k.trans e1, h1.mono e⟩
  | dct kvs => obtain ⟨ws, e1, e2, h1⟩ := h; exact ⟨ws, k.trans e1, e2, h1.mono e⟩
  | ins C fs => obtain ⟨dx, gs, e1, e2, h1⟩ := h; exact ⟨dx, gs, k.trans e1, e2, h1.mono e⟩
  | dcl od ws kvs => obtain ⟨e1, e2, h1⟩ := h; exact ⟨k.trans e1, e2, h1.mono e⟩
/-- the heap: the frozen part G, the ledger M -/
structure Hs (K : PySem.W.Frag) (G : Hp) (M : Mp) (H : Hp) : Prop where
  sub : Same G H
  ok : ∀ a o, M a = some o → G a = none ∧ MoOk K G H a o
theorem Hs.none_g {M : Mp} {p : Addr} (s : Hs K G M H) (h : H p = none) : G p = none := Same.free s.sub h
theorem Hs.none_m {M : Mp} {p : Addr} (s : Hs K G M H) (h : H p = none) : M p = none := by
  cases e : M p with
  | none => rfl
  | some o => obtain ⟨u, q⟩ := (s.ok p o e).2.some; rw [q] at h; cases h
/-- a new frozen thing -/
theorem Hs.froz {M : Mp} {p : Addr} {o : HO} (s : Hs K G M H) (h : H p = none) : Same G (upd G p o) ∧ Hs K (upd G p o) M (upd H p o) := by
  have g := s.none_g h
  have e : Same G (upd G p o) := fun b u q => by rw [upd_ne (ne_of_none q g)]; exact q
  refine ⟨e, fun b u q => ?_, fun a u q => ?_⟩
  · unfold upd at q ⊢
    by_cases z : b = p
    · rw [if_pos z] at q ⊢; exact q
    · rw [if_neg z] at q ⊢; exact s.sub b u q
  · obtain ⟨g1, k⟩ := s.ok a u q
    have hn : a ≠ p := fun z => by rw [z, s.none_m h] at q; cases q
    exact ⟨by rw [upd_ne hn]; exact g1, k.mono e (upd_ne hn)⟩
/-- a new thing that nobody looks at -/
theorem Hs.junk {M : Mp} {p : Addr} {o : HO} (s : Hs K G M H) (h : H p = none) : Hs K G M (upd H p o) := by
  refine ⟨fun b u q => ?_, fun a u q => ?_⟩
  · rw [upd_ne (ne_of_none (s.sub b u q) h)]; exact s.sub b u q
  · obtain ⟨g1, k⟩ := s.ok a u q
    have hn : a ≠ p := fun z => by rw [z, s.none_m h] at q; cases q
    exact ⟨g1, k.mono (Same.refl _) (upd_ne hn)⟩
/-- a thing of the ledger, new or changed -/
theorem Hs.put {M : Mp} {p : Addr} {o : HO} {m : MO} (s : Hs K G M H) (g : G p = none) (k : MoOk K G (upd H p o) p m) : Hs K G (ud M p m) (upd H p o) := by
  refine ⟨fun b u q => ?_, fun a u q => ?_⟩
  · rw [upd_ne (ne_of_none q g)]; exact s.sub b u q
  · by_cases z : a = p
    · subst z
      rw [ud_same] at q
      cases q
      exact ⟨g, k⟩
    · rw [ud_ne z] at q
      obtain ⟨g1, k1⟩ := s.ok a u q
      exact ⟨g1, k1.mono (Same.refl _) (upd_ne z)⟩
theorem Hs.new {M : Mp} {p : Addr} {o : HO} {m : MO} (s : Hs K G M H) (h : H p = none) (k : MoOk K G (upd H p o) p m) : Hs K G (ud M p m) (upd H p o) := s.put (s.none_g h) k
/-- a list of the ledger is frozen -/
theorem Hs.freeze {M : Mp} {p : Addr} {ds : List D} (s : Hs K G M H) (h : M p = some (.lst ds)) : ∃ G', Same G G' ∧ Hs K G' (del M p) H ∧ Dt K G' (.ref p) (.lst ds) := by
  obtain ⟨g, xs, e, k⟩ := s.ok p _ h
  have e1 : Same G (upd G p (.lst xs)) := fun b u q => by rw [upd_ne (ne_of_none q g)]; exact q
  refine ⟨upd G p (.lst xs), e1, ⟨fun b u q => ?_, fun a u q => ?_⟩, .lst upd_same (k.mono e1)⟩
  · by_cases z : b = p
    · subst z; rw [upd_same] at q; cases q; exact e
    · rw [upd_ne z] at q; exact s.sub b u q
  · unfold del at q
    by_cases z : a = p
    · rw [if_pos z] at q; cases q
    · rw [if_neg z] at q
      obtain ⟨g1, k1⟩ := s.ok a u q
      exact ⟨by rw [upd_ne z]; exact g1, k1.mono e1 rfl⟩
theorem Hs.drop {M : Mp} {p : Addr} (s : Hs K G M H) : Hs K G (del M p) H := ⟨s.sub, fun a u q => by
  unfold del at q
  by_cases z : a = p
  · rw [if_pos z] at q; cases q
  · rw [if_neg z] at q; exact s.ok a u q⟩

/-! ### slots -/
def Rel (K : PySem.W.Frag) (G : Hp) (σ : L2.St) (ρ : Ro) : Prop := σ.length = ρ.length ∧ ∀ (i : Nat) (d : D), ρ[i]? = some (some d) → ∃ v, σ[i]? = some (some v) ∧ Dt K G v d
variable {σ : L2.St} {ρ : Ro}
theorem Rel.mono (e : Same G G') (r : Rel K G σ ρ) : Rel K G' σ ρ := ⟨r.1, fun i d h => let ⟨v, a, b⟩ := r.2 i d h; ⟨v, a, b.mono e⟩⟩
theorem Rel.set {v : V} {d : D} (r : Rel K G σ ρ) (h : Dt K G v d) (i : Nat) : Rel K G (σ.set i (some v)) (ρ.set i (some d)) := by
  refine ⟨by rw [List.length_set, List.length_set]; exact r.1, fun j e q => ?_⟩
  by_cases z : i = j
  · subst z
    by_cases l : i < ρ.length
    · rw [List.getElem?_set_self l] at q
      cases q
      exact ⟨v, List.getElem?_set_self (by rw [r.1]; exact l), h⟩
    · rw [List.getElem?_eq_none (by rw [List.length_set]; omega)] at q
      cases q
  · rw [List.getElem?_set_ne z] at q
    rw [List.getElem?_set_ne z]
    exact r.2 j e q
/-- a slot is forgotten -/
theorem Rel.forget (r : Rel K G σ ρ) (i : Nat) : Rel K G σ (ρ.set i none) := by
  refine ⟨by rw [List.length_set]; exact r.1, fun j e q => ?_⟩
  by_cases z : i = j
  · subst z
    by_cases l : i < ρ.length
    · rw [List.getElem?_set_self l] at q; cases q
    · rw [List.getElem?_eq_none (by rw [List.length_set]; omega)] at q
      cases q
  · rw [List.getElem?_set_ne z] at q
    exact r.2 j e q
def wipeD (ρ : Ro) : List Nat → Ro
  | [] => ρ
  | v :: vs => (wipeD ρ vs).set v none
theorem Rel.unset (r : Rel K G σ ρ) (i : Nat) : Rel K G (σ.set i none) (ρ.set i none) := by
  refine ⟨by rw [List.length_set, List.length_set]; exact r.1, fun j e q => ?_⟩
  by_cases z : i = j
  · subst z
    by_cases l : i < ρ.length
    · rw [List.getElem?_set_self l] at q; cases q
    · rw [List.getElem?_eq_none (by rw [List.length_set]; omega)] at q
      cases q
  · rw [List.getElem?_set_ne z] at q
    rw [List.getElem?_set_ne z]
    exact r.2 j e q
theorem Rel.wipe (r : Rel K G σ ρ) : ∀ vs : List Nat, Rel K G (wipe σ vs) (wipeD ρ vs)
  | [] => r
  | v :: vs => (Rel.wipe r vs).unset v
def startD (N : List Str) (ds : List D) : Ro := ds.map some ++ List.replicate (N.length - ds.length) none
theorem rel_start {vs : List V} {ds : List D} (N : List Str) (h : DtL K G vs ds) : Rel K G (L2.start N vs) (startD N ds) := by
  unfold L2.start startD
  refine ⟨by simp [h.length], fun i d q => ?_⟩
  by_cases l : i < ds.length
  · rw [List.getElem?_append_left (by simpa using l), List.getElem?_map] at q
    cases e : ds[i]? with
    | none => rw [e] at q; cases q
    | some z =>
      rw [e] at q
      cases q
      obtain ⟨v, h1, h2⟩ := h.get e
      exact ⟨v, by rw [List.getElem?_append_left (by rw [List.length_map, h.length]; exact l), List.getElem?_map, h1]; rfl, h2⟩
  · rw [List.getElem?_append_right (by rw [List.length_map]; omega), List.getElem?_replicate] at q
    split at q <;> cases q
end
end DL

namespace DL
open PySem L2
/-! ### judgements -/
structure Jx where
  K : PySem.W.Frag
  E : L2.St → XK
  xe : Ro → Addr → Mp → Prop
abbrev noX : Addr → Mp → Prop := fun _ _ => False
abbrev J0 (K : PySem.W.Frag) : Jx := ⟨K, fun _ => E0, fun _ => noX⟩
/-- in a def that may raise -/
abbrev JX (K : PySem.W.Frag) (E : XK) (xe : Addr → Mp → Prop) : Jx := ⟨K, fun _ => E, fun _ => xe⟩
/-- what may be raised is taken -/
def XOk (J : Jx) (G : Hp) : Prop := ∀ c M' G' H' σ ρ, J.xe ρ c M' → Same G G' → Rel J.K G' σ ρ → Hs J.K G' M' H' → J.E σ (.ref c) none H'
theorem XOk.mono {J : Jx} {G G' : Hp} (e : Same G G') (h : XOk J G) : XOk J G' := fun c M' G1 H' σ ρ x s => h c M' G1 H' σ ρ x (e.trans s)
/-- what is wanted of a value -/
def VQ (J : Jx) (G : Hp) (R : D → Mp → Prop) (Q : VK) : Prop := ∀ v d G' M' H', R d M' → Same G G' → Hs J.K G' M' H' → Dt J.K G' v d → Q v H'
theorem VQ.mono {J : Jx} {G G' : Hp} {R : D → Mp → Prop} {Q : VK} (e : Same G G') (h : VQ J G R Q) : VQ J G' R Q := fun v d G1 M' H' r s => h v d G1 M' H' r (e.trans s)
def W (J : Jx) (te : TE) (ρ : Ro) (M : Mp) (R : D → Mp → Prop) : Prop :=
  ∀ G σ H, Rel J.K G σ ρ → Hs J.K G M H → XOk J G → ∀ Q : VK, VQ J G R Q → te σ H Q
def WT (J : Jx) (tt : TT) (ρ : Ro) (M : Mp) (R : Bool → Mp → Prop) : Prop :=
  ∀ G σ H, Rel J.K G σ ρ → Hs J.K G M H → XOk J G → ∀ Q : Bool → Hp → Prop, (∀ b G' M' H', R b M' → Same G G' → Hs J.K G' M' H' → Q b H') → tt σ H Q
def WA (J : Jx) (ta : TA) (ρ : Ro) (M : Mp) (R : List D → Mp → Prop) : Prop :=
  ∀ G σ H, Rel J.K G σ ρ → Hs J.K G M H → XOk J G → ∀ Q : List V → Hp → Prop, (∀ vs ds G' M' H', R ds M' → Same G G' → Hs J.K G' M' H' → DtL J.K G' vs ds → Q vs H') → ta σ H Q
abbrev Ev (J : Jx) (te : TE) (ρ : Ro) (M : Mp) (d : D) : Prop := W J te ρ M fun d' M' => d' = d ∧ M' = M
abbrev ET (J : Jx) (tt : TT) (ρ : Ro) (M : Mp) (b : Bool) : Prop := WT J tt ρ M fun b' M' => b' = b ∧ M' = M
abbrev EvA (J : Jx) (ta : TA) (ρ : Ro) (M : Mp) (ds : List D) : Prop := WA J ta ρ M fun ds' M' => ds' = ds ∧ M' = M
/-- a new list of the ledger -/
def Fresh (M : Mp) (ds : List D) : D → Mp → Prop := fun d M' => ∃ p, M p = none ∧ d = .ref p ∧ M' = ud M p (.lst ds)
abbrev EvN (J : Jx) (te : TE) (ρ : Ro) (M : Mp) (ds : List D) : Prop := W J te ρ M (Fresh M ds)
section
variable {J : Jx} {te ta tb tc : TE} {tt tu : TT} {t : TA} {ρ : Ro} {M : Mp} {d x y z : D} {ds es : List D} {b c : Bool} {R R' : D → Mp → Prop}
theorem W.imp (h : W J te ρ M R) (k : ∀ d M', R d M' → R' d M') : W J te ρ M R' := fun G σ H r s xo Q q => h G σ H r s xo Q fun v d G' M' H' r1 => q v d G' M' H' (k d M' r1)
theorem WT.imp {R R' : Bool → Mp → Prop} (h : WT J tt ρ M R) (k : ∀ d M', R d M' → R' d M') : WT J tt ρ M R' := fun G σ H r s xo Q q => h G σ H r s xo Q fun b G' M' H' r1 => q b G' M' H' (k b M' r1)
theorem WA.imp {R R' : List D → Mp → Prop} (h : WA J t ρ M R) (k : ∀ d M', R d M' → R' d M') : WA J t ρ M R' := fun G σ H r s xo Q q => h G σ H r s xo Q fun v d G' M' H' r1 => q v d G' M' H' (k d M' r1)
theorem Ev.w (h : Ev J te ρ M d) (k : R d M) : W J te ρ M R := W.imp h fun d' M' e => by obtain ⟨rfl, rfl⟩ := e; exact k
theorem ET.w {R : Bool → Mp → Prop} (h : ET J tt ρ M b) (k : R b M) : WT J tt ρ M R := WT.imp h fun d' M' e => by obtain ⟨rfl, rfl⟩ := e; exact k
theorem EvA.w {R : List D → Mp → Prop} (h : EvA J t ρ M ds) (k : R ds M) : WA J t ρ M R := WA.imp h fun d' M' e => by obtain ⟨rfl, rfl⟩ := e; exact k
theorem EvN.w (h : EvN J te ρ M ds) (k : ∀ p, M p = none → R (.ref p) (ud M p (.lst ds))) : W J te ρ M R := W.imp h fun d' M' e => by obtain ⟨p, e1, rfl, rfl⟩ := e; exact k p e1
theorem Ev.is (h : Ev J te ρ M d) (e : d = x) : Ev J te ρ M x := by rw [← e]; exact h
theorem ET.is (h : ET J tt ρ M b) (e : b = c) : ET J tt ρ M c := by rw [← e]; exact h
theorem EvN.is (h : EvN J te ρ M ds) (e : ds = es) : EvN J te ρ M es := by rw [← e]; exact h
/-- a new list, frozen at once -/
theorem EvN.ev (h : EvN J te ρ M ds) : Ev J te ρ M (.lst ds) := fun G σ H r s xo Q q => h G σ H r s xo Q fun v d G' M' H' r1 e1 s1 t1 => by
  obtain ⟨p, n, rfl, rfl⟩ := r1
  obtain ⟨G2, e2, s2, t2⟩ := s1.freeze (p := p) ud_same
  rw [del_ud n] at s2
  cases t1 with
  | ref a => exact q _ _ G2 M H' ⟨rfl, rfl⟩ (e1.trans e2) s2 t2

theorem ev_var {i : Nat} (h : ρ[i]? = some (some d)) : Ev J (tVar i) ρ M d := fun G σ H r s xo Q q => by
  obtain ⟨v, h1, h2⟩ := r.2 i d h
  exact ⟨v, h1, q v d G M H ⟨rfl, rfl⟩ (Same.refl G) s h2⟩
theorem ev_c {v : V} (h : ∀ G, Dt J.K G v d) : Ev J (tC v) ρ M d := fun G σ H r s xo Q q => q v d G M H ⟨rfl, rfl⟩ (Same.refl G) s (h G)
theorem ev_int {i : Int} : Ev J (tC (.int i)) ρ M (.int i) := ev_c fun _ => .int i
theorem ev_bl {i : Bool} : Ev J (tC (.bl i)) ρ M (.bl i) := ev_c fun _ => .bl i
theorem ev_non : Ev J (tC .non) ρ M .non := ev_c fun _ => .non
theorem ev_str {i : Str} : Ev J (tC (.str i)) ρ M (.str i) := ev_c fun _ => .str i
theorem ev_ty {i : String} : Ev J (tC (.ty i)) ρ M (.ty i) := ev_c fun _ => .ty i

/-! ### operators by values -/
def Op2 (J : Jx) (r : R2) (x y : D) (M : Mp) (R : D → Mp → Prop) : Prop := ∀ G H vx vy, Hs J.K G M H → Dt J.K G vx x → Dt J.K G vy y → ∀ Q : VK, VQ J G R Q → r vx vy H Q
theorem w_op {r : R2} (h : W J ta ρ M fun x M1 => W J tb ρ M1 fun y M2 => Op2 J r x y M2 R) : W J (tOp r ta tb) ρ M R := fun G σ H rl s xo Q q =>
  h G σ H rl s xo _ fun v1 d1 G1 M1 H1 h1 e1 s1 t1 => h1 G1 σ H1 (rl.mono e1) s1 (xo.mono e1) _ fun v2 d2 G2 M2 H2 h2 e2 s2 t2 =>
    h2 G2 H2 v1 v2 s2 (t1.mono e2) t2 Q (q.mono (e1.trans e2))
theorem w_op1 {r : R2} (ha : Ev J ta ρ M x) (hb : Ev J tb ρ M y) (h : Op2 J r x y M R) : W J (tOp r ta tb) ρ M R := w_op (ha.w (hb.w h))
theorem op2_val {r : R2} (h : ∀ G H vx vy, Hs J.K G M H → Dt J.K G vx x → Dt J.K G vy y → ∃ v, Dt J.K G v z ∧ ∀ Q : VK, Q v H → r vx vy H Q) : Op2 J r x y M fun d M' => d = z ∧ M' = M := fun G H vx vy s tx ty Q q => by
  obtain ⟨v, tv, k⟩ := h G H vx vy s tx ty
  exact k Q (q v z G M H ⟨rfl, rfl⟩ (Same.refl G) s tv)
theorem ev_I0 {f : Int → Int → Int} {i j : Int} (ha : Ev J ta ρ M (.int i)) (hb : Ev J tb ρ M (.int j)) : Ev J (tOp (rI0 fun i j => .int (f i j)) ta tb) ρ M (.int (f i j)) :=
  w_op1 ha hb (op2_val fun G H vx vy s tx ty => by cases tx; cases ty; exact ⟨_, .int _, fun Q q => ⟨i, j, rfl, rfl, q⟩⟩)
theorem ev_B0 {f : Int → Int → Bool} {i j : Int} (ha : Ev J ta ρ M (.int i)) (hb : Ev J tb ρ M (.int j)) : Ev J (tOp (rI0 fun i j => .bl (f i j)) ta tb) ρ M (.bl (f i j)) :=
  w_op1 ha hb (op2_val fun G H vx vy s tx ty => by cases tx; cases ty; exact ⟨_, .bl _, fun Q q => ⟨i, j, rfl, rfl, q⟩⟩)
theorem ev_I {C : Int → Int → Prop} {f : Int → Int → Int} {i j : Int} (ha : Ev J ta ρ M (.int i)) (hb : Ev J tb ρ M (.int j)) (hc : C i j) : Ev J (tOp (rI C fun i j => .int (f i j)) ta tb) ρ M (.int (f i j)) :=
  w_op1 ha hb (op2_val fun G H vx vy s tx ty => by cases tx; cases ty; exact ⟨_, .int _, fun Q q => ⟨i, j, rfl, rfl, hc, q⟩⟩)
theorem ev_U {f : Int → Int} {i : Int} (ha : Ev J ta ρ M (.int i)) : Ev J (tUn (rU fun i => .int (f i)) ta) ρ M (.int (f i)) := fun G σ H r s xo Q q =>
  ha G σ H r s xo _ fun v d G' M' H' e e1 s1 t1 => by
    obtain ⟨rfl, rfl⟩ := e
    cases t1
    exact ⟨i, rfl, q _ _ G' M' H' ⟨rfl, rfl⟩ e1 s1 (.int _)⟩
theorem dec_I {i j : Int} : decide (V.int i = V.int j) = decide (i = j) := by
  by_cases h : i = j
  · rw [h]; simp
  · rw [decide_eq_false h]; exact decide_eq_false fun e => h (V.int.inj e)
theorem dec_B {i j : Bool} : decide (V.bl i = V.bl j) = decide (i = j) := by
  by_cases h : i = j
  · rw [h]; simp
  · rw [decide_eq_false h]; exact decide_eq_false fun e => h (V.bl.inj e)
theorem ev_eqI {i j : Int} (ha : Ev J ta ρ M (.int i)) (hb : Ev J tb ρ M (.int j)) : Ev J (tOp rEq ta tb) ρ M (.bl (decide (i = j))) :=
  w_op1 ha hb (op2_val fun G H vx vy s tx ty => by cases tx; cases ty; exact ⟨_, .bl _, fun Q q => ⟨rfl, by rw [dec_I]; exact q⟩⟩)
theorem ev_neI {i j : Int} (ha : Ev J ta ρ M (.int i)) (hb : Ev J tb ρ M (.int j)) : Ev J (tOp rNe ta tb) ρ M (.bl (!decide (i = j))) :=
  w_op1 ha hb (op2_val fun G H vx vy s tx ty => by cases tx; cases ty; exact ⟨_, .bl _, fun Q q => ⟨rfl, by rw [dec_I]; exact q⟩⟩)
theorem ev_eqB {i j : Bool} (ha : Ev J ta ρ M (.bl i)) (hb : Ev J tb ρ M (.bl j)) : Ev J (tOp rEq ta tb) ρ M (.bl (decide (i = j))) :=
  w_op1 ha hb (op2_val fun G H vx vy s tx ty => by cases tx; cases ty; exact ⟨_, .bl _, fun Q q => ⟨rfl, by rw [dec_B]; exact q⟩⟩)
theorem ev_neB {i j : Bool} (ha : Ev J ta ρ M (.bl i)) (hb : Ev J tb ρ M (.bl j)) : Ev J (tOp rNe ta tb) ρ M (.bl (!decide (i = j))) :=
  w_op1 ha hb (op2_val fun G H vx vy s tx ty => by cases tx; cases ty; exact ⟨_, .bl _, fun Q q => ⟨rfl, by rw [dec_B]; exact q⟩⟩)
/-- an int or None -/
def oD : Option Int → D
  | none => .non
  | some i => .int i
def oV : Option Int → V
  | none => .non
  | some i => .int i
theorem dt_oD {K : PySem.W.Frag} {G : Hp} {v : V} : ∀ {a : Option Int}, Dt K G v (oD a) → v = oV a
  | none, h => by cases h; rfl
  | some i, h => by cases h; rfl
theorem dt_oV {K : PySem.W.Frag} {G : Hp} : ∀ (a : Option Int), Dt K G (oV a) (oD a)
  | none => .non
  | some i => .int i
theorem dec_O : ∀ {a b : Option Int}, decide (oV a = oV b) = decide (a = b)
  | none, none => by simp
  | none, some j => by simp [oV]
  | some i, none => by simp [oV]
  | some i, some j => by
    by_cases h : i = j
    · rw [h]; simp
    · rw [decide_eq_false (show ¬ some i = some j from fun e => h (Option.some.inj e))]
      exact decide_eq_false fun e => h (V.int.inj e)
theorem scal_O : ∀ {a b : Option Int}, scal (oV a) (oV b) = true
  | none, none => rfl
  | none, some j => rfl
  | some i, none => rfl
  | some i, some j => rfl
theorem ev_eqO {a b : Option Int} (ha : Ev J ta ρ M (oD a)) (hb : Ev J tb ρ M (oD b)) : Ev J (tOp rEq ta tb) ρ M (.bl (decide (a = b))) :=
  w_op1 ha hb (op2_val fun G H vx vy s tx ty => by rw [dt_oD tx, dt_oD ty]; exact ⟨_, .bl _, fun Q q => ⟨scal_O, by rw [dec_O]; exact q⟩⟩)
theorem ev_neO {a b : Option Int} (ha : Ev J ta ρ M (oD a)) (hb : Ev J tb ρ M (oD b)) : Ev J (tOp rNe ta tb) ρ M (.bl (!decide (a = b))) :=
  w_op1 ha hb (op2_val fun G H vx vy s tx ty => by rw [dt_oD tx, dt_oD ty]; exact ⟨_, .bl _, fun Q q => ⟨scal_O, by rw [dec_O]; exact q⟩⟩)
def isNon : D → Bool
  | .non => true
  | _ => false
theorem isNon_dt {K : PySem.W.Frag} {G : Hp} {v : V} {d : D} (h : Dt K G v d) : decide (v = .non) = isNon d := by
  cases h <;> simp [isNon]
theorem ev_isN (ha : Ev J ta ρ M d) : Ev J (tIsN ta) ρ M (.bl (isNon d)) := fun G σ H r s xo Q q =>
  ha G σ H r s xo _ fun v d' G' M' H' e e1 s1 t1 => by
    obtain ⟨rfl, rfl⟩ := e
    show Q (.bl (decide (v = .non))) H'
    rw [isNon_dt t1]
    exact q _ _ G' M' H' ⟨rfl, rfl⟩ e1 s1 (.bl _)
theorem ev_notN (ha : Ev J ta ρ M d) : Ev J (tNotN ta) ρ M (.bl (!isNon d)) := fun G σ H r s xo Q q =>
  ha G σ H r s xo _ fun v d' G' M' H' e e1 s1 t1 => by
    obtain ⟨rfl, rfl⟩ := e
    show Q (.bl (!decide (v = .non))) H'
    rw [isNon_dt t1]
    exact q _ _ G' M' H' ⟨rfl, rfl⟩ e1 s1 (.bl _)

/-! ### tests -/
theorem et_test (h : Ev J te ρ M (.bl b)) : ET J (tTest te) ρ M b := fun G σ H r s xo Q q => h G σ H r s xo _ fun v d G' M' H' e e1 s1 t1 => by
  obtain ⟨rfl, rfl⟩ := e
  cases t1
  exact ⟨b, rfl, q b G' M' H' ⟨rfl, rfl⟩ e1 s1⟩
theorem et_B (h : Ev J te ρ M (.bl b)) : ET J (tB te) ρ M b := fun G σ H r s xo Q q => h G σ H r s xo _ fun v d G' M' H' e e1 s1 t1 => by
  obtain ⟨rfl, rfl⟩ := e
  cases t1
  exact ⟨b, rfl, q b G' M' H' ⟨rfl, rfl⟩ e1 s1⟩
theorem wt_B {R : Bool → Mp → Prop} (h : W J te ρ M fun d M' => ∃ b, d = .bl b ∧ R b M') : WT J (tB te) ρ M R := fun G σ H r s xo Q q => h G σ H r s xo _ fun v d G' M' H' e e1 s1 t1 => by
  obtain ⟨b, rfl, rb⟩ := e
  cases t1
  exact ⟨b, rfl, q b G' M' H' rb e1 s1⟩
theorem wt_not {R : Bool → Mp → Prop} (h : WT J tt ρ M fun b M' => R (!b) M') : WT J (tNot tt) ρ M R := fun G σ H r s xo Q q => h G σ H r s xo _ fun b G' M' H' e e1 s1 => q (!b) G' M' H' e e1 s1
theorem et_not (h : ET J tt ρ M b) : ET J (tNot tt) ρ M (!b) := wt_not (h.w ⟨rfl, rfl⟩)
theorem wt_and {R : Bool → Mp → Prop} (h : WT J tt ρ M fun b M' => if b = true then WT J tu ρ M' R else R false M') : WT J (tAnd tt tu) ρ M R := fun G σ H r s xo Q q => h G σ H r s xo _ fun b G' M' H' e e1 s1 => by
  cases b with
  | true =>
    rw [if_pos rfl] at e ⊢
    exact e G' σ H' (r.mono e1) s1 (xo.mono e1) Q fun b2 G2 M2 H2 r2 e2 => q b2 G2 M2 H2 r2 (e1.trans e2)
  | false =>
    rw [if_neg Bool.false_ne_true] at e ⊢
    exact q false G' M' H' e e1 s1
theorem wt_or {R : Bool → Mp → Prop} (h : WT J tt ρ M fun b M' => if b = true then R true M' else WT J tu ρ M' R) : WT J (tOr tt tu) ρ M R := fun G σ H r s xo Q q => h G σ H r s xo _ fun b G' M' H' e e1 s1 => by
  cases b with
  | false =>
    rw [if_neg Bool.false_ne_true] at e ⊢
    exact e G' σ H' (r.mono e1) s1 (xo.mono e1) Q fun b2 G2 M2 H2 r2 e2 => q b2 G2 M2 H2 r2 (e1.trans e2)
  | true =>
    rw [if_pos rfl] at e ⊢
    exact q true G' M' H' e e1 s1
theorem et_and (h1 : ET J tt ρ M b) (h2 : b = true → ET J tu ρ M c) : ET J (tAnd tt tu) ρ M (b && c) := wt_and (h1.w (by
  cases b with
  | true => exact h2 rfl
  | false => exact ⟨rfl, rfl⟩))
theorem et_or (h1 : ET J tt ρ M b) (h2 : b = false → ET J tu ρ M c) : ET J (tOr tt tu) ρ M (b || c) := wt_or (h1.w (by
  cases b with
  | false => exact h2 rfl
  | true => exact ⟨rfl, rfl⟩))
theorem w_ifE (h : WT J tt ρ M fun b M' => (b = true → W J ta ρ M' R) ∧ (b = false → W J tb ρ M' R)) : W J (tIf tt ta tb) ρ M R := fun G σ H r s xo Q q => h G σ H r s xo _ fun b G' M' H' e e1 s1 => by
  cases b with
  | true =>
    rw [if_pos rfl]
    exact e.1 rfl G' σ H' (r.mono e1) s1 (xo.mono e1) Q (q.mono e1)
  | false =>
    rw [if_neg Bool.false_ne_true]
    exact e.2 rfl G' σ H' (r.mono e1) s1 (xo.mono e1) Q (q.mono e1)
theorem ev_ifE (h : ET J tt ρ M b) (h1 : b = true → Ev J ta ρ M d) (h2 : b = false → Ev J tb ρ M d) : Ev J (tIf tt ta tb) ρ M d := w_ifE (h.w ⟨h1, h2⟩)
theorem w_andV (h : W J ta ρ M fun d M' => ∃ b, d = .bl b ∧ if b = true then W J tb ρ M' R else R (.bl false) M') : W J (tAndV ta tb) ρ M R := fun G σ H r s xo Q q => h G σ H r s xo _ fun v d G' M' H' e e1 s1 t1 => by
  obtain ⟨b, rfl, e⟩ := e
  cases t1
  refine ⟨b, rfl, ?_⟩
  cases b with
  | true =>
    rw [if_pos rfl] at e ⊢
    exact e G' σ H' (r.mono e1) s1 (xo.mono e1) Q (q.mono e1)
  | false =>
    rw [if_neg Bool.false_ne_true] at e ⊢
    exact q _ _ G' M' H' e e1 s1 (.bl _)
theorem w_orV (h : W J ta ρ M fun d M' => ∃ b, d = .bl b ∧ if b = true then R (.bl true) M' else W J tb ρ M' R) : W J (tOrV ta tb) ρ M R := fun G σ H r s xo Q q => h G σ H r s xo _ fun v d G' M' H' e e1 s1 t1 => by
  obtain ⟨b, rfl, e⟩ := e
  cases t1
  refine ⟨b, rfl, ?_⟩
  cases b with
  | false =>
    rw [if_neg Bool.false_ne_true] at e ⊢
    exact e G' σ H' (r.mono e1) s1 (xo.mono e1) Q (q.mono e1)
  | true =>
    rw [if_pos rfl] at e ⊢
    exact q _ _ G' M' H' e e1 s1 (.bl _)
theorem ev_andV (h1 : Ev J ta ρ M (.bl b)) (h2 : b = true → Ev J tb ρ M (.bl c)) : Ev J (tAndV ta tb) ρ M (.bl (b && c)) := w_andV (h1.w ⟨b, rfl, by
  cases b with
  | true => exact h2 rfl
  | false => exact ⟨rfl, rfl⟩⟩)
theorem ev_orV (h1 : Ev J ta ρ M (.bl b)) (h2 : b = false → Ev J tb ρ M (.bl c)) : Ev J (tOrV ta tb) ρ M (.bl (b || c)) := w_orV (h1.w ⟨b, rfl, by
  cases b with
  | false => exact h2 rfl
  | true => exact ⟨rfl, rfl⟩⟩)
theorem ev_notV (h : Ev J ta ρ M (.bl b)) : Ev J (tNotV ta) ρ M (.bl (!b)) := fun G σ H r s xo Q q => h G σ H r s xo _ fun v d G' M' H' e e1 s1 t1 => by
  obtain ⟨rfl, rfl⟩ := e
  cases t1
  exact ⟨b, rfl, q _ _ G' M' H' ⟨rfl, rfl⟩ e1 s1 (.bl _)⟩
theorem w_chain {r r' : R2} (h : W J ta ρ M fun x M1 => W J tb ρ M1 fun y M2 => Op2 J r x y M2 fun z M3 => ∃ b, z = .bl b ∧ if b = true then W J tc ρ M3 fun u M4 => Op2 J r' y u M4 R else R (.bl false) M3) : W J (tChain r r' ta tb tc) ρ M R := fun G σ H rl s xo Q q =>
  h G σ H rl s xo _ fun v1 d1 G1 M1 H1 h1 e1 s1 t1 => h1 G1 σ H1 (rl.mono e1) s1 (xo.mono e1) _ fun v2 d2 G2 M2 H2 h2 e2 s2 t2 => h2 G2 H2 v1 v2 s2 (t1.mono e2) t2 _ fun v3 d3 G3 M3 H3 h3 e3 s3 t3 => by
    obtain ⟨b, rfl, h3⟩ := h3
    cases t3
    refine ⟨b, rfl, ?_⟩
    cases b with
    | true =>
      rw [if_pos rfl] at h3 ⊢
      exact h3 G3 σ H3 (rl.mono ((e1.trans e2).trans e3)) s3 (xo.mono ((e1.trans e2).trans e3)) _ fun v4 d4 G4 M4 H4 h4 e4 s4 t4 => h4 G4 H4 v2 v4 s4 (t2.mono (e3.trans e4)) t4 Q (q.mono (((e1.trans e2).trans e3).trans e4))
    | false =>
      rw [if_neg Bool.false_ne_true] at h3 ⊢
      exact q _ _ G3 M3 H3 h3 ((e1.trans e2).trans e3) s3 (.bl _)
theorem op2_B0 {f : Int → Int → Bool} {i j : Int} (h : R (.bl (f i j)) M) : Op2 J (rI0 fun i j => .bl (f i j)) (.int i) (.int j) M R := fun G H vx vy s tx ty Q q => by
  cases tx; cases ty
  exact ⟨i, j, rfl, rfl, q _ _ G M H h (Same.refl G) s (.bl _)⟩
theorem ev_chainB {f g : Int → Int → Bool} {i j k : Int} (ha : Ev J ta ρ M (.int i)) (hb : Ev J tb ρ M (.int j)) (hc : Ev J tc ρ M (.int k)) : Ev J (tChain (rI0 fun i j => .bl (f i j)) (rI0 fun i j => .bl (g i j)) ta tb tc) ρ M (.bl (f i j && g j k)) :=
  w_chain (ha.w (hb.w (op2_B0 ⟨f i j, rfl, by
    cases h : f i j with
    | true => exact hc.w (op2_B0 ⟨rfl, rfl⟩)
    | false => exact ⟨rfl, rfl⟩⟩)))

/-! ### arguments -/
theorem ea_nil : EvA J tNil ρ M [] := fun G σ H r s xo Q q => q [] [] G M H ⟨rfl, rfl⟩ (Same.refl G) s .nil
theorem wa_cons {R : List D → Mp → Prop} (h : W J ta ρ M fun x M1 => WA J t ρ M1 fun xs M2 => R (x :: xs) M2) : WA J (tCons ta t) ρ M R := fun G σ H r s xo Q q =>
  h G σ H r s xo _ fun v d G1 M1 H1 h1 e1 s1 t1 => h1 G1 σ H1 (r.mono e1) s1 (xo.mono e1) _ fun vs ds G2 M2 H2 h2 e2 s2 t2 => q _ _ G2 M2 H2 h2 (e1.trans e2) s2 (.cons (t1.mono e2) t2)
theorem ea_cons (h : Ev J ta ρ M x) (k : EvA J t ρ M ds) : EvA J (tCons ta t) ρ M (x :: ds) := wa_cons (h.w (k.w ⟨rfl, rfl⟩))
theorem wa_nil {R : List D → Mp → Prop} (h : R [] M) : WA J tNil ρ M R := ea_nil.w h
/-- a tuple, a list made -/
theorem ev_tup (h : EvA J t ρ M ds) (hl : ds.length ≤ sizeLine) : Ev J (tTup t) ρ M (.tup ds) := fun G σ H r s xo Q q => h G σ H r s xo _ fun vs ds' G1 M1 H1 e e1 s1 t1 => by
  obtain ⟨rfl, rfl⟩ := e
  refine ⟨by rw [t1.length]; exact hl, fun p hp => ?_⟩
  obtain ⟨e2, s2⟩ := s1.froz (o := .tup vs) hp
  exact q _ _ _ _ _ ⟨rfl, rfl⟩ (e1.trans e2) s2 (.tup upd_same (t1.mono e2))
theorem en_lst (h : EvA J t ρ M ds) (hl : ds.length ≤ sizeLine) : EvN J (tLst t) ρ M ds := fun G σ H r s xo Q q => h G σ H r s xo _ fun vs ds' G1 M1 H1 e e1 s1 t1 => by
  obtain ⟨rfl, rfl⟩ := e
  refine ⟨by rw [t1.length]; exact hl, fun p hp => ?_⟩
  exact q _ _ G1 _ _ ⟨p, s1.none_m hp, rfl, rfl⟩ e1 (s1.new (m := .lst ds') hp ⟨vs, upd_same, t1⟩) (.ref p)

/-! ### calls -/
abbrev Pr := List D → Mp → (D → Mp → Prop) → (Addr → Mp → Prop) → Prop
def spD (K : PySem.W.Frag) (Rf : Pr) : Sp := fun vs H Q E => ∃ G M ds nx xe, Hs K G M H ∧ DtL K G vs ds ∧ Rf ds M nx xe ∧
  (∀ v d G' M' H', nx d M' → Same G G' → Hs K G' M' H' → Dt K G' v d → Q v H') ∧ ∀ c M' G' H', xe c M' → Same G G' → Hs K G' M' H' → E (.ref c) none H'
theorem w_callX {Rf : Pr} {K : PySem.W.Frag} {E : XK} {xe : Addr → Mp → Prop} (ha : WA (JX K E xe) t ρ M fun ds M1 => Rf ds M1 R xe) : W (JX K E xe) (tCall (spD K Rf) [] E t) ρ M R := fun G σ H r s xo Q q => ha G σ H r s xo _ fun vs ds G1 M1 H1 h1 e1 s1 t1 => by
  rw [List.append_nil]
  exact ⟨G1, M1, ds, R, xe, s1, t1, h1, q.mono e1, fun c M' G' H' x s' k => xo c M' G' H' σ ρ x (e1.trans s') (r.mono (e1.trans s')) k⟩
theorem w_call {Rf : Pr} {E : XK} (ha : WA J t ρ M fun ds M1 => Rf ds M1 R noX) : W J (tCall (spD J.K Rf) [] E t) ρ M R := fun G σ H r s xo Q q => ha G σ H r s xo _ fun vs ds G1 M1 H1 h1 e1 s1 t1 => by
  rw [List.append_nil]
  exact ⟨G1, M1, ds, R, noX, s1, t1, h1, q.mono e1, fun _ _ _ _ z => z.elim⟩
/-- a def that changes nothing and answers by its arguments -/
abbrev pu (Rp : Mp → List D → D → Prop) : Pr := fun ds M nx _ => ∃ d, Rp M ds d ∧ nx d M
theorem ev_call {Rp : Mp → List D → D → Prop} {E : XK} (ha : EvA J t ρ M ds) (h : Rp M ds z) : Ev J (tCall (spD J.K (pu Rp)) [] E t) ρ M z := w_call (ha.w ⟨z, h, rfl, rfl⟩)
/-- .. by a new list -/
abbrev pl (Rp : Mp → List D → List D → Prop) : Pr := fun ds M nx _ => ∃ es, Rp M ds es ∧ ∀ p, M p = none → nx (.ref p) (ud M p (.lst es))
theorem en_call {Rp : Mp → List D → List D → Prop} {E : XK} (ha : EvA J t ρ M ds) (h : Rp M ds es) : EvN J (tCall (spD J.K (pl Rp)) [] E t) ρ M es := w_call (ha.w ⟨es, h, fun p hp => ⟨p, hp, rfl, rfl⟩⟩)
end
end DL

namespace DL
open PySem L2
/-! ### lists and tuples by what they hold -/
/-- a list, frozen, of the script, or of the ledger -/
def IsL (M : Mp) (d : D) (ds : List D) : Prop := d = .lst ds ∨ d = .frl ds ∨ ∃ a, d = .ref a ∧ M a = some (.lst ds)
/-- .. not of the script -/
def IsM (M : Mp) (d : D) (ds : List D) : Prop := d = .lst ds ∨ ∃ a, d = .ref a ∧ M a = some (.lst ds)
/-- a list or a tuple -/
def IsQ (M : Mp) (d : D) (ds : List D) : Prop := d = .tup ds ∨ IsL M d ds
section
variable {K : PySem.W.Frag} {G H : Hp} {M M' : Mp} {d : D} {ds es : List D} {v : V}
theorem IsL.l : IsL M (.lst ds) ds := .inl rfl
theorem IsL.f : IsL M (.frl ds) ds := .inr (.inl rfl)
theorem IsL.r {a : Addr} (h : M a = some (.lst ds)) : IsL M (.ref a) ds := .inr (.inr ⟨a, rfl, h⟩)
theorem IsM.l : IsM M (.lst ds) ds := .inl rfl
theorem IsM.r {a : Addr} (h : M a = some (.lst ds)) : IsM M (.ref a) ds := .inr ⟨a, rfl, h⟩
theorem IsM.il (h : IsM M d ds) : IsL M d ds := h.elim .inl fun z => .inr (.inr z)
theorem IsQ.t : IsQ M (.tup ds) ds := .inl rfl
theorem IsQ.l : IsQ M (.lst ds) ds := .inr .l
theorem IsL.q (h : IsL M d ds) : IsQ M d ds := .inr h
theorem IsL.sub (h : IsL M d ds) (s : Sub M M') : IsL M' d ds := by
  rcases h with h | h | ⟨a, h1, h2⟩
  · exact .inl h
  · exact .inr (.inl h)
  · exact .inr (.inr ⟨a, h1, s a _ h2⟩)
theorem IsM.sub (h : IsM M d ds) (s : Sub M M') : IsM M' d ds := by
  rcases h with h | ⟨a, h1, h2⟩
  · exact .inl h
  · exact .inr ⟨a, h1, s a _ h2⟩
theorem IsQ.sub (h : IsQ M d ds) (s : Sub M M') : IsQ M' d ds := by
  rcases h with h | h
  · exact .inl h
  · exact .inr (h.sub s)
theorem IsM.at (h : IsM M d ds) (s : Hs K G M H) (t : Dt K G v d) : ∃ a xs, v = .ref a ∧ H a = some (.lst xs) ∧ DtL K G xs ds := by
  rcases h with rfl | ⟨a, rfl, h⟩
  · cases t with
    | lst h1 h2 => exact ⟨_, _, rfl, s.sub _ _ h1, h2⟩
  · cases t
    obtain ⟨g, xs, e, k⟩ := s.ok a _ h
    exact ⟨a, xs, rfl, e, k⟩
theorem IsL.at (h : IsL M d ds) (s : Hs K G M H) (t : Dt K G v d) : ∃ a xs, v = .ref a ∧ SqL K H a xs ∧ DtL K G xs ds := by
  rcases h with h | rfl | h
  · obtain ⟨a, xs, e, h1, h2⟩ := IsM.at (.inl h) s t
    exact ⟨a, xs, e, SqL.of h1, h2⟩
  · cases t with
    | frl h1 h2 => exact ⟨_, _, rfl, s.sub.seq h1, h2⟩
  · obtain ⟨a, xs, e, h1, h2⟩ := IsM.at (.inr h) s t
    exact ⟨a, xs, e, SqL.of h1, h2⟩
theorem tup_at (s : Hs K G M H) (t : Dt K G v (.tup ds)) : ∃ a xs, v = .ref a ∧ H a = some (.tup xs) ∧ DtL K G xs ds := by
  cases t with
  | tup h1 h2 => exact ⟨_, _, rfl, s.sub _ _ h1, h2⟩
theorem IsQ.at (h : IsQ M d ds) (s : Hs K G M H) (t : Dt K G v d) : ∃ a xs, v = .ref a ∧ (SqL K H a xs ∨ SqT K H a xs) ∧ DtL K G xs ds := by
  rcases h with rfl | h
  · obtain ⟨a, xs, e, h1, h2⟩ := tup_at s t
    exact ⟨a, xs, e, .inr (SqT.of h1), h2⟩
  · obtain ⟨a, xs, e, h1, h2⟩ := h.at s t
    exact ⟨a, xs, e, .inl h1, h2⟩
theorem atI_dt {xs : List V} {i : Int} {z : D} (h : DtL K G xs ds) (e : atI ds i = some z) : ∃ v, atI xs i = some v ∧ Dt K G v z := by
  unfold atI at e ⊢
  rw [h.length]
  cases q : ixN ds.length i with
  | none => rw [q] at e; cases e
  | some j =>
    rw [q] at e
    exact h.get e
def cutD (ds : List D) (lo hi : Option Int) : List D := (ds.drop (HT.sIx ds.length 0 lo)).take (HT.sIx ds.length ds.length hi - HT.sIx ds.length 0 lo)
theorem cut_dt {xs : List V} {lo hi : Option Int} (h : DtL K G xs ds) : DtL K G (cutV xs lo hi) (cutD ds lo hi) := by
  unfold cutV cutD
  rw [h.length]
  exact (h.drop _).take _
theorem rep_dt {xs : List V} (h : DtL K G xs ds) : ∀ n : Nat, DtL K G (List.replicate n xs).flatten (List.replicate n ds).flatten
  | 0 => .nil
  | n + 1 => by
    rw [List.replicate_succ, List.replicate_succ, List.flatten_cons, List.flatten_cons]
    exact h.append (rep_dt h n)
theorem erase_dt : ∀ {xs : List V} {ds : List D} (k : Nat), DtL K G xs ds → DtL K G (xs.eraseIdx k) (ds.eraseIdx k)
  | _, _, _, .nil => .nil
  | _, _, 0, .cons _ t => t
  | _, _, k + 1, .cons r t => .cons r (erase_dt k t)
theorem dropLast_dt {xs : List V} (h : DtL K G xs ds) : DtL K G xs.dropLast ds.dropLast := by
  rw [List.dropLast_eq_take, List.dropLast_eq_take, h.length]
  exact h.take _
end

section
variable {J : Jx} {te ta tb tc to ti : TE} {tt tu : TT} {t : TA} {ρ : Ro} {M : Mp} {d x y z : D} {ds es : List D} {b c : Bool} {R R' : D → Mp → Prop}
theorem ev_ixL {i : Int} (ha : Ev J ta ρ M x) (hb : Ev J tb ρ M (.int i)) (hx : IsL M x ds) (h : atI ds i = some z) : Ev J (tOp (rIxL J.K) ta tb) ρ M z :=
  w_op1 ha hb (op2_val fun G H vx vy s tx ty => by
    cases ty
    obtain ⟨a, xs, e, h1, h2⟩ := hx.at s tx
    obtain ⟨v, e1, e2⟩ := atI_dt h2 h
    exact ⟨v, e2, fun Q q => ⟨a, xs, i, v, e, rfl, h1, e1, q⟩⟩)
theorem ev_ixT {i : Int} (ha : Ev J ta ρ M (.tup ds)) (hb : Ev J tb ρ M (.int i)) (h : atI ds i = some z) : Ev J (tOp (rIxT J.K) ta tb) ρ M z :=
  w_op1 ha hb (op2_val fun G H vx vy s tx ty => by
    cases ty
    obtain ⟨a, xs, e, h1, h2⟩ := tup_at s tx
    obtain ⟨v, e1, e2⟩ := atI_dt h2 h
    exact ⟨v, e2, fun Q q => ⟨a, xs, i, v, e, rfl, SqT.of h1, e1, q⟩⟩)
theorem ev_ixQ {i : Int} (ha : Ev J ta ρ M x) (hb : Ev J tb ρ M (.int i)) (hx : IsQ M x ds) (h : atI ds i = some z) : Ev J (tOp (rIx J.K) ta tb) ρ M z :=
  w_op1 ha hb (op2_val fun G H vx vy s tx ty => by
    cases ty
    obtain ⟨a, xs, e, h1, h2⟩ := hx.at s tx
    obtain ⟨v, e1, e2⟩ := atI_dt h2 h
    exact ⟨v, e2, fun Q q => h1.elim (fun h1 => .inl ⟨a, xs, i, v, e, rfl, h1, e1, q⟩) fun h1 => .inr (.inl ⟨a, xs, i, v, e, rfl, h1, e1, q⟩)⟩)
/-! calls of built-in functions by values -/
def OpA (J : Jx) (r : List V → Hp → VK → Prop) (ds : List D) (M : Mp) (R : D → Mp → Prop) : Prop := ∀ G H vs, Hs J.K G M H → DtL J.K G vs ds → ∀ Q : VK, VQ J G R Q → r vs H Q
theorem w_cb {r : List V → Hp → VK → Prop} (h : WA J t ρ M fun ds M1 => OpA J r ds M1 R) : W J (tCB r t) ρ M R := fun G σ H rl s xo Q q => h G σ H rl s xo _ fun vs ds G1 M1 H1 h1 e1 s1 t1 => h1 G1 H1 vs s1 t1 Q (q.mono e1)
theorem w_cb1 {r : List V → Hp → VK → Prop} (ha : EvA J t ρ M ds) (h : OpA J r ds M R) : W J (tCB r t) ρ M R := w_cb (ha.w h)
theorem opA_val {r : List V → Hp → VK → Prop} (h : ∀ G H vs, Hs J.K G M H → DtL J.K G vs ds → ∃ v, Dt J.K G v z ∧ ∀ Q : VK, Q v H → r vs H Q) : OpA J r ds M fun d M' => d = z ∧ M' = M := fun G H vs s tx Q q => by
  obtain ⟨v, tv, k⟩ := h G H vs s tx
  exact k Q (q v z G M H ⟨rfl, rfl⟩ (Same.refl G) s tv)
/-- a new list from values -/
theorem opA_new {r : List V → Hp → VK → Prop} (h : ∀ G H vs, Hs J.K G M H → DtL J.K G vs ds → ∃ xs, DtL J.K G xs es ∧ ∀ Q : VK, (∀ p, H p = none → Q (.ref p) (upd H p (.lst xs))) → r vs H Q) : OpA J r ds M (Fresh M es) := fun G H vs s tx Q q => by
  obtain ⟨xs, tv, k⟩ := h G H vs s tx
  exact k Q fun p hp => q _ _ G _ _ ⟨p, s.none_m hp, rfl, rfl⟩ (Same.refl G) (s.new (m := .lst es) hp ⟨xs, upd_same, tv⟩) (.ref p)
theorem op2_new {r : R2} (h : ∀ G H vx vy, Hs J.K G M H → Dt J.K G vx x → Dt J.K G vy y → ∃ xs, DtL J.K G xs es ∧ ∀ Q : VK, (∀ p, H p = none → Q (.ref p) (upd H p (.lst xs))) → r vx vy H Q) : Op2 J r x y M (Fresh M es) := fun G H vx vy s tx ty Q q => by
  obtain ⟨xs, tv, k⟩ := h G H vx vy s tx ty
  exact k Q fun p hp => q _ _ G _ _ ⟨p, s.none_m hp, rfl, rfl⟩ (Same.refl G) (s.new (m := .lst es) hp ⟨xs, upd_same, tv⟩) (.ref p)
theorem ev_len (ha : Ev J ta ρ M x) (hx : IsQ M x ds) : Ev J (tCB (fun xs H Q => ∃ p ys, xs = [.ref p] ∧ (SqL J.K H p ys ∨ SqT J.K H p ys) ∧ Q (.int ys.length) H) (tCons ta tNil)) ρ M (.int ds.length) :=
  w_cb1 (ea_cons ha ea_nil) (opA_val fun G H vs s tx => by
    cases tx with
    | cons t1 t2 =>
      cases t2
      obtain ⟨a, xs, rfl, h1, h2⟩ := hx.at s t1
      exact ⟨_, .int _, fun Q q => ⟨a, xs, rfl, h1, by rw [h2.length]; exact q⟩⟩)
theorem ev_max2 {i j : Int} (ha : Ev J ta ρ M (.int i)) (hb : Ev J tb ρ M (.int j)) : Ev J (tCB (fun xs H Q => ∃ i j, xs = [.int i, .int j] ∧ Q (.int (if j > i then j else i)) H) (tCons ta (tCons tb tNil))) ρ M (.int (max i j)) :=
  w_cb1 (ea_cons ha (ea_cons hb ea_nil)) (opA_val fun G H vs s tx => by
    cases tx with
    | cons t1 t2 =>
      cases t2 with
      | cons t2 t3 =>
        cases t1; cases t2; cases t3
        refine ⟨_, .int _, fun Q q => ⟨i, j, rfl, ?_⟩⟩
        have e : (if j > i then j else i) = max i j := by omega
        rw [e]; exact q)
theorem ev_min2 {i j : Int} (ha : Ev J ta ρ M (.int i)) (hb : Ev J tb ρ M (.int j)) : Ev J (tCB (fun xs H Q => ∃ i j, xs = [.int i, .int j] ∧ Q (.int (if j < i then j else i)) H) (tCons ta (tCons tb tNil))) ρ M (.int (min i j)) :=
  w_cb1 (ea_cons ha (ea_cons hb ea_nil)) (opA_val fun G H vs s tx => by
    cases tx with
    | cons t1 t2 =>
      cases t2 with
      | cons t2 t3 =>
        cases t1; cases t2; cases t3
        refine ⟨_, .int _, fun Q q => ⟨i, j, rfl, ?_⟩⟩
        have e : (if j < i then j else i) = min i j := by omega
        rw [e]; exact q)
theorem en_list (ha : Ev J ta ρ M x) (hx : IsQ M x ds) : EvN J (tCB (fun xs H Q => ∃ p ys, xs = [.ref p] ∧ (SqL J.K H p ys ∨ SqT J.K H p ys) ∧ ∀ l, H l = none → Q (.ref l) (upd H l (.lst ys))) (tCons ta tNil)) ρ M ds :=
  w_cb1 (ea_cons ha ea_nil) (opA_new fun G H vs s tx => by
    cases tx with
    | cons t1 t2 =>
      cases t2
      obtain ⟨a, xs, rfl, h1, h2⟩ := hx.at s t1
      exact ⟨xs, h2, fun Q q => ⟨a, xs, rfl, h1, q⟩⟩)
theorem ev_tuple (ha : Ev J ta ρ M x) (hx : IsQ M x ds) : Ev J (tCB (fun xs H Q => ∃ p ys, xs = [.ref p] ∧ ((SqL J.K H p ys ∧ ∀ l, H l = none → Q (.ref l) (upd H l (.tup ys))) ∨ (SqT J.K H p ys ∧ Q (.ref p) H))) (tCons ta tNil)) ρ M (.tup ds) :=
  w_cb1 (ea_cons ha ea_nil) (fun G H vs s tx Q q => by
    cases tx with
    | cons t1 t2 =>
      cases t2
      rcases hx with rfl | hx
      · obtain ⟨a, xs, rfl, h1, h2⟩ := tup_at s t1
        exact ⟨a, xs, rfl, .inr ⟨SqT.of h1, q _ _ G M H ⟨rfl, rfl⟩ (Same.refl G) s t1⟩⟩
      · obtain ⟨a, xs, rfl, h1, h2⟩ := hx.at s t1
        refine ⟨a, xs, rfl, .inl ⟨h1, fun l hl => ?_⟩⟩
        obtain ⟨e2, s2⟩ := s.froz (o := .tup xs) hl
        exact q _ _ _ _ _ ⟨rfl, rfl⟩ e2 s2 (.tup upd_same (h2.mono e2)))
theorem en_cat (ha : Ev J ta ρ M x) (hb : Ev J tb ρ M y) (hx : IsM M x ds) (hy : IsM M y es) (hl : ds.length + es.length ≤ sizeLine) : EvN J (tOp rCat ta tb) ρ M (ds ++ es) :=
  w_op1 ha hb (op2_new fun G H vx vy s tx ty => by
    obtain ⟨a, xs, rfl, h1, h2⟩ := hx.at s tx
    obtain ⟨a2, xs2, rfl, h12, h22⟩ := hy.at s ty
    exact ⟨_, h2.append h22, fun Q q => ⟨a, a2, xs, xs2, rfl, rfl, h1, h12, by rw [h2.length, h22.length]; exact hl, q⟩⟩)
theorem en_rep {k : Int} (ha : Ev J ta ρ M x) (hb : Ev J tb ρ M (.int k)) (hx : IsM M x ds) (h1 : -(2 ^ 63) ≤ k) (h2 : k < 2 ^ 63) (hl : ds.length * k.toNat ≤ sizeLine) : EvN J (tOp rRep ta tb) ρ M (List.replicate k.toNat ds).flatten :=
  w_op1 ha hb (op2_new fun G H vx vy s tx ty => by
    cases ty
    obtain ⟨a, xs, rfl, g1, g2⟩ := hx.at s tx
    exact ⟨_, rep_dt g2 _, fun Q q => ⟨a, k, xs, rfl, rfl, g1, h1, h2, by rw [g2.length]; exact hl, q⟩⟩)
/-! parts of slices -/
def EvO (J : Jx) (to : TO) (ρ : Ro) (M : Mp) (o : Option Int) : Prop := ∀ G σ H, Rel J.K G σ ρ → Hs J.K G M H → XOk J G → ∀ Q : Option Int → Hp → Prop, (∀ G' H', Same G G' → Hs J.K G' M H' → Q o H') → to σ H Q
theorem eo_no : EvO J tNoPart ρ M none := fun G σ H r s xo Q q => q G H (Same.refl G) s
theorem eo_of {i : Int} (h : Ev J te ρ M (.int i)) : EvO J (tPart te) ρ M (some i) := fun G σ H r s xo Q q => h G σ H r s xo _ fun v d G1 M1 H1 e e1 s1 t1 => by
  obtain ⟨rfl, rfl⟩ := e
  cases t1
  exact ⟨i, rfl, q G1 H1 e1 s1⟩
theorem en_sl {tl th : TO} {lo hi : Option Int} (h : Ev J te ρ M x) (h1 : EvO J tl ρ M lo) (h2 : EvO J th ρ M hi) (hx : IsL M x ds) : EvN J (tSl (rSlL J.K) te tl th) ρ M (cutD ds lo hi) := fun G σ H r s xo Q q =>
  h G σ H r s xo _ fun v d G1 M1 H1 e e1 s1 t1 => by
    obtain ⟨rfl, rfl⟩ := e
    refine h1 G1 σ H1 (r.mono e1) s1 (xo.mono e1) _ fun G2 H2 e2 s2 => h2 G2 σ H2 (r.mono (e1.trans e2)) s2 (xo.mono (e1.trans e2)) _ fun G3 H3 e3 s3 => ?_
    obtain ⟨a, xs, rfl, g1, g2⟩ := hx.at s3 (t1.mono (e2.trans e3))
    exact ⟨a, xs, rfl, g1, fun p hp => q _ _ G3 _ _ ⟨p, s3.none_m hp, rfl, rfl⟩ ((e1.trans e2).trans e3) (s3.new (m := .lst (cutD ds lo hi)) hp ⟨_, upd_same, cut_dt g2⟩) (.ref p)⟩

/-! ### methods of lists -/
def OpM (J : Jx) (r : V → List V → Hp → VK → Prop) (x : D) (ds : List D) (M : Mp) (R : D → Mp → Prop) : Prop := ∀ G H v vs, Hs J.K G M H → Dt J.K G v x → DtL J.K G vs ds → ∀ Q : VK, VQ J G R Q → r v vs H Q
theorem w_bm {r : V → List V → Hp → VK → Prop} (h : W J to ρ M fun x M1 => (∃ ds, IsL M1 x ds) ∧ WA J t ρ M1 fun ds M2 => OpM J r x ds M2 R) : W J (tBM J.K "list" r to t) ρ M R := fun G σ H rl s xo Q q =>
  h G σ H rl s xo _ fun v1 d1 G1 M1 H1 h1 e1 s1 t1 => by
    obtain ⟨⟨ds, hd⟩, h1⟩ := h1
    obtain ⟨a, xs, rfl, g1, g2⟩ := hd.at s1 t1
    exact ⟨.inl ⟨rfl, xs, g1⟩, h1 G1 σ H1 (rl.mono e1) s1 (xo.mono e1) _ fun vs ds2 G2 M2 H2 h2 e2 s2 t2 => h2 G2 H2 _ vs s2 (t1.mono e2) t2 Q (q.mono (e1.trans e2))⟩
theorem w_bm0 {r : V → List V → Hp → VK → Prop} (h : W J to ρ M fun x M1 => (∃ ds, IsL M1 x ds) ∧ OpM J r x [] M1 R) : W J (tBM0 J.K "list" r to) ρ M R := fun G σ H rl s xo Q q =>
  h G σ H rl s xo _ fun v1 d1 G1 M1 H1 h1 e1 s1 t1 => by
    obtain ⟨⟨ds, hd⟩, h1⟩ := h1
    obtain ⟨a, xs, rfl, g1, g2⟩ := hd.at s1 t1
    exact ⟨.inl ⟨rfl, xs, g1⟩, h1 G1 H1 _ [] s1 t1 .nil Q (q.mono e1)⟩
theorem w_append {a : Addr} (ho : Ev J to ρ M (.ref a)) (hm : M a = some (.lst ds)) (ha : Ev J ta ρ M x) (hl : ds.length < sizeLine) (k : R .non (ud M a (.lst (ds ++ [x])))) : W J (tBM J.K "list" rAppend to (tCons ta tNil)) ρ M R :=
  w_bm (ho.w ⟨⟨ds, .r hm⟩, (ea_cons ha ea_nil).w fun G H v vs s tx tv Q q => by
    cases tx
    cases tv with
    | cons t1 t2 =>
      cases t2
      obtain ⟨g, xs, e, g2⟩ := s.ok a _ hm
      exact ⟨a, xs, _, rfl, rfl, e, by rw [g2.length]; exact hl, q _ _ G _ _ k (Same.refl G) (s.put g ⟨_, upd_same, g2.append (.cons t1 .nil)⟩) .non⟩⟩)
/-- the argument may change the ledger -/
theorem w_appendW {a : Addr} (ho : Ev J to ρ M (.ref a)) (hm0 : M a = some (.lst es)) (ha : W J ta ρ M fun x M1 => ∃ ds, M1 a = some (.lst ds) ∧ ds.length < sizeLine ∧ R .non (ud M1 a (.lst (ds ++ [x])))) : W J (tBM J.K "list" rAppend to (tCons ta tNil)) ρ M R :=
  w_bm (ho.w ⟨⟨es, .r hm0⟩, wa_cons (ha.imp fun x M1 h => wa_nil (by
    obtain ⟨ds, hm, hl, k⟩ := h
    intro G H v vs s tx tv Q q
    cases tx
    cases tv with
    | cons t1 t2 =>
      cases t2
      obtain ⟨g, xs, e, g2⟩ := s.ok a _ hm
      exact ⟨a, xs, _, rfl, rfl, e, by rw [g2.length]; exact hl, q _ _ G _ _ k (Same.refl G) (s.put g ⟨_, upd_same, g2.append (.cons t1 .nil)⟩) .non⟩))⟩)
theorem w_popAt {a : Addr} {i : Int} {k : Nat} (ho : Ev J to ρ M (.ref a)) (hm : M a = some (.lst ds)) (ha : Ev J ta ρ M (.int i)) (h1 : -(2 ^ 63) ≤ i) (h2 : i < 2 ^ 63) (hi : seqIndex? i ds.length = some k) (hz : ds[k]? = some z) (kk : R z (ud M a (.lst (ds.eraseIdx k)))) :
    W J (tBM J.K "list" rPopAt to (tCons ta tNil)) ρ M R :=
  w_bm (ho.w ⟨⟨ds, .r hm⟩, (ea_cons ha ea_nil).w fun G H v vs s tx tv Q q => by
    cases tx
    cases tv with
    | cons t1 t2 =>
      cases t2
      cases t1
      obtain ⟨g, xs, e, g2⟩ := s.ok a _ hm
      obtain ⟨v, e1, e2⟩ := g2.get hz
      exact ⟨a, xs, i, k, v, rfl, rfl, e, h1, h2, by rw [g2.length]; exact hi, e1, q _ _ G _ _ kk (Same.refl G) (s.put g ⟨_, upd_same, erase_dt k g2⟩) e2⟩⟩)
theorem w_insert {a : Addr} {i : Int} (ho : Ev J to ρ M (.ref a)) (hm : M a = some (.lst ds)) (ha : Ev J ta ρ M (.int i)) (hb : Ev J tb ρ M x) (hl : ds.length < sizeLine) (h1 : 0 ≤ i) (h2 : i < 2 ^ 63) (kk : R .non (ud M a (.lst (ds.take i.toNat ++ [x] ++ ds.drop i.toNat)))) :
    W J (tBM J.K "list" (fun x vs H Q => ∃ (l : Addr) (xs : List V) (i : Int) (y : V), x = .ref l ∧ vs = [.int i, y] ∧ H l = some (.lst xs) ∧ xs.length < sizeLine ∧ 0 ≤ i ∧ i < 2 ^ 63 ∧ Q .non (upd H l (.lst (xs.take i.toNat ++ [y] ++ xs.drop i.toNat)))) to (tCons ta (tCons tb tNil))) ρ M R :=
  w_bm (ho.w ⟨⟨ds, .r hm⟩, (ea_cons ha (ea_cons hb ea_nil)).w fun G H v vs s tx tv Q q => by
    cases tx
    cases tv with
    | cons t1 t2 =>
      cases t2 with
      | cons t2 t3 =>
        cases t3
        cases t1
        obtain ⟨g, xs, e, g2⟩ := s.ok a _ hm
        exact ⟨a, xs, i, _, rfl, rfl, e, by rw [g2.length]; exact hl, h1, h2, q _ _ G _ _ kk (Same.refl G) (s.put g ⟨_, upd_same, ((g2.take _).append (.cons t2 .nil)).append (g2.drop _)⟩) .non⟩⟩)
theorem w_clear {a : Addr} (ho : Ev J to ρ M (.ref a)) (hm : M a = some (.lst ds)) (kk : R .non (ud M a (.lst []))) : W J (tBM0 J.K "list" rClear to) ρ M R :=
  w_bm0 (ho.w ⟨⟨ds, .r hm⟩, fun G H v vs s tx tv Q q => by
    cases tx
    cases tv
    obtain ⟨g, xs, e, g2⟩ := s.ok a _ hm
    exact ⟨a, xs, rfl, rfl, e, q _ _ G _ _ kk (Same.refl G) (s.put g ⟨_, upd_same, .nil⟩) .non⟩⟩)
theorem w_extend {a : Addr} (ho : Ev J to ρ M (.ref a)) (hm : M a = some (.lst ds)) (ha : Ev J ta ρ M x) (hx : IsM M x es) (hl : ds.length + es.length ≤ sizeLine) (kk : R .non (ud M a (.lst (ds ++ es)))) : W J (tBM J.K "list" rExtend to (tCons ta tNil)) ρ M R :=
  w_bm (ho.w ⟨⟨ds, .r hm⟩, (ea_cons ha ea_nil).w fun G H v vs s tx tv Q q => by
    cases tx
    cases tv with
    | cons t1 t2 =>
      cases t2
      obtain ⟨g, xs, e, g2⟩ := s.ok a _ hm
      obtain ⟨a2, xs2, rfl, h12, h22⟩ := hx.at s t1
      exact ⟨a, a2, xs, xs2, rfl, rfl, e, h12, by rw [g2.length, h22.length]; exact hl, q _ _ G _ _ kk (Same.refl G) (s.put g ⟨_, upd_same, g2.append h22⟩) .non⟩⟩)
end

/-! ### statements -/
structure Po where
  nx : Ro → Mp → Prop
  rt : D → Mp → Prop
  bk : Ro → Mp → Prop := fun _ _ => False
  ct : Ro → Mp → Prop := fun _ _ => False
/-- what the ways out of a statement reach -/
structure DQ (J : Jx) (G : Hp) (P : Po) (D' : Ends) : Prop where
  nx : ∀ G' σ' ρ' M' H', P.nx ρ' M' → Same G G' → Rel J.K G' σ' ρ' → Hs J.K G' M' H' → D'.nx σ' H'
  rt : ∀ G' v d M' H', P.rt d M' → Same G G' → Hs J.K G' M' H' → Dt J.K G' v d → D'.rt v H'
  bk : ∀ G' σ' ρ' M' H', P.bk ρ' M' → Same G G' → Rel J.K G' σ' ρ' → Hs J.K G' M' H' → D'.bk σ' H'
  ct : ∀ G' σ' ρ' M' H', P.ct ρ' M' → Same G G' → Rel J.K G' σ' ρ' → Hs J.K G' M' H' → D'.ct σ' H'
theorem DQ.mono {J : Jx} {G G1 : Hp} {P : Po} {D' : Ends} (e : Same G G1) (q : DQ J G P D') : DQ J G1 P D' :=
  ⟨fun G' σ' ρ' M' H' h s => q.nx G' σ' ρ' M' H' h (e.trans s), fun G' v d M' H' h s => q.rt G' v d M' H' h (e.trans s), fun G' σ' ρ' M' H' h s => q.bk G' σ' ρ' M' H' h (e.trans s), fun G' σ' ρ' M' H' h s => q.ct G' σ' ρ' M' H' h (e.trans s)⟩
def S (J : Jx) (ts : TS) (ρ : Ro) (M : Mp) (P : Po) : Prop := ∀ G σ H (D' : Ends), Rel J.K G σ ρ → Hs J.K G M H → XOk J G → DQ J G P D' → ts D' σ H
section
variable {J : Jx} {te ta tb to ti : TE} {tt : TT} {t1 t2 ts : TS} {ρ : Ro} {M : Mp} {d x y z : D} {ds es : List D} {b : Bool} {P : Po} {i : Nat}
theorem s_seq (h : S J t1 ρ M ⟨fun ρ' M' => S J t2 ρ' M' P, P.rt, P.bk, P.ct⟩) : S J (tSeq t1 t2) ρ M P := fun G σ H D' r s xo q =>
  h G σ H _ r s xo ⟨fun G' σ' ρ' M' H' h1 e1 r1 s1 => h1 G' σ' H' D' r1 s1 (xo.mono e1) (q.mono e1), q.rt, q.bk, q.ct⟩
theorem s_next (h : P.nx ρ M) : S J tNext ρ M P := fun G σ H D' r s xo q => q.nx G σ ρ M H h (Same.refl G) r s
theorem s_break (h : P.bk ρ M) : S J tBreak ρ M P := fun G σ H D' r s xo q => q.bk G σ ρ M H h (Same.refl G) r s
theorem s_cont (h : P.ct ρ M) : S J tCont ρ M P := fun G σ H D' r s xo q => q.ct G σ ρ M H h (Same.refl G) r s
theorem s_asg (h : W J te ρ M fun d M' => P.nx (ρ.set i (some d)) M') : S J (tAsg te (gName i)) ρ M P := fun G σ H D' r s xo q =>
  h G σ H r s xo _ fun v d G' M' H' h1 e1 s1 t1 => q.nx G' _ _ M' H' h1 e1 ((r.mono e1).set t1 i) s1
theorem s_ret (h : W J te ρ M P.rt) : S J (tRet te) ρ M P := fun G σ H D' r s xo q => h G σ H r s xo _ fun v d G' M' H' h1 e1 s1 t1 => q.rt G' v d M' H' h1 e1 s1 t1
theorem s_retN (h : P.rt .non M) : S J tRetN ρ M P := fun G σ H D' r s xo q => q.rt G .non .non M H h (Same.refl G) s .non
theorem s_drop (h : W J te ρ M fun _ M' => P.nx ρ M') : S J (tDrop te) ρ M P := fun G σ H D' r s xo q => h G σ H r s xo _ fun v d G' M' H' h1 e1 s1 t1 => q.nx G' σ ρ M' H' h1 e1 (r.mono e1) s1
theorem s_ifW (h : WT J tt ρ M fun b M' => (b = true → S J t1 ρ M' P) ∧ (b = false → S J t2 ρ M' P)) : S J (tIfS tt t1 t2) ρ M P := fun G σ H D' r s xo q =>
  h G σ H r s xo _ fun b G' M' H' h1 e1 s1 => by
    cases b with
    | true => rw [if_pos rfl]; exact h1.1 rfl G' σ H' D' (r.mono e1) s1 (xo.mono e1) (q.mono e1)
    | false => rw [if_neg Bool.false_ne_true]; exact h1.2 rfl G' σ H' D' (r.mono e1) s1 (xo.mono e1) (q.mono e1)
theorem s_if (h : ET J tt ρ M b) (h1 : b = true → S J t1 ρ M P) (h2 : b = false → S J t2 ρ M P) : S J (tIfS tt t1 t2) ρ M P := s_ifW (h.w ⟨h1, h2⟩)
theorem S.imp {P' : Po} (h : S J ts ρ M P) (a : ∀ r m, P.nx r m → P'.nx r m) (b : ∀ r m, P.rt r m → P'.rt r m) (c : ∀ r m, P.bk r m → P'.bk r m) (e : ∀ r m, P.ct r m → P'.ct r m) : S J ts ρ M P' := fun G σ H D' r s xo q =>
  h G σ H D' r s xo ⟨fun G' σ' ρ' M' H' h1 => q.nx G' σ' ρ' M' H' (a _ _ h1), fun G' v d M' H' h1 => q.rt G' v d M' H' (b _ _ h1), fun G' σ' ρ' M' H' h1 => q.bk G' σ' ρ' M' H' (c _ _ h1), fun G' σ' ρ' M' H' h1 => q.ct G' σ' ρ' M' H' (e _ _ h1)⟩
/-- a list of the ledger, held by slot i, is frozen -/
theorem s_freeze {a : Addr} (hm : M a = some (.lst ds)) (hi : ρ[i]? = some (some (.ref a))) (h : S J ts (ρ.set i (some (.lst ds))) (del M a) P) : S J ts ρ M P := fun G σ H D' r s xo q => by
  obtain ⟨G', e1, s1, t1⟩ := s.freeze hm
  obtain ⟨v, h1, h2⟩ := r.2 i _ hi
  cases h2
  refine h G' σ H D' ?_ s1 (xo.mono e1) (q.mono e1)
  have r2 := (r.mono e1).set t1 i
  have e : σ.set i (some (.ref a)) = σ := by
    refine List.ext_getElem? fun j => ?_
    by_cases z : i = j
    · subst z
      rw [List.getElem?_set_self (List.getElem?_eq_some_iff.mp h1).1, h1]
    · rw [List.getElem?_set_ne z]
  rw [e] at r2
  exact r2
theorem s_forget (i : Nat) (h : S J ts (ρ.set i none) M P) : S J ts ρ M P := fun G σ H D' r s xo q => h G σ H D' (r.forget i) s xo q
theorem s_unled (a : Addr) (h : S J ts ρ (del M a) P) : S J ts ρ M P := fun G σ H D' r s xo q => h G σ H D' r s.drop xo q
/-- xs[i] = e -/
theorem s_setL {a : Addr} {k : Int} {j : Nat} (hv : Ev J te ρ M x) (ho : Ev J to ρ M (.ref a)) (hi : Ev J ti ρ M (.int k)) (hm : M a = some (.lst ds)) (hj : ixN ds.length k = some j) (h : P.nx ρ (ud M a (.lst (ds.set j x)))) : S J (tAsg te (gSub to ti rSetL)) ρ M P := fun G σ H D' r s xo q =>
  hv G σ H r s xo _ fun v d G1 M1 H1 e e1 s1 t1 => by
    obtain ⟨rfl, rfl⟩ := e
    refine ho G1 σ H1 (r.mono e1) s1 (xo.mono e1) _ fun v2 d2 G2 M2 H2 e e2 s2 t2 => ?_
    obtain ⟨rfl, rfl⟩ := e
    refine hi G2 σ H2 ((r.mono e1).mono e2) s2 (xo.mono (e1.trans e2)) _ fun v3 d3 G3 M3 H3 e e3 s3 t3 => ?_
    obtain ⟨rfl, rfl⟩ := e
    cases t2
    cases t3
    obtain ⟨g, xs, e, g2⟩ := s3.ok a _ hm
    exact ⟨a, xs, k, j, rfl, rfl, e, by rw [g2.length]; exact hj, q.nx G3 σ ρ _ _ h ((e1.trans e2).trans e3) (r.mono ((e1.trans e2).trans e3)) (s3.put g ⟨_, upd_same, g2.set (t1.mono (e2.trans e3)) j⟩)⟩

/-! ### what a loop walks -/
def Yl (J : Jx) (I : It) (G : Hp) (src : Mp → Prop) (ds : List D) : Prop := ∀ (i : Nat) G1 M1 H1, Same G G1 → Hs J.K G1 M1 H1 → src M1 →
  (∀ d, ds[i]? = some d → I.go i H1 ∧ ∀ v H2, I.yld i H1 v H2 → ∃ G2, Same G1 G2 ∧ Hs J.K G2 M1 H2 ∧ Dt J.K G2 v d) ∧ (ds.length ≤ i → I.stop i H1)
def Src (J : Jx) (wi : TI) (ρ : Ro) (M : Mp) (src : Mp → Prop) (ds : List D) : Prop := ∀ G σ H, Rel J.K G σ ρ → Hs J.K G M H → XOk J G → ∀ R : It → Hp → Prop, (∀ I G' H', Same G G' → Hs J.K G' M H' → Yl J I G' src ds → R I H') → wi σ H R
/-- a target takes a thing -/
def SG (J : Jx) (g : TG) (d : D) (ρ : Ro) (M : Mp) (R : Ro → Mp → Prop) : Prop := ∀ G σ H v, Rel J.K G σ ρ → Hs J.K G M H → Dt J.K G v d → ∀ Q : L2.St → Hp → Prop, (∀ G' σ' ρ' M' H', R ρ' M' → Same G G' → Rel J.K G' σ' ρ' → Hs J.K G' M' H' → Q σ' H') → g v σ H Q
theorem sg_name {R : Ro → Mp → Prop} (h : R (ρ.set i (some d)) M) : SG J (gName i) d ρ M R := fun G σ H v r s t Q q => q G _ _ M H h (Same.refl G) (r.set t i) s
def SGs (J : Jx) (g : TGs) (ds : List D) (ρ : Ro) (M : Mp) (R : Ro → Mp → Prop) : Prop := ∀ G σ H vs, Rel J.K G σ ρ → Hs J.K G M H → DtL J.K G vs ds → ∀ Q : L2.St → Hp → Prop, (∀ G' σ' ρ' M' H', R ρ' M' → Same G G' → Rel J.K G' σ' ρ' → Hs J.K G' M' H' → Q σ' H') → g vs σ H Q
theorem sgs_nil {R : Ro → Mp → Prop} (h : R ρ M) : SGs J gNil [] ρ M R := fun G σ H vs r s t Q q => by
  cases t
  exact ⟨rfl, q G σ ρ M H h (Same.refl G) r s⟩
theorem sgs_cons {g : TG} {gs : TGs} {R : Ro → Mp → Prop} (h : SG J g d ρ M fun ρ' M' => SGs J gs ds ρ' M' R) : SGs J (gCons g gs) (d :: ds) ρ M R := fun G σ H vs r s t Q q => by
  cases t with
  | cons t1 t2 =>
    refine ⟨_, _, rfl, h G σ H _ r s t1 _ fun G1 σ1 ρ1 M1 H1 h1 e1 r1 s1 => ?_⟩
    exact h1 G1 σ1 H1 _ r1 s1 (t2.mono e1) Q fun G2 σ2 ρ2 M2 H2 h2 e2 => q G2 σ2 ρ2 M2 H2 h2 (e1.trans e2)
theorem sg_tup {gs : TGs} {n : Nat} {R : Ro → Mp → Prop} (hn : ds.length = n) (h : SGs J gs ds ρ M R) : SG J (gTup J.K n gs) (.tup ds) ρ M R := fun G σ H v r s t Q q => by
  obtain ⟨a, xs, rfl, h1, h2⟩ := tup_at s t
  exact ⟨a, xs, rfl, SqT.of h1, by rw [h2.length]; exact hn, h G σ H xs r s h2 Q q⟩
/-- a, b, .. = e -/
theorem s_asgG {g : TG} (h : W J te ρ M fun d M' => SG J g d ρ M' P.nx) : S J (tAsg te g) ρ M P := fun G σ H D' r s xo q =>
  h G σ H r s xo _ fun v d G' M' H' h1 e1 s1 t1 => h1 G' σ H' v (r.mono e1) s1 t1 _ fun G2 σ2 ρ2 M2 H2 h2 e2 r2 s2 => q.nx G2 σ2 ρ2 M2 H2 h2 (e1.trans e2) r2 s2
theorem s_for {wi : TI} {g : TG} {src : Mp → Prop} (hs : Src J wi ρ M src ds) (Iv : Nat → Ro → Mp → Prop) (h0 : Iv 0 ρ M) (hsrc : ∀ i ρ' M', Iv i ρ' M' → src M')
    (step : ∀ (i : Nat) d ρ' M', ds[i]? = some d → Iv i ρ' M' → SG J g d ρ' M' fun ρ2 M2 => S J ts ρ2 M2 ⟨Iv (i + 1), P.rt, P.nx, Iv (i + 1)⟩) (done : ∀ ρ' M', Iv ds.length ρ' M' → P.nx ρ' M') : S J (tFor wi g ts) ρ M P := fun G σ H D' r s xo q =>
  hs G σ H r s xo _ fun I G1 H1 e1 s1 yl => by
    refine ⟨fun i m σ' H' => m = ds.length - i ∧ i ≤ ds.length ∧ ∃ G' ρ' M', Same G1 G' ∧ Iv i ρ' M' ∧ Rel J.K G' σ' ρ' ∧ Hs J.K G' M' H', ⟨ds.length, by simp, Nat.zero_le _, G1, ρ, M, Same.refl _, h0, r.mono e1, s1⟩, ?_⟩
    rintro i m σ' H' ⟨rfl, hi, G2, ρ2, M2, e2, v2, r2, s2⟩
    obtain ⟨y1, y2⟩ := yl i G2 M2 H' e2 s2 (hsrc _ _ _ v2)
    by_cases hlt : i < ds.length
    · have hd : ds[i]? = some ds[i] := List.getElem?_eq_getElem hlt
      obtain ⟨g1, g2⟩ := y1 _ hd
      refine .inr ⟨g1, fun σ3 H3 => ∃ G' ρ' M', Same G1 G' ∧ Iv (i + 1) ρ' M' ∧ Rel J.K G' σ3 ρ' ∧ Hs J.K G' M' H3, fun σ3 H3 w => ⟨ds.length - (i + 1), by omega, rfl, hlt, w⟩, fun v H3 yy => ?_⟩
      obtain ⟨G3, e3, s3, t3⟩ := g2 v H3 yy
      refine step i _ ρ2 M2 hd v2 G3 σ' H3 v (r2.mono e3) s3 t3 _ fun G4 σ4 ρ4 M4 H4 h4 e4 r4 s4 => ?_
      have e14 : Same G1 G4 := (e2.trans e3).trans e4
      refine h4 G4 σ4 H4 _ r4 s4 (xo.mono (e1.trans e14)) ⟨fun G' σ5 ρ5 M5 H5 h5 e5 r5 s5 => ⟨G', ρ5, M5, e14.trans e5, h5, r5, s5⟩, fun G' v d M5 H5 h5 e5 s5 t5 => q.rt G' v d M5 H5 h5 ((e1.trans e14).trans e5) s5 t5,
        fun G' σ5 ρ5 M5 H5 h5 e5 r5 s5 => q.nx G' σ5 ρ5 M5 H5 h5 ((e1.trans e14).trans e5) r5 s5, fun G' σ5 ρ5 M5 H5 h5 e5 r5 s5 => ⟨G', ρ5, M5, e14.trans e5, h5, r5, s5⟩⟩
    · have e : i = ds.length := by omega
      subst e
      exact .inl ⟨y2 (Nat.le_refl _), q.nx G2 σ' ρ2 M2 H' (done _ _ v2) (e1.trans e2) r2 s2⟩
/-! sources -/
theorem yl_list {a : Addr} {G : Hp} {src : Mp → Prop} (h : ∀ G1 M1 H1, Same G G1 → Hs J.K G1 M1 H1 → src M1 → ∃ xs, SqL J.K H1 a xs ∧ DtL J.K G1 xs ds) : Yl J (Itl J.K a) G src ds := fun i G1 M1 H1 e1 s1 k => by
  obtain ⟨xs, h1, h2⟩ := h G1 M1 H1 e1 s1 k
  refine ⟨fun d hd => ?_, fun hl => ⟨xs, h1, by rw [h2.length]; exact hl⟩⟩
  obtain ⟨v, e, t⟩ := h2.get hd
  refine ⟨⟨xs, v, h1, e⟩, fun v' H2 y => ?_⟩
  obtain ⟨rfl, y⟩ := y
  have e' := y xs h1
  rw [e] at e'
  cases e'
  exact ⟨G1, Same.refl _, s1, t⟩
/-- for .. in a frozen list or the script -/
theorem src_l (h : Ev J te ρ M x) (hx : x = .lst ds ∨ x = .frl ds) : Src J (iList J.K te) ρ M (fun _ => True) ds := fun G σ H r s xo R q =>
  h G σ H r s xo _ fun v d G1 M1 H1 e e1 s1 t1 => by
    obtain ⟨rfl, rfl⟩ := e
    have hx' : IsL M1 d ds := hx.elim .inl fun z => .inr (.inl z)
    obtain ⟨a, xs, rfl, h1, h2⟩ := hx'.at s1 t1
    refine ⟨a, rfl, ⟨xs, h1⟩, q _ G1 H1 e1 s1 (yl_list fun G2 M2 H2 e2 s2 _ => ?_)⟩
    have hx2 : IsL M2 d ds := hx.elim .inl fun z => .inr (.inl z)
    obtain ⟨a', xs', ea, h1', h2'⟩ := hx2.at s2 (t1.mono e2)
    cases ea
    exact ⟨xs', h1', h2'⟩
/-- .. in a list of the ledger, which the body leaves -/
theorem src_r {a : Addr} (h : Ev J te ρ M (.ref a)) (hm : M a = some (.lst ds)) : Src J (iList J.K te) ρ M (fun M' => M' a = some (.lst ds)) ds := fun G σ H r s xo R q =>
  h G σ H r s xo _ fun v d G1 M1 H1 e e1 s1 t1 => by
    obtain ⟨rfl, rfl⟩ := e
    cases t1
    obtain ⟨g, xs, e, g2⟩ := s1.ok a _ hm
    refine ⟨a, rfl, ⟨xs, SqL.of e⟩, q _ G1 H1 e1 s1 (yl_list fun G2 M2 H2 e2 s2 k => ?_)⟩
    obtain ⟨g, xs, e, g2⟩ := s2.ok a _ k
    exact ⟨xs, SqL.of e, g2⟩
/-- a list told by IsL -/
theorem src_L (h : Ev J te ρ M x) (hx : IsL M x ds) : Src J (iList J.K te) ρ M (fun M' => IsL M' x ds) ds := fun G σ H r s xo R q =>
  h G σ H r s xo _ fun v d G1 M1 H1 e e1 s1 t1 => by
    obtain ⟨rfl, rfl⟩ := e
    obtain ⟨a, xs, rfl, h1, h2⟩ := hx.at s1 t1
    refine ⟨a, rfl, ⟨xs, h1⟩, q _ G1 H1 e1 s1 (yl_list fun G2 M2 H2 e2 s2 k => ?_)⟩
    obtain ⟨a', xs', ea, h1', h2'⟩ := k.at s2 (t1.mono e2)
    cases ea
    exact ⟨xs', h1', h2'⟩
theorem src_t (h : Ev J te ρ M (.tup ds)) : Src J (iTup J.K te) ρ M (fun _ => True) ds := fun G σ H r s xo R q =>
  h G σ H r s xo _ fun v d G1 M1 H1 e e1 s1 t1 => by
    obtain ⟨rfl, rfl⟩ := e
    obtain ⟨a, xs, rfl, h1, h2⟩ := tup_at s1 t1
    refine ⟨a, rfl, ⟨xs, SqT.of h1⟩, q _ G1 H1 e1 s1 fun i G2 M2 H2 e2 s2 _ => ?_⟩
    obtain ⟨a', xs', ea, h1', h2'⟩ := tup_at s2 (t1.mono e2)
    cases ea
    refine ⟨fun d hd => ?_, fun hl => ⟨xs', SqT.of h1', by rw [h2'.length]; exact hl⟩⟩
    obtain ⟨v, e, t⟩ := h2'.get hd
    refine ⟨⟨xs', v, SqT.of h1', e⟩, fun v' H3 y => ?_⟩
    obtain ⟨rfl, y⟩ := y
    have e' := y xs' (SqT.of h1')
    rw [e] at e'
    cases e'
    exact ⟨G2, Same.refl _, s2, t⟩
/-- the ints of a range -/
def rng (lo : Int) (n : Nat) : List D := (List.range n).map fun (k : Nat) => D.int (lo + (k : Int))
theorem rng_len {lo : Int} {n : Nat} : (rng lo n).length = n := by simp [rng]
theorem rng_get {lo : Int} {n i : Nat} {d : D} (h : (rng lo n)[i]? = some d) : i < n ∧ d = .int (lo + (i : Int)) := by
  have hl : i < n := by have := (List.getElem?_eq_some_iff.mp h).1; rw [rng_len] at this; exact this
  refine ⟨hl, ?_⟩
  unfold rng at h
  rw [List.getElem?_map, List.getElem?_range hl] at h
  exact (Option.some.inj h).symm
theorem yl_rng {G : Hp} {lo : Int} {n : Nat} : Yl J (Itr lo n) G (fun _ => True) (rng lo n) := fun i G1 M1 H1 e1 s1 _ => by
  refine ⟨fun d hd => ?_, fun hl => by rw [rng_len] at hl; exact hl⟩
  obtain ⟨h1, rfl⟩ := rng_get hd
  refine ⟨h1, fun v H2 y => ?_⟩
  obtain ⟨rfl, rfl⟩ := y
  exact ⟨G1, Same.refl _, s1, .int _⟩
theorem src_rng1 {n : Int} (h : Ev J te ρ M (.int n)) (h1 : -(2 ^ 62) ≤ n) (h2 : n < 2 ^ 62) : Src J (iRng1 (tCons te tNil)) ρ M (fun _ => True) (rng 0 n.toNat) := fun G σ H r s xo R q =>
  (ea_cons h ea_nil) G σ H r s xo _ fun vs ds G1 M1 H1 e e1 s1 t1 => by
    obtain ⟨rfl, rfl⟩ := e
    cases t1 with
    | cons t1 t2 =>
      cases t1; cases t2
      exact ⟨n, rfl, h1, h2, q _ G1 H1 e1 s1 yl_rng⟩
theorem src_rng2 {m n : Int} (h : Ev J ta ρ M (.int m)) (h' : Ev J tb ρ M (.int n)) (hb : -(2 ^ 62) ≤ m ∧ m < 2 ^ 62 ∧ -(2 ^ 62) ≤ n ∧ n < 2 ^ 62) : Src J (iRng2 (tCons ta (tCons tb tNil))) ρ M (fun _ => True) (rng m (n - m).toNat) := fun G σ H r s xo R q =>
  (ea_cons h (ea_cons h' ea_nil)) G σ H r s xo _ fun vs ds G1 M1 H1 e e1 s1 t1 => by
    obtain ⟨rfl, rfl⟩ := e
    cases t1 with
    | cons t1 t2 =>
      cases t2 with
      | cons t2 t3 =>
        cases t1; cases t2; cases t3
        exact ⟨m, n, rfl, hb, q _ G1 H1 e1 s1 yl_rng⟩
/-- two lists side by side -/
def zipD : List D → List D → List D
  | x :: xs, y :: ys => .tup [x, y] :: zipD xs ys
  | _, _ => []
theorem zipD_len : ∀ xs ys : List D, (zipD xs ys).length = min xs.length ys.length
  | [], _ => by simp [zipD]
  | _ :: _, [] => by simp [zipD]
  | x :: xs, y :: ys => by simp [zipD, zipD_len xs ys]
theorem zipD_get : ∀ {xs ys : List D} {i : Nat} {d : D}, (zipD xs ys)[i]? = some d → ∃ x y, xs[i]? = some x ∧ ys[i]? = some y ∧ d = .tup [x, y]
  | [], _, i, d, h => by simp [zipD] at h
  | _ :: _, [], i, d, h => by simp [zipD] at h
  | x :: xs, y :: ys, 0, d, h => ⟨x, y, rfl, rfl, (Option.some.inj h).symm⟩
  | x :: xs, y :: ys, i + 1, d, h => zipD_get (xs := xs) (ys := ys) (i := i) h
theorem src_zip (h : Ev J ta ρ M x) (h' : Ev J tb ρ M y) (hx : IsL M x ds) (hy : IsL M y es) : Src J (iZip J.K (tCons ta (tCons tb tNil))) ρ M (fun M' => IsL M' x ds ∧ IsL M' y es) (zipD ds es) := fun G σ H r s xo R q =>
  (ea_cons h (ea_cons h' ea_nil)) G σ H r s xo _ fun vs dd G1 M1 H1 e e1 s1 t1 => by
    obtain ⟨rfl, rfl⟩ := e
    cases t1 with
    | cons t1 t2 =>
      cases t2 with
      | cons t2 t3 =>
        cases t3
        obtain ⟨a, xs, rfl, h1, h2⟩ := hx.at s1 t1
        obtain ⟨c, ys, rfl, k1, k2⟩ := hy.at s1 t2
        refine ⟨a, c, xs, ys, rfl, h1, k1, q _ G1 H1 e1 s1 fun i G2 M2 H2 e2 s2 k => ?_⟩
        obtain ⟨a', xs', ea, h1', h2'⟩ := k.1.at s2 (t1.mono e2)
        cases ea
        obtain ⟨c', ys', ec, k1', k2'⟩ := k.2.at s2 (t2.mono e2)
        cases ec
        refine ⟨fun d hd => ?_, fun hl => ⟨xs', ys', h1', k1', by rw [zipD_len] at hl; rw [h2'.length, k2'.length]; omega⟩⟩
        obtain ⟨x1, y1, ex, ey, rfl⟩ := zipD_get hd
        obtain ⟨v, f1, f2⟩ := h2'.get ex
        obtain ⟨w, f3, f4⟩ := k2'.get ey
        refine ⟨⟨xs', ys', v, w, h1', k1', f1, f3⟩, fun v' H3 yy => ?_⟩
        obtain ⟨T, v2, w2, rfl, hT, rfl, g1, g2⟩ := yy
        have e' := g1 xs' h1'
        rw [f1] at e'
        cases e'
        have e' := g2 ys' k1'
        rw [f3] at e'
        cases e'
        obtain ⟨e3, s3⟩ := s2.froz (o := .tup [v, w]) hT
        exact ⟨_, e3, s3, .tup upd_same (.cons (f2.mono e3) (.cons (f4.mono e3) .nil))⟩
theorem s_while {W : Nat → Ro → Mp → Prop} (m0 : Nat) (h0 : W m0 ρ M) (step : ∀ m ρ' M', W m ρ' M' → WT J tt ρ' M' fun b M1 => (b = true → S J ts ρ' M1 ⟨fun ρ2 M2 => ∃ m', m' < m ∧ W m' ρ2 M2, P.rt, P.nx, fun ρ2 M2 => ∃ m', m' < m ∧ W m' ρ2 M2⟩) ∧ (b = false → P.nx ρ' M1)) :
    S J (tWhile tt ts) ρ M P := fun G σ H D' r s xo q => by
  refine ⟨fun m σ' H' => ∃ G' ρ' M', Same G G' ∧ W m ρ' M' ∧ Rel J.K G' σ' ρ' ∧ Hs J.K G' M' H', ⟨m0, G, ρ, M, Same.refl _, h0, r, s⟩, ?_⟩
  rintro m σ' H' ⟨G1, ρ1, M1, e1, w1, r1, s1⟩
  refine step m ρ1 M1 w1 G1 σ' H' r1 s1 (xo.mono e1) _ fun b G2 M2 H2 h2 e2 s2 => ?_
  cases b with
  | true =>
    rw [if_pos rfl]
    refine ⟨fun σ3 H3 => ∃ G' ρ' M', Same G G' ∧ (∃ m', m' < m ∧ W m' ρ' M') ∧ Rel J.K G' σ3 ρ' ∧ Hs J.K G' M' H3, fun σ3 H3 ⟨G', ρ', M', e, ⟨m', l, w⟩, r3, s3⟩ => ⟨m', l, G', ρ', M', e, w, r3, s3⟩, ?_⟩
    exact h2.1 rfl G2 σ' H2 _ (r1.mono e2) s2 (xo.mono (e1.trans e2)) ⟨fun G' σ5 ρ5 M5 H5 h5 e5 r5 s5 => ⟨G', ρ5, M5, (e1.trans e2).trans e5, h5, r5, s5⟩, fun G' v d M5 H5 h5 e5 s5 t5 => q.rt G' v d M5 H5 h5 ((e1.trans e2).trans e5) s5 t5,
      fun G' σ5 ρ5 M5 H5 h5 e5 r5 s5 => q.nx G' σ5 ρ5 M5 H5 h5 ((e1.trans e2).trans e5) r5 s5, fun G' σ5 ρ5 M5 H5 h5 e5 r5 s5 => ⟨G', ρ5, M5, (e1.trans e2).trans e5, h5, r5, s5⟩⟩
  | false =>
    rw [if_neg Bool.false_ne_true]
    exact q.nx G2 σ' ρ1 M2 H2 (h2.2 rfl) (e1.trans e2) (r1.mono e2) s2

/-! ### comprehensions -/
theorem en_lc {α : Type} {wi : TI} {src : Mp → Prop} (xs : List α) (em : α → D) (c : α → Bool) (f : α → D) (hs : Src J wi ρ M src (xs.map em)) (hsrc : ∀ M', Sub M M' → src M') (hl : xs.length < sizeLine)
    (ht : ∀ M1 x, Sub M M1 → x ∈ xs → ET J tt (ρ.set i (some (em x))) M1 (c x)) (he : ∀ M1 x, Sub M M1 → x ∈ xs → c x = true → Ev J te (ρ.set i (some (em x))) M1 (f x)) : EvN J (tLc wi (gName i) tt te [i]) ρ M ((xs.filter c).map f) := fun G σ H r s xo Q q =>
  hs G σ H r s xo _ fun I G1 H1 e1 s1 yl Dl hD => by
    have mD := s1.none_m hD
    refine ⟨fun k m H' => m = xs.length - k ∧ k ≤ xs.length ∧ ∃ G', Same G1 G' ∧ Hs J.K G' (ud M Dl (.lst (((xs.take k).filter c).map f))) H', ⟨xs.length, by simp, Nat.zero_le _, G1, Same.refl _, s1.new hD ⟨[], upd_same, .nil⟩⟩, ?_⟩
    rintro k m H' ⟨rfl, hk, G2, e2, s2⟩
    have sb := Sub.new (o := .lst (((xs.take k).filter c).map f)) mD
    obtain ⟨y1, y2⟩ := yl k G2 _ H' e2 s2 (hsrc _ sb)
    by_cases hlt : k < xs.length
    · have hx : xs[k]? = some xs[k] := List.getElem?_eq_getElem hlt
      have hm : xs[k] ∈ xs := List.getElem_mem hlt
      obtain ⟨g1, g2⟩ := y1 (em xs[k]) (by rw [List.getElem?_map, hx]; rfl)
      have tk : xs.take (k + 1) = xs.take k ++ [xs[k]] := (List.take_append_getElem hlt).symm
      refine .inr ⟨g1, fun H3 => ∃ G', Same G1 G' ∧ Hs J.K G' (ud M Dl (.lst (((xs.take (k + 1)).filter c).map f))) H3, fun H3 w => ⟨xs.length - (k + 1), by omega, rfl, hlt, w⟩, fun v H3 yy => ?_⟩
      obtain ⟨G3, e3, s3, t3⟩ := g2 v H3 yy
      have e13 : Same G G3 := (e1.trans e2).trans e3
      have r3 : Rel J.K G3 ((wipe σ [i]).set i (some v)) (ρ.set i (some (em xs[k]))) := by
        have q1 := ((r.mono e13).wipe [i]).set t3 i
        have q2 : (wipeD ρ [i]).set i (some (em xs[k])) = ρ.set i (some (em xs[k])) := by
          show (ρ.set i none).set i (some (em xs[k])) = _
          rw [List.set_set]
        rw [q2] at q1
        exact q1
      refine ⟨?_, ?_⟩
      · show (((σ.set i none).set i (some v)).set i none) = σ.set i none
        rw [List.set_set, List.set_set]
      refine ht _ _ sb hm G3 _ H3 r3 s3 (xo.mono e13) _ fun b G4 M4 H4 e e4 s4 => ?_
      obtain ⟨rfl, rfl⟩ := e
      cases hc : c xs[k] with
      | true =>
        rw [if_pos rfl]
        refine he _ _ sb hm hc G4 _ H4 (r3.mono e4) s4 (xo.mono (e13.trans e4)) _ fun v5 d5 G5 M5 H5 e e5 s5 t5 => ?_
        obtain ⟨rfl, rfl⟩ := e
        obtain ⟨g, acc, ea, ga⟩ := s5.ok Dl _ ud_same
        refine ⟨acc, ea, ?_, G5, ((e2.trans e3).trans e4).trans e5, ?_⟩
        · have e1 := ga.length
          have e2 := List.length_filter_le c (xs.take k)
          rw [List.length_map] at e1
          rw [List.length_take] at e2
          omega
        · have s6 := s5.put (p := Dl) (o := .lst (acc ++ [v5])) (m := .lst (((xs.take k).filter c).map f ++ [f xs[k]])) g ⟨_, upd_same, ga.append (.cons t5 .nil)⟩
          rw [ud_ud] at s6
          have ee : ((xs.take (k + 1)).filter c).map f = ((xs.take k).filter c).map f ++ [f xs[k]] := by
            rw [tk, List.filter_append, List.map_append, List.filter_cons, if_pos hc]
            rfl
          rw [ee]
          exact s6
      | false =>
        rw [if_neg Bool.false_ne_true]
        refine ⟨G4, (e2.trans e3).trans e4, ?_⟩
        have ee : ((xs.take (k + 1)).filter c).map f = ((xs.take k).filter c).map f := by
          rw [tk, List.filter_append, List.map_append, List.filter_cons, if_neg (by rw [hc]; decide)]
          show _ ++ [] = _
          rw [List.append_nil]
        rw [ee]
        exact s4
    · have e : k = xs.length := by omega
      subst e
      rw [List.take_length] at s2
      exact .inl ⟨y2 (by rw [List.length_map]; exact Nat.le_refl _), q _ _ G2 _ H' ⟨Dl, mD, rfl, rfl⟩ (e1.trans e2) s2 (.ref Dl)⟩
/-- without tests -/
theorem en_lc1 {α : Type} {wi : TI} {src : Mp → Prop} (xs : List α) (em : α → D) (f : α → D) (hs : Src J wi ρ M src (xs.map em)) (hsrc : ∀ M', Sub M M' → src M') (hl : xs.length < sizeLine)
    (he : ∀ M1 x, Sub M M1 → x ∈ xs → Ev J te (ρ.set i (some (em x))) M1 (f x)) : EvN J (tLc wi (gName i) tYes te [i]) ρ M (xs.map f) := by
  have h := en_lc (J := J) (tt := tYes) (te := te) (ρ := ρ) (i := i) xs em (fun _ => true) f hs hsrc hl (fun M1 x _ _ G σ H r s xo Q q => q true G M1 H ⟨rfl, rfl⟩ (Same.refl G) s) fun M1 x a b _ => he M1 x a b
  rw [List.filter_eq_self.mpr (fun _ _ => rfl)] at h
  exact h
end

/-! ### objects -/
def putD (f : Str) (v : D) : List (Str × D) → List (Str × D)
  | [] => [(f, v)]
  | (g, x) :: r => if g = f then (g, v) :: r else (g, x) :: putD f v r
section
variable {K : PySem.W.Frag} {G : Hp}
theorem look_dt {f : Str} : ∀ {gs : List (Str × V)} {fs : List (Str × D)} {d : D}, gs.map (·.1) = fs.map (·.1) → DtL K G (gs.map (·.2)) (fs.map (·.2)) → fs.lookup f = some d → ∃ v, gs.lookup f = some v ∧ Dt K G v d
  | [], [], d, _, _, h => by cases h
  | [], _ :: _, d, e, _, h => by cases e
  | _ :: _, [], d, e, _, h => by cases e
  | (g, v) :: gs, (g', y) :: fs, d, e, t, h => by
    rw [List.map_cons, List.map_cons] at e t
    cases t with
    | cons t1 t2 =>
      have e1 : g = g' := (List.cons.inj e).1
      subst e1
      rw [List.lookup_cons] at h ⊢
      cases q : f == g with
      | true =>
        rw [q] at h
        cases h
        exact ⟨v, rfl, t1⟩
      | false =>
        rw [q] at h
        exact look_dt (List.cons.inj e).2 t2 h
theorem look_dtN {f : Str} : ∀ {gs : List (Str × V)} {fs : List (Str × D)}, gs.map (·.1) = fs.map (·.1) → fs.lookup f = none → gs.lookup f = none
  | [], [], _, h => rfl
  | [], _ :: _, e, h => by cases e
  | _ :: _, [], e, h => by cases e
  | (g, v) :: gs, (g', y) :: fs, e, h => by
    rw [List.map_cons, List.map_cons] at e
    have e1 : g = g' := (List.cons.inj e).1
    subst e1
    rw [List.lookup_cons] at h ⊢
    cases q : f == g with
    | true => rw [q] at h; cases h
    | false =>
      rw [q] at h
      exact look_dtN (List.cons.inj e).2 h
theorem put_dt {f : Str} {v : V} {d : D} (r : Dt K G v d) : ∀ {gs : List (Str × V)} {fs : List (Str × D)}, gs.map (·.1) = fs.map (·.1) → DtL K G (gs.map (·.2)) (fs.map (·.2)) → (putF f v gs).map (·.1) = (putD f d fs).map (·.1) ∧ DtL K G ((putF f v gs).map (·.2)) ((putD f d fs).map (·.2))
  | [], [], _, _ => ⟨rfl, .cons r .nil⟩
  | [], _ :: _, e, _ => by cases e
  | _ :: _, [], e, _ => by cases e
  | (g, v') :: gs, (g', y) :: fs, e, t => by
    rw [List.map_cons, List.map_cons] at e t
    cases t with
    | cons t1 t2 =>
      have e1 : g = g' := (List.cons.inj e).1
      subst e1
      unfold putF putD
      by_cases q : g = f
      · rw [if_pos q, if_pos q]
        exact ⟨by rw [List.map_cons, List.map_cons, (List.cons.inj e).2], .cons r t2⟩
      · rw [if_neg q, if_neg q]
        obtain ⟨k1, k2⟩ := put_dt r (List.cons.inj e).2 t2
        exact ⟨by rw [List.map_cons, List.map_cons, k1], .cons t1 k2⟩
theorem Hs.ins {M : Mp} {H : Hp} {a C : Addr} {fs : List (Str × D)} (s : Hs K G M H) (h : M a = some (.ins C fs)) : ∃ dx gs, H a = some (.ins C dx gs) ∧ gs.map (·.1) = fs.map (·.1) ∧ DtL K G (gs.map (·.2)) (fs.map (·.2)) := (s.ok a _ h).2
end
section
variable {J : Jx} {te ta tb to tv : TE} {t : TA} {ρ : Ro} {M : Mp} {d x y z : D} {ds es : List D} {P : Po} {R : D → Mp → Prop} {a C : Addr} {fs : List (Str × D)} {f m : Str}
theorem ev_fld (h : Ev J ta ρ M (.ref a)) (hm : M a = some (.ins C fs)) (c : Cls J.K C) (n : NoAttr J.K C f) (l : fs.lookup f = some d) : Ev J (tFld J.K ta f) ρ M d := fun G σ H r s xo Q q => h G σ H r s xo _ fun v d' G1 M1 H1 e e1 s1 t1 => by
  obtain ⟨rfl, rfl⟩ := e
  cases t1
  obtain ⟨dx, gs, g1, g2, g3⟩ := s1.ins hm
  obtain ⟨u, l1, l2⟩ := look_dt g2 g3 l
  exact ⟨a, C, dx, gs, u, rfl, g1, c, n, l1, q _ _ G1 _ H1 ⟨rfl, rfl⟩ e1 s1 l2⟩
theorem s_fld (hv : Ev J tv ρ M x) (h : Ev J ta ρ M (.ref a)) (hm : M a = some (.ins C fs)) (c : Cls J.K C) (n : NoAttr J.K C f) (hl : fs.length < 1000) (k : P.nx ρ (ud M a (.ins C (putD f x fs)))) : S J (sFld J.K ta tv f) ρ M P := fun G σ H D' r s xo q =>
  hv G σ H r s xo _ fun v d G1 M1 H1 e e1 s1 t1 => by
    obtain ⟨rfl, rfl⟩ := e
    refine h G1 σ H1 (r.mono e1) s1 (xo.mono e1) _ fun v2 d2 G2 M2 H2 e e2 s2 t2 => ?_
    obtain ⟨rfl, rfl⟩ := e
    cases t2
    obtain ⟨g, dx, gs, g1, g2, g3⟩ := s2.ok a _ hm
    have hl' : gs.length < 1000 := by
      have e := congrArg List.length g2
      rw [List.length_map, List.length_map] at e
      omega
    obtain ⟨k1, k2⟩ := put_dt (f := f) (t1.mono e2) g2 g3
    exact ⟨a, C, dx, gs, rfl, g1, c, n, hl', q.nx G2 σ ρ _ _ k (e1.trans e2) (r.mono (e1.trans e2)) (s2.put g ⟨dx, _, upd_same, k1, k2⟩)⟩
/-- a field gets a new value that may change the ledger -/
theorem s_fldW (hv : W J tv ρ M fun x M1 => Ev J ta ρ M1 (.ref a) ∧ ∃ fs, M1 a = some (.ins C fs) ∧ fs.length < 1000 ∧ P.nx ρ (ud M1 a (.ins C (putD f x fs)))) (c : Cls J.K C) (n : NoAttr J.K C f) : S J (sFld J.K ta tv f) ρ M P := fun G σ H D' r s xo q =>
  hv G σ H r s xo _ fun v d G1 M1 H1 hh e1 s1 t1 => by
    obtain ⟨h, fs, hm, hl, k⟩ := hh
    refine h G1 σ H1 (r.mono e1) s1 (xo.mono e1) _ fun v2 d2 G2 M2 H2 e e2 s2 t2 => ?_
    obtain ⟨rfl, rfl⟩ := e
    cases t2
    obtain ⟨g, dx, gs, g1, g2, g3⟩ := s2.ok a _ hm
    have hl' : gs.length < 1000 := by
      have e := congrArg List.length g2
      rw [List.length_map, List.length_map] at e
      omega
    obtain ⟨k1, k2⟩ := put_dt (f := f) (t1.mono e2) g2 g3
    exact ⟨a, C, dx, gs, rfl, g1, c, n, hl', q.nx G2 σ ρ _ _ k (e1.trans e2) (r.mono (e1.trans e2)) (s2.put g ⟨dx, _, upd_same, k1, k2⟩)⟩
theorem w_meth {Rf : Pr} {E : XK} (xe : Addr → Mp → Prop) (hx : ∀ G : Hp, XOk J G → ∀ c M' (G' H' : Hp), xe c M' → Same G G' → Hs J.K G' M' H' → E (.ref c) none H') (h : W J ta ρ M fun x M1 => ∃ a fs, x = .ref a ∧ M1 a = some (.ins C fs) ∧ fs.lookup m = none ∧ WA J t ρ M1 fun ds M2 => Rf (x :: ds) M2 R xe) : W J (tMeth C m (spD J.K Rf) [] E ta t) ρ M R := fun G σ H r s xo Q q =>
  h G σ H r s xo _ fun v d G1 M1 H1 h1 e1 s1 t1 => by
    obtain ⟨a, fs, rfl, hm, l, h1⟩ := h1
    cases t1
    obtain ⟨dx, gs, g1, g2, g3⟩ := s1.ins hm
    refine ⟨a, dx, gs, rfl, g1, look_dtN g2 l, h1 G1 σ H1 (r.mono e1) s1 (xo.mono e1) _ fun vs ds G2 M2 H2 h2 e2 s2 t2 => ?_⟩
    rw [List.append_nil]
    exact ⟨G2, M2, _, R, xe, s2, .cons (.ref a) t2, h2, q.mono (e1.trans e2), hx G2 (xo.mono (e1.trans e2))⟩
/-- a method that lets nothing out -/
theorem w_meth0 {Rf : Pr} {E : XK} (h : Ev J ta ρ M (.ref a)) (hm : M a = some (.ins C fs)) (l : fs.lookup m = none) (ha : EvA J t ρ M ds) (k : Rf (.ref a :: ds) M R noX) : W J (tMeth C m (spD J.K Rf) [] E ta t) ρ M R :=
  w_meth noX (fun G _ => fun _ _ _ _ z => z.elim) (h.w ⟨a, fs, rfl, hm, l, ha.w k⟩)
/-- .. that may raise -/
theorem w_methX {Rf : Pr} {K : PySem.W.Frag} {E : XK} {xe : Addr → Mp → Prop} (h : Ev (JX K E xe) ta ρ M (.ref a)) (hm : M a = some (.ins C fs)) (l : fs.lookup m = none) (ha : EvA (JX K E xe) t ρ M ds) (k : Rf (.ref a :: ds) M R xe) : W (JX K E xe) (tMeth C m (spD K Rf) [] E ta t) ρ M R := fun G σ H r s xo Q q =>
  h G σ H r s xo _ fun v d G1 M1 H1 h1 e1 s1 t1 => by
    obtain ⟨rfl, rfl⟩ := h1
    cases t1
    obtain ⟨dx, gs, g1, g2, g3⟩ := s1.ins hm
    refine ⟨a, dx, gs, rfl, g1, look_dtN g2 l, ha G1 σ H1 (r.mono e1) s1 (xo.mono e1) _ fun vs ds G2 M2 H2 h2 e2 s2 t2 => ?_⟩
    obtain ⟨rfl, rfl⟩ := h2
    rw [List.append_nil]
    exact ⟨G2, M2, _, R, xe, s2, .cons (.ref a) t2, k, q.mono (e1.trans e2), fun c M' G' H' x s' kk => xo c M' G' H' σ ρ x ((e1.trans e2).trans s') (r.mono ((e1.trans e2).trans s')) kk⟩
/-- C(..) -/
theorem w_make {Rf : Pr} {E : XK} (ha : EvA J t ρ M ds) (k : ∀ p, M p = none → Rf (.ref p :: ds) (ud M p (.ins C [])) (fun d M' => d = .non ∧ R (.ref p) M') noX) : W J (tMake C (spD J.K Rf) [] E t) ρ M R := fun G σ H r s xo Q q =>
  ha G σ H r s xo _ fun vs ds' G1 M1 H1 e e1 s1 t1 p dx hp hdx hne => by
    obtain ⟨rfl, rfl⟩ := e
    have s2 := s1.junk (o := .own p) hdx
    have hp2 : (upd H1 dx (.own p)) p = none := by rw [upd_ne (fun z => hne z.symm)]; exact hp
    have s3 := s2.new (o := .ins C dx []) (m := .ins C []) hp2 ⟨dx, [], upd_same, rfl, .nil⟩
    rw [List.append_nil]
    refine ⟨G1, _, _, _, noX, s3, .cons (.ref p) t1, k p (s1.none_m hp), fun v d G' M' H' h' e' s' t' => ?_, fun _ _ _ _ z => z.elim⟩
    obtain ⟨rfl, h'⟩ := h'
    cases t'
    exact ⟨rfl, q _ _ G' M' H' h' (e1.trans e') s' (.ref p)⟩
theorem w_makeX {Rf : Pr} {K : PySem.W.Frag} {E : XK} {xe : Addr → Mp → Prop} (ha : EvA (JX K E xe) t ρ M ds) (k : ∀ p, M p = none → Rf (.ref p :: ds) (ud M p (.ins C [])) (fun d M' => d = .non ∧ R (.ref p) M') xe) : W (JX K E xe) (tMake C (spD K Rf) [] E t) ρ M R := fun G σ H r s xo Q q =>
  ha G σ H r s xo _ fun vs ds' G1 M1 H1 e e1 s1 t1 p dx hp hdx hne => by
    obtain ⟨rfl, rfl⟩ := e
    have s2 := s1.junk (o := .own p) hdx
    have hp2 : (upd H1 dx (.own p)) p = none := by rw [upd_ne (fun z => hne z.symm)]; exact hp
    have s3 := s2.new (o := .ins C dx []) (m := .ins C []) hp2 ⟨dx, [], upd_same, rfl, .nil⟩
    rw [List.append_nil]
    refine ⟨G1, _, _, _, xe, s3, .cons (.ref p) t1, k p (s1.none_m hp), fun v d G' M' H' h' e' s' t' => ?_, fun c M' G' H' x s' kk => xo c M' G' H' σ ρ x (e1.trans s') (r.mono (e1.trans s')) kk⟩
    obtain ⟨rfl, h'⟩ := h'
    cases t'
    exact ⟨rfl, q _ _ G' M' H' h' (e1.trans e') s' (.ref p)⟩
end

/-! ### a def -/
section
open PySem.Spec PyProof.Rows
variable {P : Program} {w : World} {K : PySem.W.Frag} {mg : Str → Option Value} {base : Heap}
theorem fn_dl {x qual : Str} {st : Stmt} {f : Addr} {fd : FuncData} {N ps : List Str} {k : Nat} {Rf : Pr} (F : Fun K x qual st f fd) (Sc : FnScope N ps (defScope st)) (len : ∀ ds M nx xe, Rf ds M nx xe → ds.length = ps.length)
    (hbody : ∀ (cdv : Value) (A : Around) (outer : List Env) (s : Shared) (H : Hp) (E : XK), Room k (A.deeper (envOfC qual (defScope st) s.heap.objs.size f cdv)) →
      ∃ t, PSs (cxOf CX0 P w K mg base N qual (defScope st) f cdv A outer s H E).nox (defBody st) t ∧ ∀ ds M nx xe, Rf ds M nx xe → S (J0 K) t (startD N ds) M { nx := fun _ M' => nx .non M', rt := nx }) : FnOk P w K mg base CX0 (k + 1) f fd ps (spD K Rf) := by
  refine F.ok Sc (fun vs H Q E h => ?_) (fun cdv A outer s H vs Q E hr h => ?_)
  · obtain ⟨G, M, ds, nx, xe, hs, hd, hR, _⟩ := h
    rw [hd.length]
    exact len ds M nx xe hR
  · obtain ⟨G, M, ds, nx, xe, hs, hd, hR, kn, kx⟩ := h
    obtain ⟨t, ht, hS⟩ := hbody cdv A outer s H E hr
    refine ⟨t, ht, hS ds M nx xe hR G _ H _ (rel_start N hd) hs (fun _ _ _ _ _ _ z => z.elim) ⟨fun G' σ' ρ' M' H' h1 e1 r1 s1 => ?_, fun G' v d M' H' h1 e1 s1 t1 => kn v d G' M' H' h1 e1 s1 t1, fun G' σ' ρ' M' H' h1 => False.elim h1, fun G' σ' ρ' M' H' h1 => False.elim h1⟩⟩
    exact kn .non .non G' M' H' h1 e1 s1 .non
end
end DL

namespace DL
open PySem L2
/-! ### great ints -/
/-- at most n bits -/
def Bt (n : Nat) (i : Int) : Prop := Builtin.Int.intBits i ≤ n
theorem bt_iff {n : Nat} {i : Int} : Bt n i ↔ i.natAbs < 2 ^ n := by
  unfold Bt Builtin.Int.intBits
  by_cases h : i = 0
  · rw [if_pos (by simpa using h), h]
    constructor
    · intro _; exact Nat.two_pow_pos n
    · intro _; exact Nat.zero_le _
  · rw [if_neg (by simpa using h)]
    have h0 : i.natAbs ≠ 0 := by omega
    constructor
    · intro q
      exact (Nat.log2_lt h0).mp (by omega)
    · intro q
      have := (Nat.log2_lt h0).mpr q
      omega
theorem Bt.mono {n m : Nat} {i : Int} (h : Bt n i) (l : n ≤ m) : Bt m i := Nat.le_trans h l
theorem Bt.of_le {n : Nat} {i j : Int} (h : Bt n i) (l : j.natAbs ≤ i.natAbs) : Bt n j := bt_iff.mpr (Nat.lt_of_le_of_lt l (bt_iff.mp h))
theorem Bt.add {n : Nat} {i j : Int} (h : Bt n i) (k : Bt n j) : Bt (n + 1) (i + j) := by
  have a := bt_iff.mp h
  have b := bt_iff.mp k
  refine bt_iff.mpr ?_
  rw [Nat.pow_succ]
  omega
theorem Bt.neg {n : Nat} {i : Int} (h : Bt n i) : Bt n (-i) := h.of_le (by omega)
theorem Bt.sub {n : Nat} {i j : Int} (h : Bt n i) (k : Bt n j) : Bt (n + 1) (i - j) := by
  rw [Int.sub_eq_add_neg]; exact h.add k.neg
theorem Bt.mul {n m : Nat} {i j : Int} (h : Bt n i) (k : Bt m j) : Bt (n + m) (i * j) := by
  have a := bt_iff.mp h
  have b := bt_iff.mp k
  refine bt_iff.mpr ?_
  rw [Int.natAbs_mul, Nat.pow_add]
  exact Nat.mul_lt_mul'' a b
theorem Bt.div {n : Nat} {i j : Int} (h : Bt n i) (hj : 0 < j) : Bt n (i / j) := by
  refine h.of_le ?_
  rcases Int.le_total 0 i with h0 | h0
  · have a := Int.ediv_nonneg h0 (Int.le_of_lt hj)
    have b : i / j ≤ i := Int.ediv_le_self j h0
    omega
  · have a : i / j ≤ 0 := by
      have := Int.ediv_le_ediv hj h0
      rw [Int.zero_ediv] at this
      exact this
    have b : i ≤ i / j := by
      refine (Int.le_ediv_iff_mul_le hj).mpr ?_
      have e : i * j ≤ i * 1 := Int.mul_le_mul_of_nonpos_left h0 (by omega)
      rw [Int.mul_one] at e
      exact e
    omega
theorem Bt.mod {n : Nat} {i j : Int} (k : Bt n j) (hj : 0 < j) : Bt n (i % j) := by
  refine k.of_le ?_
  have a := Int.emod_nonneg i (by omega : j ≠ 0)
  have b := Int.emod_lt_of_pos i hj
  omega
theorem bt_of_lt {n : Nat} {i : Int} (h : i.natAbs < 2 ^ n) : Bt n i := bt_iff.mpr h
theorem bt_small {n : Nat} {i : Int} (h1 : -(2 ^ n : Nat) < i) (h2 : i < (2 ^ n : Nat)) : Bt n i := bt_iff.mpr (by omega)
theorem bt16 {i : Int} (h1 : -65536 < i) (h2 : i < 65536) : Bt 16 i := by
  have e : (2 : Nat) ^ 16 = 65536 := by decide
  refine bt_iff.mpr ?_
  rw [e]
  omega
theorem bt32 {i : Int} (h1 : -4294967296 < i) (h2 : i < 4294967296) : Bt 32 i := by
  have e : (2 : Nat) ^ 32 = 4294967296 := by decide
  refine bt_iff.mpr ?_
  rw [e]
  omega
def CMulA (i j : Int) : Prop := Builtin.Int.intBits i + Builtin.Int.intBits j ≤ 134217728
theorem CMulA.ok {i j : Int} (h : CMulA i j) : IntMulOk i j := by
  have h' : Builtin.Int.intBits i + Builtin.Int.intBits j ≤ 134217728 := h
  have e : bitsLine = 134217728 := by decide
  unfold IntMulOk
  intro z
  rw [Bool.and_eq_true] at z
  have z2 := z.2
  unfold Builtin.Int.intTooBig at z2
  have z3 := of_decide_eq_true z2
  rw [e] at z3
  omega
theorem mulA {n m : Nat} {i j : Int} (h : Bt n i) (k : Bt m j) (l : n + m ≤ 134217728) : CMulA i j := by
  have a : Builtin.Int.intBits i ≤ n := h
  have b : Builtin.Int.intBits j ≤ m := k
  show Builtin.Int.intBits i + Builtin.Int.intBits j ≤ 134217728
  omega
theorem cmulD {i j : Int} (h : decide (Builtin.Int.intBits i + Builtin.Int.intBits j ≤ 134217728) = true) : CMulA i j := (show Builtin.Int.intBits i + Builtin.Int.intBits j ≤ 134217728 from of_decide_eq_true h)
def CPowW (i j : Int) : Prop := 0 ≤ j ∧ (Builtin.Int.intBits i : Int) * j ≤ 2 ^ 27
theorem cpowD {i j : Int} (h0 : decide (0 ≤ j) = true) (h : decide ((Builtin.Int.intBits i : Int) * j ≤ 2 ^ 27) = true) : CPowW i j := ⟨of_decide_eq_true h0, of_decide_eq_true h⟩
section
open PySem.Spec PyProof.Rows
variable {X : Cx}
theorem op_mulA : OpR X (binaryOp .Mult) (rI CMulA fun i j => .int (i * j)) := opI fun _ _ _ _ _ _ _ hc q => mul_int q hc.ok
theorem op_powW : OpR X (binaryOp .Pow) (rI CPowW fun i j => .int (i ^ j.toNat)) := opI fun _ _ _ _ _ _ _ hc q => pow_int hc.1 hc.2 q
end
theorem hu64 {A : Around} {k : Nat} (hr : Room k A) : A.units + 64 < cLine := Nat.lt_of_le_of_lt (Nat.add_le_add_left (by decide : 64 ≤ 64) _) hr.units

/-! ### types -/
def tyN (M : Mp) : D → String
  | .non => "NoneType" | .bl _ => "bool" | .int _ => "int" | .str _ => "str" | .lst _ => "list" | .frl _ => "list" | .tup _ => "tuple"
  | .ref a => (match M a with
    | some (.lst _) => "list"
    | some (.dct _) => "dict"
    | _ => "")
  | .ty _ => ""
theorem tyN_at {K : PySem.W.Frag} {G H : Hp} {M : Mp} {d : D} {v : V} (s : Hs K G M H) (t : Dt K G v d) (h : tyN M d ≠ "") : TyX K H v (.type (tyN M d)) := by
  cases t with
  | non => exact .base .non
  | bl b => exact .base (.bl b)
  | int i => exact .base (.int i)
  | str x => exact .base (.str x)
  | ty n => exact absurd rfl h
  | ref a =>
    cases e : M a with
    | none => exact absurd (by simp only [tyN, e]) h
    | some o =>
      obtain ⟨g, k⟩ := s.ok a o e
      cases o with
      | lst ds =>
        obtain ⟨xs, e1, _⟩ := k
        rw [show tyN M (.ref a) = "list" by simp only [tyN, e]]
        exact .base (.lst e1)
      | dct kvs =>
        obtain ⟨ws, e1, _⟩ := k
        rw [show tyN M (.ref a) = "dict" by simp only [tyN, e]]
        exact .base (.dK e1)
      | ins C fs => exact absurd (by simp only [tyN, e]) h
      | dcl od ws kvs => exact absurd (by simp only [tyN, e]) h
  | lst h1 h2 => exact .base (.lst (s.sub _ _ h1))
  | frl h1 h2 =>
    rcases h1 with (h1 | ⟨o, h1⟩) | ⟨dd, its, n, q, rest⟩
    · exact .base (.lst (s.sub _ _ h1))
    · exact .base (.frz (s.sub _ _ h1))
    · exact .kList q rest.1
  | tup h1 h2 => exact .base (.tup (s.sub _ _ h1))
section
variable {J : Jx} {te ta tb tc to ti : TE} {tt tu : TT} {t : TA} {ρ : Ro} {M : Mp} {d x y z : D} {ds es : List D} {b c : Bool} {R R' : D → Mp → Prop}
theorem ev_isi {n : String} (ha : Ev J ta ρ M x) (hc : Ev J tb ρ M (.ty n)) (h : kitB (tyN M x) n = some b) (h' : tyN M x ≠ "") : Ev J (tCB (rIsi J.K) (tCons ta (tCons tb tNil))) ρ M (.bl b) :=
  w_cb1 (ea_cons ha (ea_cons hc ea_nil)) (opA_val fun G H vs s tx => by
    cases tx with
    | cons t1 t2 =>
      cases t2 with
      | cons t2 t3 =>
        cases t3
        cases t2
        exact ⟨_, .bl b, fun Q q => ⟨_, _, _, _, b, rfl, .ty n, tyN_at s t1 h', kit_ty h, q⟩⟩)
theorem ev_isiT {n : String} (t : String) (ha : Ev J ta ρ M x) (hc : Ev J tb ρ M (.ty n)) (hx : tyN M x = t) (h : kitB t n = some b) (h' : t ≠ "") : Ev J (tCB (rIsi J.K) (tCons ta (tCons tb tNil))) ρ M (.bl b) :=
  ev_isi ha hc (by rw [hx]; exact h) (by rw [hx]; exact h')
/-! ### == of data -/
mutual
def okPy : D → Bool
  | .non => true | .bl _ => true | .int _ => true | .str x => true | .ty _ => false | .ref _ => false
  | .lst ds => okPys ds | .frl ds => false | .tup ds => okPys ds
def okPys : List D → Bool
  | [] => true
  | d :: ds => okPy d && okPys ds
end
mutual
def toPy : D → PyData
  | .non => .none | .bl b => .bool b | .int i => .int i | .str x => .str x | .ty _ => .none | .ref _ => .none
  | .lst ds => .list (toPys ds) | .frl ds => .list (toPys ds) | .tup ds => .tuple (toPys ds)
def toPys : List D → List PyData
  | [] => []
  | d :: ds => toPy d :: toPys ds
end
mutual
theorem dp_of {K : PySem.W.Frag} {G H : Hp} (e : Same G H) : ∀ {v : V} {d : D}, Dt K G v d → okPy d = true → Dp K H v (toPy d)
  | _, _, .non, _ => by unfold toPy; exact .non
  | _, _, .bl b, _ => by unfold toPy; exact .bl b
  | _, _, .int i, _ => by unfold toPy; exact .int i
  | _, _, .str x, h => by unfold toPy; exact .str x
  | _, _, .ty n, h => by unfold okPy at h; cases h
  | _, _, .ref a, h => by unfold okPy at h; cases h
  | _, _, .lst h1 h2, h => by unfold okPy at h; unfold toPy; exact .lst (SqL.of (e _ _ h1)) (dps_of e h2 h)
  | _, _, .frl h1 h2, h => by unfold okPy at h; cases h
  | _, _, .tup h1 h2, h => by unfold okPy at h; unfold toPy; exact .tup (SqT.of (e _ _ h1)) (dps_of e h2 h)
theorem dps_of {K : PySem.W.Frag} {G H : Hp} (e : Same G H) : ∀ {vs : List V} {ds : List D}, DtL K G vs ds → okPys ds = true → DpAll K H vs (toPys ds)
  | _, _, .nil, _ => by unfold toPys; exact .nil
  | _, _, .cons h1 h2, h => by
    unfold okPys at h
    unfold toPys
    exact .cons (dp_of e h1 (Bool.and_eq_true_iff.mp h).1) (dps_of e h2 (Bool.and_eq_true_iff.mp h).2)
end
/-- what a slot holds, a list of the ledger told as what is in it -/
def Vw (M : Mp) (x d : D) : Prop := x = d ∨ ∃ a ds, x = .ref a ∧ M a = some (.lst ds) ∧ d = .lst ds
theorem Vw.i : Vw M x x := .inl rfl
theorem Vw.r {a : Addr} (h : M a = some (.lst ds)) : Vw M (.ref a) (.lst ds) := .inr ⟨a, ds, rfl, h, rfl⟩
theorem IsM.vw (h : IsM M x ds) : Vw M x (.lst ds) := h.elim .inl fun ⟨a, e1, e2⟩ => .inr ⟨a, ds, e1, e2, rfl⟩
theorem Vw.sub {M' : Mp} (h : Vw M x d) (s : Sub M M') : Vw M' x d := by
  rcases h with h | ⟨a, ds, h1, h2, h3⟩
  · exact .inl h
  · exact .inr ⟨a, ds, h1, s a _ h2, h3⟩
theorem Vw.dp {K : PySem.W.Frag} {G H : Hp} {v : V} (h : Vw M x d) (s : Hs K G M H) (t : Dt K G v x) (ok : okPy d = true) : Dp K H v (toPy d) := by
  rcases h with rfl | ⟨a, ds, rfl, h2, rfl⟩
  · exact dp_of s.sub t ok
  · cases t
    obtain ⟨g, xs, e, k⟩ := s.ok a _ h2
    unfold okPy at ok
    unfold toPy
    exact .lst (SqL.of e) (dps_of s.sub k ok)
/-- a way to tell things of a type as data, == of which is = of the things -/
structure Cd (α : Type) [DecidableEq α] where
  d : α → D
  ok : ∀ a, okPy (d a) = true
  ev : ∀ a b, PyData.eqv (toPy (d a)) (toPy (d b)) = decide (a = b)
  lay : ∀ a, PyData.canLay0 (toPy (d a)) = true
  dep : Nat
  dle : ∀ a, (toPy (d a)).depth ≤ dep
def cI : Cd Int where
  d := .int
  ok := fun a => by unfold okPy; rfl
  ev := fun a b => by
    unfold toPy PyData.eqv
    by_cases h : a = b
    · rw [h]; simp
    · rw [decide_eq_false h]; simpa using h
  lay := fun a => by unfold toPy; rfl
  dep := 1
  dle := fun a => by unfold toPy PyData.depth; decide
def cO : Cd (Option Int) where
  d := oD
  ok := fun a => by cases a <;> (unfold oD okPy; rfl)
  ev := fun a b => by
    cases a <;> cases b <;> (unfold oD toPy PyData.eqv) <;> simp <;> rfl
  lay := fun a => by cases a <;> (unfold oD toPy; rfl)
  dep := 1
  dle := fun a => by cases a <;> (unfold oD toPy PyData.depth; decide)
theorem okPys_map {α : Type} [DecidableEq α] (c : Cd α) : ∀ l : List α, okPys (l.map c.d) = true
  | [] => by unfold List.map okPys; rfl
  | a :: l => by
    rw [List.map_cons]
    unfold okPys
    rw [c.ok, okPys_map c l]; rfl
theorem eqvAll_map {α : Type} [DecidableEq α] (c : Cd α) : ∀ l m : List α, PyData.eqvAll (toPys (l.map c.d)) (toPys (m.map c.d)) = decide (l = m)
  | [], [] => by unfold List.map toPys PyData.eqvAll; simp
  | [], b :: m => by
    rw [List.map_nil, List.map_cons]; unfold toPys PyData.eqvAll; simp
  | a :: l, [] => by
    rw [List.map_nil, List.map_cons]; unfold toPys PyData.eqvAll; simp
  | a :: l, b :: m => by
    rw [List.map_cons, List.map_cons]
    unfold toPys PyData.eqvAll
    rw [c.ev, eqvAll_map c l m, Bool.eq_iff_iff]
    simp
theorem layAll_map {α : Type} [DecidableEq α] (c : Cd α) : ∀ l : List α, PyData.canLayAll0 (toPys (l.map c.d)) = true
  | [] => by rw [List.map_nil]; unfold toPys PyData.canLayAll0; rfl
  | a :: l => by
    rw [List.map_cons]
    unfold toPys PyData.canLayAll0
    rw [c.lay, layAll_map c l]; rfl
theorem depAll_map {α : Type} [DecidableEq α] (c : Cd α) : ∀ l : List α, PyData.depthAll (toPys (l.map c.d)) ≤ c.dep
  | [] => by rw [List.map_nil]; unfold toPys PyData.depthAll; exact Nat.zero_le _
  | a :: l => by
    rw [List.map_cons]
    unfold toPys PyData.depthAll
    exact Nat.max_le.mpr ⟨c.dle a, depAll_map c l⟩
def cL {α : Type} [DecidableEq α] (c : Cd α) : Cd (List α) where
  d := fun l => .lst (l.map c.d)
  ok := fun l => by unfold okPy; exact okPys_map c l
  ev := fun l m => by unfold toPy PyData.eqv; exact eqvAll_map c l m
  lay := fun l => by unfold toPy PyData.canLay0; exact layAll_map c l
  dep := c.dep + 1
  dle := fun l => by
    unfold toPy PyData.depth
    have := depAll_map c l
    omega
/-- a tuple of many -/
def cU {α : Type} [DecidableEq α] (c : Cd α) : Cd (List α) where
  d := fun l => .tup (l.map c.d)
  ok := fun l => by unfold okPy; exact okPys_map c l
  ev := fun l m => by unfold toPy PyData.eqv; exact eqvAll_map c l m
  lay := fun l => by unfold toPy PyData.canLay0; exact layAll_map c l
  dep := c.dep + 1
  dle := fun l => by
    unfold toPy PyData.depth
    have := depAll_map c l
    omega
theorem shaped_of {α : Type} [DecidableEq α] (c : Cd α) (h : c.dep ≤ 64) (a : α) : SeqAt.shaped (toPy (c.d a)) = true := by
  unfold SeqAt.shaped
  rw [c.lay, Bool.true_and]
  exact decide_eq_true (Nat.le_trans (c.dle a) h)
theorem ev_eqC {α : Type} [DecidableEq α] (cc : Cd α) {a a' : α} (ha : Ev J ta ρ M x) (hb : Ev J tb ρ M y) (hx : Vw M x (cc.d a)) (hy : Vw M y (cc.d a')) (hd : cc.dep ≤ 64) : Ev J (tOp (rEqD J.K) ta tb) ρ M (.bl (decide (a = a'))) :=
  w_op1 ha hb (op2_val fun G H vx vy s tx ty => ⟨_, .bl _, fun Q q => ⟨_, _, hx.dp s tx (cc.ok a), hy.dp s ty (cc.ok a'), shaped_of cc hd a, shaped_of cc hd a', by rw [cc.ev]; exact q⟩⟩)
theorem ev_neC {α : Type} [DecidableEq α] (cc : Cd α) {a a' : α} (ha : Ev J ta ρ M x) (hb : Ev J tb ρ M y) (hx : Vw M x (cc.d a)) (hy : Vw M y (cc.d a')) (hd : cc.dep ≤ 64) : Ev J (tOp (rNeD J.K) ta tb) ρ M (.bl (!decide (a = a'))) :=
  w_op1 ha hb (op2_val fun G H vx vy s tx ty => ⟨_, .bl _, fun Q q => ⟨_, _, hx.dp s tx (cc.ok a), hy.dp s ty (cc.ok a'), shaped_of cc hd a, shaped_of cc hd a', by rw [cc.ev]; exact q⟩⟩)
end
/-! ### promises by the number of arguments -/
abbrev NX := D → Mp → Prop
abbrev XE' := Addr → Mp → Prop
def q1 (R : D → Mp → NX → XE' → Prop) : Pr := fun ds M nx xe => ∃ x, ds = [x] ∧ R x M nx xe
def q2 (R : D → D → Mp → NX → XE' → Prop) : Pr := fun ds M nx xe => ∃ x y, ds = [x, y] ∧ R x y M nx xe
def q3 (R : D → D → D → Mp → NX → XE' → Prop) : Pr := fun ds M nx xe => ∃ x y z, ds = [x, y, z] ∧ R x y z M nx xe
def q4 (R : D → D → D → D → Mp → NX → XE' → Prop) : Pr := fun ds M nx xe => ∃ x y z u, ds = [x, y, z, u] ∧ R x y z u M nx xe
def q5 (R : D → D → D → D → D → Mp → NX → XE' → Prop) : Pr := fun ds M nx xe => ∃ x y z u v, ds = [x, y, z, u, v] ∧ R x y z u v M nx xe
def q6 (R : D → D → D → D → D → D → Mp → NX → XE' → Prop) : Pr := fun ds M nx xe => ∃ x y z u v w, ds = [x, y, z, u, v, w] ∧ R x y z u v w M nx xe
theorem q1_len {R} {ds : List D} {M : Mp} {nx : NX} {xe : XE'} (h : q1 R ds M nx xe) : ds.length = 1 := by obtain ⟨_, rfl, _⟩ := h; rfl
theorem q2_len {R} {ds : List D} {M : Mp} {nx : NX} {xe : XE'} (h : q2 R ds M nx xe) : ds.length = 2 := by obtain ⟨_, _, rfl, _⟩ := h; rfl
theorem q3_len {R} {ds : List D} {M : Mp} {nx : NX} {xe : XE'} (h : q3 R ds M nx xe) : ds.length = 3 := by obtain ⟨_, _, _, rfl, _⟩ := h; rfl
theorem q4_len {R} {ds : List D} {M : Mp} {nx : NX} {xe : XE'} (h : q4 R ds M nx xe) : ds.length = 4 := by obtain ⟨_, _, _, _, rfl, _⟩ := h; rfl
theorem q5_len {R} {ds : List D} {M : Mp} {nx : NX} {xe : XE'} (h : q5 R ds M nx xe) : ds.length = 5 := by obtain ⟨_, _, _, _, _, rfl, _⟩ := h; rfl
theorem q6_len {R} {ds : List D} {M : Mp} {nx : NX} {xe : XE'} (h : q6 R ds M nx xe) : ds.length = 6 := by obtain ⟨_, _, _, _, _, _, rfl, _⟩ := h; rfl
section
variable (P : Program) (w : World) (K : PySem.W.Frag) (mg : Str → Option Value) (base : Heap)
/-- a def of the module keeps its promise -/
def OkF (CX : CXT) (k : Nat) (x : Str) (f : Addr) (ps : List Str) (Rf : Pr) : Prop := ∃ fd : FuncData, FnOk P w K mg base CX k f fd ps (spD K Rf) ∧ Binds K fd ps [] ∧ PySem.W.keepIn K (.ref f) = true ∧ mg x = some (.ref f)
def OkM (CX : CXT) (k : Nat) (f : Addr) (ps : List Str) (Rf : Pr) : Prop := ∃ fd : FuncData, FnOk P w K mg base CX k f fd ps (spD K Rf) ∧ Binds K fd ps []
end
/-! ### lists of ints -/
theorem get_int {xs : List Int} {i : Nat} {d : D} (h : (xs.map D.int)[i]? = some d) : ∃ n, xs[i]? = some n ∧ d = .int n := by
  rw [List.getElem?_map] at h
  cases e : xs[i]? with
  | none => rw [e] at h; cases h
  | some n => rw [e] at h; exact ⟨n, rfl, (Option.some.inj h).symm⟩
theorem get_map {α : Type} {f : α → D} {xs : List α} {i : Nat} {d : D} (h : (xs.map f)[i]? = some d) : ∃ n, xs[i]? = some n ∧ d = f n := by
  rw [List.getElem?_map] at h
  cases e : xs[i]? with
  | none => rw [e] at h; cases h
  | some n => rw [e] at h; exact ⟨n, rfl, (Option.some.inj h).symm⟩
theorem drop_at {α : Type} {xs : List α} {i : Nat} {a : α} (h : xs[i]? = some a) : xs.drop i = a :: xs.drop (i + 1) := by
  obtain ⟨hl, e⟩ := List.getElem?_eq_some_iff.mp h
  rw [List.drop_eq_getElem_cons hl, e]
theorem lt_of_get {α : Type} {xs : List α} {i : Nat} {a : α} (h : xs[i]? = some a) : i < xs.length := (List.getElem?_eq_some_iff.mp h).1
theorem atI_int {xs : List Int} {k : Int} (h0 : 0 ≤ k) (h : k < xs.length) : atI (xs.map D.int) k = some (.int (xs.getD k.toNat 0)) := by
  have e : ((k.toNat : Nat) : Int) = k := Int.toNat_of_nonneg h0
  have hl : k.toNat < xs.length := by omega
  have q : (xs.map D.int)[k.toNat]? = some (.int (xs.getD k.toNat 0)) := by
    rw [List.getElem?_map, List.getElem?_eq_getElem hl]
    simp [List.getD_eq_getElem?_getD, List.getElem?_eq_getElem hl]
  have q2 := atI_nat q
  rw [e] at q2
  exact q2
section
open PySem.Spec PyProof.Rows
theorem cx_K {CX : CXT} {P : Program} {w : World} {K : PySem.W.Frag} {mg : Str → Option Value} {base : Heap} {N : List Str} {q : Str} {sc : Scope} {f : Addr} {cd : Value} {A : Around} {o : List Env} {s : Shared} {H : Hp} {E : XK} : (cxOf CX P w K mg base N q sc f cd A o s H E).K = K := rfl
theorem cx_nK {CX : CXT} {P : Program} {w : World} {K : PySem.W.Frag} {mg : Str → Option Value} {base : Heap} {N : List Str} {q : Str} {sc : Scope} {f : Addr} {cd : Value} {A : Around} {o : List Env} {s : Shared} {H : Hp} {E : XK} : (cxOf CX P w K mg base N q sc f cd A o s H E).nox.K = K := rfl
end
section
variable {J : Jx} {te ta tb tc to ti : TE} {tt tu : TT} {t : TA} {t1 t2 : TS} {ρ : Ro} {M : Mp} {d x y z : D} {ds es : List D} {b c : Bool} {P : Po} {R : D → Mp → Prop}
/-- a block cut behind its first statement -/
theorem s_cut (Q : Ro → Mp → Prop) (h1 : S J t1 ρ M ⟨Q, P.rt, P.bk, P.ct⟩) (h2 : ∀ ρ' M', Q ρ' M' → S J t2 ρ' M' P) : S J (tSeq t1 t2) ρ M P := s_seq (h1.imp h2 (fun _ _ h => h) (fun _ _ h => h) fun _ _ h => h)
theorem s_asgE {i : Nat} (h : Ev J te ρ M d) (k : P.nx (ρ.set i (some d)) M) : S J (tAsg te (gName i)) ρ M P := s_asg (h.w k)
theorem s_retE (h : Ev J te ρ M d) (k : P.rt d M) : S J (tRet te) ρ M P := s_ret (h.w k)
end
theorem sz {n : Nat} (h : n ≤ 1000000) : n ≤ sizeLine := Nat.le_trans h (by decide)
theorem szl {n : Nat} (h : n ≤ 1000000) : n < sizeLine := Nat.lt_of_le_of_lt h (by decide)
section
variable {J : Jx} {te ta tb tn : TE} {ρ : Ro} {M : Mp} {i : Nat}
/-- [f(k) for k in range(n)] -/
theorem en_rng {n : Int} (f : Int → D) (hn : Ev J tn ρ M (.int n)) (h1 : -(2 ^ 62) ≤ n) (h2 : n ≤ 1000000) (he : ∀ M1 (k : Int), Sub M M1 → 0 ≤ k → k < n → Ev J te (ρ.set i (some (.int k))) M1 (f k)) : EvN J (tLc (iRng1 (tCons tn tNil)) (gName i) tYes te [i]) ρ M ((List.range n.toNat).map fun (k : Nat) => f (k : Int)) := by
  refine en_lc1 (List.range n.toNat) (fun k => D.int (0 + (k : Int))) (fun (k : Nat) => f (k : Int)) (src_rng1 hn h1 (by omega)) (fun _ _ => trivial) (szl (by rw [List.length_range]; omega)) fun M1 k sb hk => ?_
  have e : (0 : Int) + (k : Int) = (k : Int) := Int.zero_add _
  rw [e]
  have hk' := List.mem_range.mp hk
  exact he M1 k sb (by omega) (by omega)
theorem en_rngI {n : Int} (f : Int → Int) (hn : Ev J tn ρ M (.int n)) (h1 : -(2 ^ 62) ≤ n) (h2 : n ≤ 1000000) (he : ∀ M1 (k : Int), Sub M M1 → 0 ≤ k → k < n → Ev J te (ρ.set i (some (.int k))) M1 (.int (f k))) : EvN J (tLc (iRng1 (tCons tn tNil)) (gName i) tYes te [i]) ρ M (((List.range n.toNat).map fun (k : Nat) => f (k : Int)).map D.int) := by
  have h := en_rng (fun k => D.int (f k)) hn h1 h2 he
  rw [List.map_map]
  exact h
end
/-! ### the rules with the written part named (within comprehensions the reading must not speak of the block) -/
section
open PySem.Spec PyProof.Rows
variable {X : Cx} {K : PySem.W.Frag} {a b e o l : Expr} {ta tb te to tl : TE} {pos apos cpos : Pos} {f : Str}
theorem kx_ixL (h : X.K = K) : IxR X (rIxL K) := h ▸ ix_list
theorem kx_ixT (h : X.K = K) : IxR X (rIxT K) := h ▸ ix_tup
theorem kx_ixQ (h : X.K = K) : IxR X (rIx K) := h ▸ ix_seq
theorem kx_sl (h : X.K = K) : SlR X (rSlL K) := h ▸ sl_list
theorem kx_len (h : X.K = K) : CallR X (.builtin "len") (fun xs H Q => ∃ p ys, xs = [.ref p] ∧ (SqL K H p ys ∨ SqT K H p ys) ∧ Q (.int ys.length) H) := h ▸ call_len_seq
theorem kx_list (h : X.K = K) : CallR X (.type "list") (fun xs H Q => ∃ p ys, xs = [.ref p] ∧ (SqL K H p ys ∨ SqT K H p ys) ∧ ∀ l, H l = none → Q (.ref l) (upd H l (.lst ys))) := h ▸ call_list_of
theorem kx_tuple (h : X.K = K) : CallR X (.type "tuple") (fun xs H Q => ∃ p ys, xs = [.ref p] ∧ ((SqL K H p ys ∧ ∀ l, H l = none → Q (.ref l) (upd H l (.tup ys))) ∨ (SqT K H p ys ∧ Q (.ref p) H))) := h ▸ call_tuple_of
theorem kx_in (h : X.K = K) : OpR X (compareOp .In) (rIn K false) := h ▸ op_in_seq
theorem kx_notIn (h : X.K = K) : OpR X (compareOp .NotIn) (rIn K true) := h ▸ op_notIn_seq
theorem kx_eqD (h : X.K = K) (hu : X.A.units + 64 < cLine) : OpR X (compareOp .Eq) (rEqD K) := h ▸ op_eqD hu
theorem kx_neD (h : X.K = K) (hu : X.A.units + 64 < cLine) : OpR X (compareOp .NotEq) (rNeD K) := h ▸ op_neD hu
theorem kx_isi (h : X.K = K) : CallR X (.builtin "isinstance") (rIsi K) := h ▸ call_isi
theorem kx_isiT (h : X.K = K) : CallR X (.builtin "isinstance") (rIsiT K) := h ▸ call_isiT
theorem kx_sortedI (h : X.K = K) : CallR X (.builtin "sorted") (rSortedI K) := h ▸ cr_sortedI
theorem kx_fld (h : X.K = K) (he : PE X e te) (hb : attributeBase e f X.env (eval e X.env) = eval e X.env) : PE X (.Attribute e f pos) (tFld K te f) := h ▸ pe_fld he hb
theorem kx_sfld {value : Expr} {tv : TE} {pos' : Pos} (h : X.K = K) (ha : PE X o to) (hv : PE X value tv) (hs : swapsWith value (some (.Attribute o f pos')) pos.line X.env = pure false) : PS X (.Assign [.Attribute o f pos'] value pos) (sFld K to tv f) := h ▸ ps_fld ha hv hs
theorem kx_plist {tg : Expr} (h : X.K = K) (hl : PE X l tl) : PI X tg l (iList K tl) := h ▸ pi_list hl
theorem kx_ptup {tg : Expr} (h : X.K = K) (hl : PE X l tl) : PI X tg l (iTup K tl) := h ▸ pi_tup hl
theorem kx_gtup {es : List Expr} {k : Nat} {t : TGs} {n : Nat} (h : X.K = K) (hc : X.calm = true) (hg : PGs X es t)
    (hn : (assignEach es X.env).length = n := by rfl) (hst : (assignEach es X.env).findIdx? (·.1) = none := by rfl) : PG X (.Tuple es k pos) (gTup K n t) := h ▸ pg_tup hc hg hn hst
end
end DL

namespace DL
open PySem L2
/-! ### triples of a wish -/
abbrev Tr := Int × Option Int × Option Int
def tD (t : Tr) : D := .tup [.int t.1, oD t.2.1, oD t.2.2]
def cT : Cd Tr where
  d := tD
  ok := fun t => by
    have h1 := cO.ok t.2.1
    have h2 := cO.ok t.2.2
    show okPys [.int t.1, cO.d t.2.1, cO.d t.2.2] = true
    unfold okPys okPys okPys okPys
    rw [h1, h2]
    rfl
  ev := fun a b => by
    have h1 := cI.ev a.1 b.1
    have h2 := cO.ev a.2.1 b.2.1
    have h3 := cO.ev a.2.2 b.2.2
    show PyData.eqvAll [toPy (cI.d a.1), toPy (cO.d a.2.1), toPy (cO.d a.2.2)] [toPy (cI.d b.1), toPy (cO.d b.2.1), toPy (cO.d b.2.2)] = _
    unfold PyData.eqvAll PyData.eqvAll PyData.eqvAll PyData.eqvAll
    rw [h1, h2, h3, Bool.eq_iff_iff]
    obtain ⟨a1, a2, a3⟩ := a
    obtain ⟨b1, b2, b3⟩ := b
    simp
  lay := fun t => by
    have h1 := cI.lay t.1
    have h2 := cO.lay t.2.1
    have h3 := cO.lay t.2.2
    show PyData.canLayAll0 [toPy (cI.d t.1), toPy (cO.d t.2.1), toPy (cO.d t.2.2)] = true
    unfold PyData.canLayAll0 PyData.canLayAll0 PyData.canLayAll0 PyData.canLayAll0
    rw [h1, h2, h3]
    rfl
  dep := 2
  dle := fun t => by
    have h1 := cI.dle t.1
    have h2 := cO.dle t.2.1
    have h3 := cO.dle t.2.2
    show (PyData.tuple [toPy (cI.d t.1), toPy (cO.d t.2.1), toPy (cO.d t.2.2)]).depth ≤ 2
    unfold PyData.depth PyData.depthAll PyData.depthAll PyData.depthAll PyData.depthAll
    have e1 : cI.dep = 1 := rfl
    have e2 : cO.dep = 1 := rfl
    omega
theorem isNon_oD (a : Option Int) : isNon (oD a) = a.isNone := by cases a <;> rfl
/-- a number between two ends -/
def withinM (v : Int) (lo hi : Option Int) : Bool := (lo.all fun l => decide (l ≤ v)) && (hi.all fun h => decide (v ≤ h))
def fitsM (row : List Int) (wish : List Tr) : Bool := wish.all fun t => withinM (row.getD t.1.toNat 0) t.2.1 t.2.2
/-- the columns of a wish are a row's -/
def ColsOk (n : Nat) (wish : List Tr) : Prop := ∀ t ∈ wish, 0 ≤ t.1 ∧ t.1 < (n : Int)
section
variable {J : Jx} {ta : TE} {ρ : Ro} {M : Mp} {d : D} {b : Bool}
theorem ev_isNb (ha : Ev J ta ρ M d) (h : isNon d = b) : Ev J (tIsN ta) ρ M (.bl b) := (ev_isN ha).is (by rw [h])
theorem ev_notNb (ha : Ev J ta ρ M d) (h : (!isNon d) = b) : Ev J (tNotN ta) ρ M (.bl b) := (ev_notN ha).is (by rw [h])
end
theorem snoc_ind {α : Type} {P : List α → Prop} (h0 : P []) (h1 : ∀ w t, P w → P (w ++ [t])) (w : List α) : P w := by
  have key : ∀ l : List α, P l.reverse := fun l => by
    induction l with
    | nil => exact h0
    | cons a l ih => rw [List.reverse_cons]; exact h1 _ a ih
  have := key w.reverse
  rw [List.reverse_reverse] at this
  exact this
end DL

namespace DL
open PySem L2
/-! ### sorted(d.keys()), any number of ints; list(d.values()) -/
def rSortedKeys : V → Hp → VK → Prop := fun x H Q => ∃ (a : Addr) (kvs : List (Key × V)) (ks : List Int), x = .ref a ∧ H a = some (.dK kvs) ∧ kvs.map (·.1) = ks.map Sum.inl ∧
  ∀ (ys : List Int) (p : Addr), ys.Perm ks → ys.Pairwise (· ≤ ·) → H p = none → Q (.ref p) (upd H p (.lst (ys.map V.int)))
def tSortedKeys (te : TE) : TE := fun σ H Q => te σ H fun x H1 => rSortedKeys x H1 Q
def rListVals : V → Hp → VK → Prop := fun x H Q => ∃ (a : Addr) (kvs : List (Key × V)), x = .ref a ∧ H a = some (.dK kvs) ∧ ∀ p, H p = none → Q (.ref p) (upd H p (.lst (kvs.map (·.2))))
def tListVals (te : TE) : TE := fun σ H Q => te σ H fun x H1 => rListVals x H1 Q
section
open PySem.Spec PyProof.Rows
variable {X : Cx} {e : Expr} {te : TE} {p apos cpos pos : Pos}
theorem kv_vals : ∀ {kvs : List (Key × V)} {vs : List (Key × Value)}, KV kvs vs → Vals (kvs.map (·.2)) (vs.map (·.2))
  | _, _, .nil => .nil
  | _, _, .cons r t => .cons r.2 (kv_vals t)
theorem pe_sortedKeys (hc : X.calm = true) (he : PE X e te) (hg : Gl X "sorted") (hm : X.mg "sorted" = none) (hv : bootBuiltins "sorted" = some (.builtin "sorted")) (hbase : attributeBase e "keys" X.env (eval e X.env) = eval e X.env := by rfl) (hline : (apos.endLine == cpos.line) = true := by rfl)
    (hs : starEach [.Call (.Attribute e "keys" apos) [] [] cpos] X.env = (false, eval (.Call (.Attribute e "keys" apos) [] [] cpos) X.env) :: starEach [] X.env := by rfl) :
    PE X (.Call (.Name "sorted" p) [.Call (.Attribute e "keys" apos) [] [] cpos] [] pos) (tSortedKeys te) := by
  refine ⟨fun pins s σ H Q I hq => ?_⟩
  refine wpAny_Call_Name_kw (ld_blt I hg hm hv ?_)
  refine PyProof.Rows.callWith_builtin1 ?_ hs rfl
  rw [hs]
  show wpAny _ _ (spliced ((false, eval (.Call (.Attribute e "keys" apos) [] [] cpos) X.env) :: backTo pos (starEach [] X.env))) _ _ s
  refine Calls.spliced_cons ?_
  refine wpAny_Call_method (T := "dict") (id := "dict.keys") hbase rfl hline F.plainAttrs_dict F.slot_dict_keys F.type_dict_keys (thn (he.run pins s σ H _ I hq) fun u s1 ⟨x, H1, I1, rx, a, kvs, ks, ex, hd, hks, q⟩ => ?_)
  subst ex
  obtain rfl : u = Value.ref a := rx
  obtain ⟨hz, hs0, vs, kv, hdo⟩ := I1.hok a _ hd
  obtain ⟨ep, hat⟩ := hdo.dictAt
  have I2 : Inv X pins σ H1 { s1 with heap := s1.heap.push { cls := .type "dict_keys", data := .fields #[.ref a] } } := I1.kept (t' := s1.toks) fun b ob q => Heap.get?_push_of_some _ q
  refine ⟨hdo.typeIs, hdo.mapOf.noDict, ?_⟩
  show wpAny _ _ (callWith cpos (.builtin "dict.keys") [.ref a] [] []) _ X.xe s1
  refine method_meetsIn F.slot_dict_keys F.entry_dict_keys rfl (PySem.evalArgs_none ⟨rfl, hdo.typeIs, F.args_dict_keys_1 _, _, PySem.W.kdl_meets_keys (mixKind X.prog X.w) a hs0, ⟨vs, hdo⟩, ?_⟩)
  refine Calls.spliced_nil ?_
  have hkeys : vs.map (·.1) = ks.map Sum.inl := kv.keys.symm.trans hks
  have hl : vs.length = ks.length := by
    have e := congrArg List.length hkeys
    rw [List.length_map, List.length_map] at e
    exact e
  have h16 : vs.length ≤ sizeLine := by rw [← Paired.length kv]; exact hz
  have hat2 := hat.push { cls := .type "dict_keys", data := .fields #[.ref a] }
  have hview : PySem.W.KdlKeysView (s1.heap.push { cls := .type "dict_keys", data := .fields #[.ref a] }) s1.heap.objs.size a := ⟨_, Heap.get?_push_size _ rfl, rfl, rfl⟩
  refine Calls.call_function_entry PyProof.Rows.kind_sorted PyProof.Rows.plain_sorted PyProof.Rows.entry_sorted (PyProof.Rows.args_sorted1 _) ?_
  unfold Builtin.«sorted»
  refine wpAny_bind (m := checkCount "sorted" 1 1 _) (wpAny_pure ?_)
  refine wpAny_bind (PySem.W.kdu_collect (A := X.A.in1) (PySem.W.kdl_keys (knd := mixKind X.prog X.w) (kvs := vs) (ep := ep)) (I1.ok.hd hc) ⟨hview, hat2⟩ h16 fun h' tk acc hk hacc => ?_)
  have hal : acc.toList.length = ks.length := by rw [Array.length_toList, hacc.1, hl]
  have hS : IntsAre acc.toList ks := ints_each hal fun j v e => by
    obtain ⟨k, x, e1, e2⟩ := hacc.2 j v (by rw [← Array.getElem?_toList]; exact e)
    have e3 : (vs.map (·.1))[j]? = some k := by rw [List.getElem?_map, e1]; rfl
    rw [hkeys, List.getElem?_map] at e3
    cases e4 : ks[j]? with
    | none => rw [e4] at e3; cases e3
    | some y =>
      rw [e4] at e3
      have e5 : Sum.inl y = k := Option.some.inj e3
      subst e5
      rcases keyIs_shape (show keyIs (Sum.inl y) v = true from e2) with ⟨i, t, ek, ev⟩ | ⟨z, t, ek, ev⟩
      · cases ek
        exact ⟨y, t, rfl, ev⟩
      · cases ek
  have I3 : Inv X pins σ H1 { s1 with heap := h', toks := tk } := I2.kept hk
  refine wpAny_bind (wpAny_newList ?_ (by rw [hal, ← hl]; exact h16))
  have hoL : (h'.push (seqObj "list" acc.toList.toArray 0)).get? h'.objs.size = some (seqObj "list" acc.toList.toArray 0) := Heap.get?_push_size _ rfl
  show wpAny _ _ _ _ _ { s1 with heap := h'.push (seqObj "list" acc.toList.toArray 0), toks := tk }
  refine wpAny_bind (wpAny_holding (wpAny_call_entry PyProof.Rows.slot_list_sort ⟨_, hoL, rfl⟩ PyProof.Rows.entry_list_sort
    (SrtO.list_sort_ord (s := { s1 with heap := h'.push (seqObj "list" acc.toList.toArray 0), toks := tk }) SrtO.swo_int hoL (by rw [hal, ← hl]; exact h16) (fun h2 => SrtO.ints_sortable hS h2) fun out h1 h2 => ⟨_, rfl, ?_⟩) (PyProof.Rows.args_list_sort _)))
  obtain ⟨k1, k2, k3⟩ := SrtO.ints_out hS h1 h2
  obtain ⟨e', he'⟩ := PyProof.Rows.sortedHeap_at (vs := acc.toList) (out := out.toArray) hoL
  have hlen : ((out.map SrtO.iv).map V.int).length ≤ sizeLine := by
    rw [List.length_map, k2.length_eq, ← hl]
    exact h16
  refine wpAny_pure ⟨_, rfl, .ref h'.objs.size, upd H1 h'.objs.size (.lst ((out.map SrtO.iv).map V.int)), I3.laid (t' := tk) (fun b u e => ?_) (Nat.le_refl _)
    (show ObjOk X.prog X.w _ _ _ (.lst ((out.map SrtO.iv).map V.int)) from ⟨hlen, out, e', vals_of_ints k1, he'⟩), rfl, q _ _ k2 k3 (I3.hok.fresh (Nat.le_refl _))⟩
  have hb : b < h'.objs.size := Heap.lt_size e
  rw [PyProof.Rows.sortedHeap_old (Nat.ne_of_lt hb) (by rw [size_push']; exact Nat.lt_succ_of_lt hb)]
  exact Heap.get?_push_of_some _ e
theorem pe_listVals (hc : X.calm = true) (he : PE X e te) (hg : Gl X "list") (hm : X.mg "list" = none) (hv : bootBuiltins "list" = some (.type "list")) (hbase : attributeBase e "values" X.env (eval e X.env) = eval e X.env := by rfl) (hline : (apos.endLine == cpos.line) = true := by rfl)
    (hs : starEach [.Call (.Attribute e "values" apos) [] [] cpos] X.env = (false, eval (.Call (.Attribute e "values" apos) [] [] cpos) X.env) :: starEach [] X.env := by rfl) :
    PE X (.Call (.Name "list" p) [.Call (.Attribute e "values" apos) [] [] cpos] [] pos) (tListVals te) := by
  refine ⟨fun pins s σ H Q I hq => ?_⟩
  refine wpAny_Call_Name_kw (ld_blt I hg hm hv ?_)
  refine PyProof.Rows.callWith_type1 ?_ hs rfl
  rw [hs]
  show wpAny _ _ (spliced ((false, eval (.Call (.Attribute e "values" apos) [] [] cpos) X.env) :: backTo pos (starEach [] X.env))) _ _ s
  refine Calls.spliced_cons ?_
  refine wpAny_Call_method (T := "dict") (id := "dict.values") hbase rfl hline F.plainAttrs_dict F.slot_dict_values F.type_dict_values (thn (he.run pins s σ H _ I hq) fun u s1 ⟨x, H1, I1, rx, a, kvs, ex, hd, q⟩ => ?_)
  subst ex
  obtain rfl : u = Value.ref a := rx
  obtain ⟨hz, hs0, vs, kv, hdo⟩ := I1.hok a _ hd
  obtain ⟨ep, hat⟩ := hdo.dictAt
  have I2 : Inv X pins σ H1 { s1 with heap := s1.heap.push { cls := .type "dict_values", data := .fields #[.ref a] } } := I1.kept (t' := s1.toks) fun b ob q => Heap.get?_push_of_some _ q
  refine ⟨hdo.typeIs, hdo.mapOf.noDict, ?_⟩
  show wpAny _ _ (callWith cpos (.builtin "dict.values") [.ref a] [] []) _ X.xe s1
  refine method_meetsIn F.slot_dict_values F.entry_dict_values rfl (PySem.evalArgs_none ⟨rfl, hdo.typeIs, F.args_dict_values_1 _, _, meets_dict_values (mixKind X.prog X.w) a hs0, ⟨vs, hdo⟩, ?_⟩)
  refine Calls.spliced_nil ?_
  have hl : kvs.length = vs.length := Paired.length kv
  have hat2 := hat.push { cls := .type "dict_values", data := .fields #[.ref a] }
  refine PySem.W.kdl_call (PySem.W.kdl_values (knd := mixKind X.prog X.w) (kvs := vs) (ep := ep)) (I1.ok.hd hc) ⟨⟨_, Heap.get?_push_size _ rfl, rfl, rfl⟩, hat2⟩ (by rw [← hl]; exact hz) fun h' tk acc c' hk hD hacc => ?_
  have ev : acc.toList = vs.map (·.2) := PySem.W.kdl_vals_eq acc.toList (by rw [Array.length_toList]; exact hacc.1) fun j v e => hacc.2 j v (by rw [← Array.getElem?_toList]; exact e)
  refine ⟨.ref _, upd H1 (s1.heap.push { cls := .type "dict_values", data := .fields #[.ref a] }).objs.size (.lst (kvs.map (·.2))), I2.laid (t' := tk) hk (Nat.le_refl _)
    (show ObjOk X.prog X.w _ _ _ (.lst (kvs.map (·.2))) from ⟨by rw [List.length_map]; exact hz, acc.toList, c', by rw [ev]; exact kv_vals kv, by rw [Array.toArray_toList]; exact hD⟩), rfl, q _ (I2.hok.fresh (Nat.le_refl _))⟩
end
/-! ### dicts -/
section
variable {α : Type}
def valA (kvs : List (Key × α)) (k : Key) : Option α := (kvs.find? fun kv => decide (kv.1 = k)).map (·.2)
def putA (kvs : List (Key × α)) (k : Key) (v : α) : List (Key × α) :=
  if (kvs.any fun kv => decide (kv.1 = k)) = true then kvs.map (fun kv => if kv.1 = k then (kv.1, v) else kv) else kvs ++ [(k, v)]
def dropA (kvs : List (Key × α)) (k : Key) : List (Key × α) := kvs.filter fun kv => decide (kv.1 ≠ k)
theorem valA_nil {k : Key} : valA ([] : List (Key × α)) k = none := rfl
theorem valA_pos {p : Key × α} {r : List (Key × α)} {k : Key} (e : p.1 = k) : valA (p :: r) k = some p.2 := by simp [valA, List.find?_cons, e]
theorem valA_neg {p : Key × α} {r : List (Key × α)} {k : Key} (e : ¬ p.1 = k) : valA (p :: r) k = valA r k := by simp [valA, List.find?_cons, e]
theorem valA_any (k : Key) : ∀ kvs : List (Key × α), (kvs.any fun kv => decide (kv.1 = k)) = (valA kvs k).isSome
  | [] => rfl
  | p :: r => by
    rw [List.any_cons]
    by_cases e : p.1 = k
    · rw [valA_pos e, decide_eq_true e]; rfl
    · rw [valA_neg e, decide_eq_false e, Bool.false_or, valA_any k r]
theorem valA_mem {k : Key} {v : α} : ∀ {kvs : List (Key × α)}, valA kvs k = some v → (k, v) ∈ kvs
  | [], h => by cases h
  | p :: r, h => by
    by_cases e : p.1 = k
    · rw [valA_pos e] at h
      cases h
      rw [← e]
      exact List.mem_cons_self
    · rw [valA_neg e] at h
      exact List.mem_cons_of_mem _ (valA_mem h)
theorem valA_none {k : Key} : ∀ {kvs : List (Key × α)}, valA kvs k = none ↔ k ∉ kvs.map (·.1)
  | [] => by simp [valA_nil]
  | p :: r => by
    by_cases e : p.1 = k
    · rw [valA_pos e]; simp [e]
    · rw [valA_neg e, valA_none (kvs := r), List.map_cons, List.mem_cons]
      constructor
      · intro h z
        rcases z with z | z
        · exact e z.symm
        · exact h z
      · intro h z
        exact h (.inr z)
theorem valA_map_if {k k' : Key} {v : α} : ∀ kvs : List (Key × α), valA (kvs.map fun kv => if kv.1 = k then (kv.1, v) else kv) k' = if k' = k ∧ (valA kvs k').isSome = true then some v else valA kvs k'
  | [] => by simp [valA_nil]
  | p :: r => by
    rw [List.map_cons]
    by_cases e : p.1 = k
    · rw [if_pos e]
      by_cases e2 : p.1 = k'
      · rw [valA_pos (p := (p.1, v)) e2, valA_pos e2, if_pos ⟨e2.symm.trans e, rfl⟩]
      · rw [valA_neg (p := (p.1, v)) e2, valA_neg e2, valA_map_if r]
    · rw [if_neg e]
      by_cases e2 : p.1 = k'
      · rw [if_neg (fun z => e (e2.trans z.1)), valA_pos e2, valA_pos e2]
      · rw [valA_neg e2, valA_neg e2, valA_map_if r]
theorem valA_append {k : Key} {p : Key × α} : ∀ kvs : List (Key × α), valA (kvs ++ [p]) k = match valA kvs k with | some v => some v | none => if p.1 = k then some p.2 else none
  | [] => by
    rw [List.nil_append, valA_nil]
    by_cases e : p.1 = k
    · rw [valA_pos e, if_pos e]
    · rw [valA_neg e, if_neg e]; rfl
  | q :: r => by
    rw [List.cons_append]
    by_cases e : q.1 = k
    · rw [valA_pos e, valA_pos e]
    · rw [valA_neg e, valA_neg e, valA_append r]
theorem valA_put {kvs : List (Key × α)} {k k' : Key} {v : α} : valA (putA kvs k v) k' = if k' = k then some v else valA kvs k' := by
  unfold putA
  rw [valA_any]
  cases h : valA kvs k with
  | some x =>
    rw [if_pos (show (some x).isSome = true from rfl), valA_map_if]
    by_cases e : k' = k
    · rw [if_pos ⟨e, by rw [e, h]; rfl⟩, if_pos e]
    · rw [if_neg (fun z => e z.1), if_neg e]
  | none =>
    rw [if_neg (by simp), valA_append]
    by_cases e : k' = k
    · subst e
      rw [h, if_pos (show k' = k' from rfl)]
    · rw [if_neg e]
      cases valA kvs k' with
      | some v => rfl
      | none =>
        show (if k = k' then some v else none) = none
        rw [if_neg (fun z => e z.symm)]
theorem putA_keys {kvs : List (Key × α)} {k : Key} {v : α} : (putA kvs k v).map (·.1) = if (valA kvs k).isSome = true then kvs.map (·.1) else kvs.map (·.1) ++ [k] := by
  unfold putA
  rw [valA_any]
  by_cases h : (valA kvs k).isSome = true
  · rw [if_pos h, if_pos h, List.map_map]
    refine List.map_congr_left fun p _ => ?_
    show (if p.1 = k then (p.1, v) else p).1 = p.1
    split <;> rfl
  · rw [if_neg h, if_neg h, List.map_append]; rfl
theorem putA_new {kvs : List (Key × α)} {k : Key} {v : α} (h : valA kvs k = none) : putA kvs k v = kvs ++ [(k, v)] := by
  unfold putA
  rw [valA_any, h, if_neg (by simp)]
theorem putA_len {kvs : List (Key × α)} {k : Key} {v : α} : (putA kvs k v).length ≤ kvs.length + 1 := by
  unfold putA
  split
  · rw [List.length_map]; omega
  · rw [List.length_append]; exact Nat.le_refl _
theorem valA_drop {k k' : Key} : ∀ {kvs : List (Key × α)}, valA (dropA kvs k) k' = if k' = k then none else valA kvs k'
  | [] => by
    show valA [] k' = _
    rw [valA_nil]; split <;> rfl
  | p :: r => by
    unfold dropA
    rw [List.filter_cons]
    by_cases e : p.1 = k
    · rw [if_neg (by simp [e])]
      rw [show valA (r.filter fun kv => decide (kv.1 ≠ k)) k' = valA (dropA r k) k' from rfl, valA_drop (kvs := r)]
      by_cases e2 : k' = k
      · rw [if_pos e2, if_pos e2]
      · rw [if_neg e2, if_neg e2, valA_neg (fun z => e2 (z.symm.trans e))]
    · rw [if_pos (by simp [e])]
      by_cases e2 : p.1 = k'
      · rw [valA_pos e2, valA_pos e2, if_neg (fun z => e (e2.trans z))]
      · rw [valA_neg e2, valA_neg e2]
        exact valA_drop (kvs := r)
end
theorem valV_A {ws : List (Key × V)} {k : Key} : valV ws k = valA ws k := rfl
section
variable {K : PySem.W.Frag} {G : Hp}
theorem val_dt {k : Key} : ∀ {ws : List (Key × V)} {kvs : List (Key × D)}, ws.map (·.1) = kvs.map (·.1) → DtL K G (ws.map (·.2)) (kvs.map (·.2)) → (valA kvs k = none ∧ valV ws k = none) ∨ ∃ v d, valA kvs k = some d ∧ valV ws k = some v ∧ Dt K G v d
  | [], [], _, _ => .inl ⟨rfl, rfl⟩
  | [], _ :: _, e, _ => by cases e
  | _ :: _, [], e, _ => by cases e
  | p :: ws, q :: kvs, e, t => by
    rw [List.map_cons, List.map_cons] at e t
    cases t with
    | cons t1 t2 =>
      have e1 := (List.cons.inj e).1
      by_cases h : p.1 = k
      · exact .inr ⟨p.2, q.2, valA_pos (e1.symm.trans h), valV_pos h, t1⟩
      · rw [valA_neg (fun z => h (e1.trans z)), valV_neg h]
        exact val_dt (List.cons.inj e).2 t2
theorem any_dt {k : Key} {α β : Type} : ∀ {ws : List (Key × α)} {kvs : List (Key × β)}, ws.map (·.1) = kvs.map (·.1) → (ws.any fun kv => decide (kv.1 = k)) = kvs.any fun kv => decide (kv.1 = k)
  | [], [], _ => rfl
  | [], _ :: _, e => by cases e
  | _ :: _, [], e => by cases e
  | p :: ws, q :: kvs, e => by
    rw [List.map_cons, List.map_cons] at e
    rw [List.any_cons, List.any_cons, (List.cons.inj e).1, any_dt (List.cons.inj e).2]
theorem mapif_dt {k : Key} {v : V} {d : D} (r : Dt K G v d) : ∀ {ws : List (Key × V)} {kvs : List (Key × D)}, ws.map (·.1) = kvs.map (·.1) → DtL K G (ws.map (·.2)) (kvs.map (·.2)) →
    DtL K G ((ws.map fun kv => if kv.1 = k then (kv.1, v) else kv).map (·.2)) ((kvs.map fun kv => if kv.1 = k then (kv.1, d) else kv).map (·.2))
  | [], [], _, _ => .nil
  | [], _ :: _, e, _ => by cases e
  | _ :: _, [], e, _ => by cases e
  | p :: ws, q :: kvs, e, t => by
    rw [List.map_cons, List.map_cons] at e t
    cases t with
    | cons t1 t2 =>
      have e1 := (List.cons.inj e).1
      rw [List.map_cons, List.map_cons, List.map_cons, List.map_cons]
      refine .cons ?_ (mapif_dt r (List.cons.inj e).2 t2)
      by_cases h : p.1 = k
      · rw [if_pos h, if_pos (e1.symm.trans h)]; exact r
      · rw [if_neg h, if_neg (fun z => h (e1.trans z))]; exact t1
theorem putK_dt {k : Key} {v : V} {d : D} (r : Dt K G v d) {ws : List (Key × V)} {kvs : List (Key × D)} (e : ws.map (·.1) = kvs.map (·.1)) (t : DtL K G (ws.map (·.2)) (kvs.map (·.2))) :
    (putK ws k v).map (·.1) = (putA kvs k d).map (·.1) ∧ DtL K G ((putK ws k v).map (·.2)) ((putA kvs k d).map (·.2)) := by
  constructor
  · have h1 := putA_keys (kvs := ws) (k := k) (v := v)
    have h2 := putA_keys (kvs := kvs) (k := k) (v := d)
    rw [← valA_any] at h1 h2
    rw [show putK ws k v = putA ws k v from rfl, h1, h2, any_dt e, e]
  · unfold putK putA
    rw [any_dt e]
    split
    · exact mapif_dt r e t
    · rw [List.map_append, List.map_append]
      exact t.append (.cons r .nil)
theorem dropK_dt {k : Key} : ∀ {ws : List (Key × V)} {kvs : List (Key × D)}, ws.map (·.1) = kvs.map (·.1) → DtL K G (ws.map (·.2)) (kvs.map (·.2)) →
    (dropK ws k).map (·.1) = (dropA kvs k).map (·.1) ∧ DtL K G ((dropK ws k).map (·.2)) ((dropA kvs k).map (·.2))
  | [], [], _, _ => ⟨rfl, .nil⟩
  | [], _ :: _, e, _ => by cases e
  | _ :: _, [], e, _ => by cases e
  | p :: ws, q :: kvs, e, t => by
    rw [List.map_cons, List.map_cons] at e t
    cases t with
    | cons t1 t2 =>
      have e1 := (List.cons.inj e).1
      obtain ⟨i1, i2⟩ := dropK_dt (k := k) (List.cons.inj e).2 t2
      unfold dropK dropA at i1 i2 ⊢
      rw [List.filter_cons, List.filter_cons]
      by_cases h : p.1 = k
      · rw [if_neg (by simp [h]), if_neg (by simp [e1.symm.trans h])]
        exact ⟨i1, i2⟩
      · rw [if_pos (decide_eq_true h), if_pos (show decide (q.1 ≠ k) = true from decide_eq_true (fun z => h (e1.trans z)))]
        exact ⟨by rw [List.map_cons, List.map_cons, i1, e1], .cons t1 i2⟩
theorem Hs.dct {M : Mp} {H : Hp} {a : Addr} {kvs : List (Key × D)} (s : Hs K G M H) (h : M a = some (.dct kvs)) : ∃ ws, H a = some (.dK ws) ∧ ws.map (·.1) = kvs.map (·.1) ∧ DtL K G (ws.map (·.2)) (kvs.map (·.2)) := (s.ok a _ h).2
end
theorem len_keys {α β : Type} {ws : List (Key × α)} {kvs : List (Key × β)} (e : ws.map (·.1) = kvs.map (·.1)) : ws.length = kvs.length := by
  have h := congrArg List.length e
  rw [List.length_map, List.length_map] at h
  exact h
/-- a key as data -/
def kD : Key → D
  | .inl i => .int i
  | .inr x => .str x
theorem kD_dt {K : PySem.W.Frag} {G : Hp} {v : V} : ∀ {k : Key}, Dt K G v (kD k) → v = kV k
  | .inl i, h => by cases h; rfl
  | .inr x, h => by cases h; rfl
section
variable {J : Jx} {te ta tb td ty tx tv : TE} {t : TA} {ρ : Ro} {M : Mp} {d x y z : D} {P : Po} {R : D → Mp → Prop} {a : Addr} {kvs : List (Key × D)} {k : Key} {b : Bool}
theorem w_dnew (h : ∀ p, M p = none → R (.ref p) (ud M p (.dct []))) : W J tDNewK ρ M R := fun G σ H r s xo Q q p hp => q _ _ G _ _ (h p (s.none_m hp)) (Same.refl G) (s.new (m := .dct []) hp ⟨[], upd_same, rfl, .nil⟩) (.ref p)
theorem ev_dget (hd : Ev J td ρ M (.ref a)) (hk : Ev J ty ρ M (kD k)) (hm : M a = some (.dct kvs)) (h : valA kvs k = some z) : Ev J (tDGet td ty) ρ M z := fun G σ H r s xo Q q =>
  hd G σ H r s xo _ fun v d1 G1 M1 H1 e e1 s1 t1 => by
    obtain ⟨rfl, rfl⟩ := e
    refine hk G1 σ H1 (r.mono e1) s1 (xo.mono e1) _ fun v2 d2 G2 M2 H2 e e2 s2 t2 => ?_
    obtain ⟨rfl, rfl⟩ := e
    cases t1
    obtain ⟨ws, g1, g2, g3⟩ := s2.dct hm
    rcases val_dt (k := k) g2 g3 with ⟨n1, _⟩ | ⟨w, d, h1, h2, h3⟩
    · rw [n1] at h; cases h
    · rw [h] at h1
      cases h1
      refine ⟨a, w, rfl, ?_, q _ _ G2 _ H2 ⟨rfl, rfl⟩ (e1.trans e2) s2 h3⟩
      rw [kD_dt t2, ← h2]
      exact DGet.k g1
theorem ev_dget2 (hd : Ev J td ρ M (.ref a)) (hk : Ev J ty ρ M (kD k)) (hx : Ev J tx ρ M x) (hm : M a = some (.dct kvs)) : Ev J (tDGet2 td ty tx) ρ M ((valA kvs k).getD x) := fun G σ H r s xo Q q =>
  hd G σ H r s xo _ fun v d1 G1 M1 H1 e e1 s1 t1 => by
    obtain ⟨rfl, rfl⟩ := e
    cases t1
    obtain ⟨ws1, f1, _, _⟩ := s1.dct hm
    refine ⟨a, rfl, .inl ⟨ws1, .inl f1⟩, ?_⟩
    refine hk G1 σ H1 (r.mono e1) s1 (xo.mono e1) _ fun v2 d2 G2 M2 H2 e e2 s2 t2 => ?_
    obtain ⟨rfl, rfl⟩ := e
    refine hx G2 σ H2 (r.mono (e1.trans e2)) s2 (xo.mono (e1.trans e2)) _ fun v3 d3 G3 M3 H3 e e3 s3 t3 => ?_
    obtain ⟨rfl, rfl⟩ := e
    obtain ⟨ws, g1, g2, g3⟩ := s3.dct hm
    refine ⟨valV ws k, by rw [kD_dt t2]; exact DGet.k g1, ?_⟩
    rcases val_dt (k := k) g2 g3 with ⟨n1, n2⟩ | ⟨w, d, h1, h2, h3⟩
    · rw [n2]
      exact q _ _ G3 _ H3 ⟨by rw [n1]; rfl, rfl⟩ ((e1.trans e2).trans e3) s3 t3
    · rw [h2]
      exact q _ d G3 _ H3 ⟨by rw [h1]; rfl, rfl⟩ ((e1.trans e2).trans e3) s3 h3
theorem ev_din (hk : Ev J ty ρ M (kD k)) (hd : Ev J td ρ M (.ref a)) (hm : M a = some (.dct kvs)) : Ev J (tDIn ty td) ρ M (.bl (valA kvs k).isSome) := fun G σ H r s xo Q q =>
  hk G σ H r s xo _ fun v d1 G1 M1 H1 e e1 s1 t1 => by
    obtain ⟨rfl, rfl⟩ := e
    refine hd G1 σ H1 (r.mono e1) s1 (xo.mono e1) _ fun v2 d2 G2 M2 H2 e e2 s2 t2 => ?_
    obtain ⟨rfl, rfl⟩ := e
    cases t2
    obtain ⟨ws, g1, g2, g3⟩ := s2.dct hm
    refine ⟨a, valV ws k, rfl, by rw [kD_dt t1]; exact DGet.k g1, ?_⟩
    have e : (valV ws k).isSome = (valA kvs k).isSome := by rcases val_dt (k := k) g2 g3 with ⟨n1, n2⟩ | ⟨w, d, h1, h2, h3⟩ <;> simp [*]
    rw [e]
    exact q _ _ G2 _ H2 ⟨rfl, rfl⟩ (e1.trans e2) s2 (.bl _)
theorem ev_dnotin (hk : Ev J ty ρ M (kD k)) (hd : Ev J td ρ M (.ref a)) (hm : M a = some (.dct kvs)) : Ev J (tDNotIn ty td) ρ M (.bl (!(valA kvs k).isSome)) := fun G σ H r s xo Q q =>
  hk G σ H r s xo _ fun v d1 G1 M1 H1 e e1 s1 t1 => by
    obtain ⟨rfl, rfl⟩ := e
    refine hd G1 σ H1 (r.mono e1) s1 (xo.mono e1) _ fun v2 d2 G2 M2 H2 e e2 s2 t2 => ?_
    obtain ⟨rfl, rfl⟩ := e
    cases t2
    obtain ⟨ws, g1, g2, g3⟩ := s2.dct hm
    refine ⟨a, valV ws k, rfl, by rw [kD_dt t1]; exact DGet.k g1, ?_⟩
    have e : (valV ws k).isSome = (valA kvs k).isSome := by rcases val_dt (k := k) g2 g3 with ⟨n1, n2⟩ | ⟨w, d, h1, h2, h3⟩ <;> simp [*]
    rw [e]
    exact q _ _ G2 _ H2 ⟨rfl, rfl⟩ (e1.trans e2) s2 (.bl _)
theorem s_dput (hv : Ev J tv ρ M x) (hd : Ev J td ρ M (.ref a)) (hk : Ev J ty ρ M (kD k)) (hm : M a = some (.dct kvs)) (hl : kvs.length < sizeLine) (kk : P.nx ρ (ud M a (.dct (putA kvs k x)))) : S J (sDPut td ty tv) ρ M P := fun G σ H D' r s xo q =>
  hv G σ H r s xo _ fun v d1 G1 M1 H1 e e1 s1 t1 => by
    obtain ⟨rfl, rfl⟩ := e
    refine hd G1 σ H1 (r.mono e1) s1 (xo.mono e1) _ fun v2 d2 G2 M2 H2 e e2 s2 t2 => ?_
    obtain ⟨rfl, rfl⟩ := e
    refine hk G2 σ H2 (r.mono (e1.trans e2)) s2 (xo.mono (e1.trans e2)) _ fun v3 d3 G3 M3 H3 e e3 s3 t3 => ?_
    obtain ⟨rfl, rfl⟩ := e
    cases t2
    obtain ⟨g, ws, g1, g2, g3⟩ := s3.ok a _ hm
    obtain ⟨p1, p2⟩ := putK_dt (k := k) (t1.mono (e2.trans e3)) g2 g3
    refine ⟨a, upd H3 a (.dK (putK ws k v)), rfl, by rw [kD_dt t3]; exact DPut.k g1 (by rw [len_keys g2]; exact hl), ?_⟩
    exact q.nx G3 σ ρ _ _ kk ((e1.trans e2).trans e3) (r.mono ((e1.trans e2).trans e3)) (s3.put g ⟨_, upd_same, p1, p2⟩)
theorem w_dpop1 (hd : Ev J td ρ M (.ref a)) (hk : Ev J ty ρ M (kD k)) (hm : M a = some (.dct kvs)) (h : valA kvs k = some z) (kk : R z (ud M a (.dct (dropA kvs k)))) : W J (tDPop1 td ty) ρ M R := fun G σ H r s xo Q q =>
  hd G σ H r s xo _ fun v d1 G1 M1 H1 e e1 s1 t1 => by
    obtain ⟨rfl, rfl⟩ := e
    cases t1
    obtain ⟨ws1, f1, _, _⟩ := s1.dct hm
    refine ⟨a, rfl, .inl ⟨ws1, .inl f1⟩, ?_⟩
    refine hk G1 σ H1 (r.mono e1) s1 (xo.mono e1) _ fun v2 d2 G2 M2 H2 e e2 s2 t2 => ?_
    obtain ⟨rfl, rfl⟩ := e
    obtain ⟨g, ws, g1, g2, g3⟩ := s2.ok a _ hm
    rcases val_dt (k := k) g2 g3 with ⟨n1, _⟩ | ⟨w, d, h1, h2, h3⟩
    · rw [n1] at h; cases h
    · rw [h] at h1
      cases h1
      obtain ⟨p1, p2⟩ := dropK_dt (k := k) g2 g3
      exact ⟨ws, k, w, g1, kD_dt t2, h2, q _ _ G2 _ _ kk (e1.trans e2) (s2.put g ⟨_, upd_same, p1, p2⟩) h3⟩
theorem ev_lenD (hd : Ev J td ρ M (.ref a)) (hm : M a = some (.dct kvs)) : Ev J (tCB (fun xs H Q => ∃ a kvs, xs = [V.ref a] ∧ H a = some (.dK kvs) ∧ Q (.int kvs.length) H) (tCons td tNil)) ρ M (.int kvs.length) :=
  w_cb1 (ea_cons hd ea_nil) (opA_val fun G H vs s tx => by
    cases tx with
    | cons t1 t2 =>
      cases t2
      cases t1
      obtain ⟨ws, g1, g2, g3⟩ := s.dct hm
      exact ⟨_, .int _, fun Q q => ⟨a, ws, rfl, g1, by rw [len_keys g2]; exact q⟩⟩)
/-- sorted(d.keys()) -/
theorem w_sortedKeys {ks : List Int} (hd : Ev J td ρ M (.ref a)) (hm : M a = some (.dct kvs)) (hk : kvs.map (·.1) = ks.map Sum.inl) (h : ∀ (ys : List Int) p, ys.Perm ks → ys.Pairwise (· ≤ ·) → M p = none → R (.ref p) (ud M p (.lst (ys.map .int)))) : W J (tSortedKeys td) ρ M R := fun G σ H r s xo Q q =>
  hd G σ H r s xo _ fun v d1 G1 M1 H1 e e1 s1 t1 => by
    obtain ⟨rfl, rfl⟩ := e
    cases t1
    obtain ⟨ws, g1, g2, g3⟩ := s1.dct hm
    exact ⟨a, ws, ks, rfl, g1, g2.trans hk, fun ys p hp hs hn => q _ _ G1 _ _ (h ys p hp hs (s1.none_m hn)) e1 (s1.new (m := .lst (ys.map .int)) hn ⟨_, upd_same, DtL.of_ints ys⟩) (.ref p)⟩
theorem en_sortedKeys {ks ys : List Int} (hd : Ev J td ρ M (.ref a)) (hm : M a = some (.dct kvs)) (hk : kvs.map (·.1) = ks.map Sum.inl) (hy : ys.Perm ks) (hs : ys.Pairwise (· ≤ ·)) : EvN J (tSortedKeys td) ρ M (ys.map .int) :=
  w_sortedKeys hd hm hk fun zs p hp hz hn => by
    have e : zs = ys := List.Perm.eq_of_pairwise (le := (· ≤ ·)) (fun a b _ _ h1 h2 => Int.le_antisymm h1 h2) hz hs (hp.trans hy.symm)
    rw [e]
    exact ⟨p, hn, rfl, rfl⟩
theorem en_listVals (hd : Ev J td ρ M (.ref a)) (hm : M a = some (.dct kvs)) : EvN J (tListVals td) ρ M (kvs.map (·.2)) := fun G σ H r s xo Q q =>
  hd G σ H r s xo _ fun v d1 G1 M1 H1 e e1 s1 t1 => by
    obtain ⟨rfl, rfl⟩ := e
    cases t1
    obtain ⟨ws, g1, g2, g3⟩ := s1.dct hm
    exact ⟨a, ws, rfl, g1, fun p hp => q _ _ G1 _ _ ⟨p, s1.none_m hp, rfl, rfl⟩ e1 (s1.new (m := .lst (kvs.map (·.2))) hp ⟨_, upd_same, g3⟩) (.ref p)⟩
end
theorem Hs.less {K : PySem.W.Frag} {G H : Hp} {M M2 : Mp} (s : Hs K G M H) (l : Sub M2 M) : Hs K G M2 H := ⟨s.sub, fun a o e => s.ok a o (l a o e)⟩
section
variable {J : Jx} {te : TE} {ts : TS} {ρ : Ro} {M : Mp} {R R' : D → Mp → Prop} {P : Po}
/-- what nobody asks for any more may leave the ledger -/
theorem W.weak (h : W J te ρ M R') (k : ∀ d M', R' d M' → ∃ M2, Sub M2 M' ∧ R d M2) : W J te ρ M R := fun G σ H r s xo Q q => h G σ H r s xo Q fun v d G' M' H' r1 e1 s1 t1 => by
  obtain ⟨M2, l, r2⟩ := k d M' r1
  exact q v d G' M2 H' r2 e1 (s1.less l) t1
theorem s_less {M2 : Mp} (l : Sub M2 M) (h : S J ts ρ M2 P) : S J ts ρ M P := fun G σ H D' r s xo q => h G σ H D' r (s.less l) xo q
theorem S.rtweak {rt' : D → Mp → Prop} (h : S J ts ρ M ⟨P.nx, rt', P.bk, P.ct⟩) (k : ∀ d M', rt' d M' → ∃ M2, Sub M2 M' ∧ P.rt d M2) : S J ts ρ M P := fun G σ H D' r s xo q => h G σ H D' r s xo ⟨q.nx, fun G' v d M' H' h1 e1 s1 t1 => by
  obtain ⟨M2, l, r2⟩ := k d M' h1
  exact q.rt G' v d M2 H' r2 e1 (s1.less l) t1, q.bk, q.ct⟩
end
theorem sub_ud {M M' : Mp} {p : Addr} {o : MO} (s : Sub M M') : Sub (ud M p o) (ud M' p o) := fun a u e => by
  unfold ud at e ⊢
  by_cases z : a = p
  · rw [if_pos z] at e ⊢; exact e
  · rw [if_neg z] at e ⊢; exact s a u e
section
variable {J : Jx} {ta : TE} {ρ : Ro} {M : Mp} {x : D} {R : D → Mp → Prop}
theorem w_max {ns : List Int} (ha : Ev J ta ρ M x) (hx : IsL M x (ns.map .int)) (h0 : 0 < ns.length) (h : ∀ m, m ∈ ns → (∀ y, y ∈ ns → y ≤ m) → R (.int m) M) : W J (tCB (rMax J.K) (tCons ta tNil)) ρ M R :=
  w_cb1 (ea_cons ha ea_nil) fun G H vs s tx Q q => by
    cases tx with
    | cons t1 t2 =>
      cases t2
      obtain ⟨a, xs, rfl, h1, h2⟩ := hx.at s t1
      have e := h2.ints
      subst e
      exact ⟨a, ns, rfl, h1, h0, fun m hm hle => q _ _ G M H (h m hm hle) (Same.refl G) s (.int m)⟩
theorem w_min {ns : List Int} (ha : Ev J ta ρ M x) (hx : IsL M x (ns.map .int)) (h0 : 0 < ns.length) (h : ∀ m, m ∈ ns → (∀ y, y ∈ ns → m ≤ y) → R (.int m) M) : W J (tCB (rMin J.K) (tCons ta tNil)) ρ M R :=
  w_cb1 (ea_cons ha ea_nil) fun G H vs s tx Q q => by
    cases tx with
    | cons t1 t2 =>
      cases t2
      obtain ⟨a, xs, rfl, h1, h2⟩ := hx.at s t1
      have e := h2.ints
      subst e
      exact ⟨a, ns, rfl, h1, h0, fun m hm hle => q _ _ G M H (h m hm hle) (Same.refl G) s (.int m)⟩
end
end DL

namespace DL
open PySem L2
section
variable {J : Jx} {te ta tb tn : TE} {ρ : Ro} {M : Mp} {R : D → Mp → Prop}
/-- list(range(n)) -/
theorem rg_dt {K : PySem.W.Frag} {G : Hp} (n : Int) : DtL K G (rgV 0 n) (((List.range n.toNat).map fun (k : Nat) => (k : Int)).map D.int) := by
  have e : rgV 0 n = ((List.range n.toNat).map fun (k : Nat) => (k : Int)).map V.int := by
    unfold rgV
    rw [List.map_map, Int.sub_zero]
    refine List.map_congr_left fun k _ => ?_
    show V.int (0 + (k : Int)) = V.int (k : Int)
    rw [Int.zero_add]
  rw [e]
  exact DtL.of_ints _
theorem en_listRg {n : Int} (hn : Ev J tn ρ M (.int n)) (h1 : 0 ≤ n) (h2 : n ≤ 1000000) : EvN J (tLstRg (tRg1 tn)) ρ M (((List.range n.toNat).map fun (k : Nat) => (k : Int)).map D.int) := fun G σ H r s xo Q q =>
  hn G σ H r s xo _ fun v d1 G1 M1 H1 e e1 s1 t1 => by
    obtain ⟨rfl, rfl⟩ := e
    cases t1
    refine ⟨n, rfl, .of_le (Int.le_refl 0) (by omega) (by omega) h1, fun p hp => ?_⟩
    exact q _ _ G1 _ _ ⟨p, s1.none_m hp, rfl, rfl⟩ e1 (s1.new (m := .lst (((List.range n.toNat).map fun (k : Nat) => (k : Int)).map D.int)) hp ⟨_, upd_same, rg_dt n⟩) (.ref p)
/-- is None of what may change the ledger -/
theorem w_isN (h : W J ta ρ M fun d M' => R (.bl (isNon d)) M') : W J (tIsN ta) ρ M R := fun G σ H r s xo Q q =>
  h G σ H r s xo _ fun v d' G' M' H' e e1 s1 t1 => by
    show Q (.bl (decide (v = .non))) H'
    rw [isNon_dt t1]
    exact q _ _ G' M' H' e e1 s1 (.bl _)
end
/-! ### rows by their numbers -/
abbrev Th := List (Int × List Int)
abbrev rowD (r : List Int) : D := .lst (r.map .int)
def thD (th : Th) : List (Key × D) := th.map fun p => (.inl p.1, rowD p.2)
theorem thD_keys (th : Th) : (thD th).map (·.1) = (th.map (·.1)).map Sum.inl := by
  unfold thD; rw [List.map_map, List.map_map]; rfl
theorem thD_len (th : Th) : (thD th).length = th.length := List.length_map _
def thGet (th : Th) (n : Int) : Option (List Int) := (th.find? fun p => decide (p.1 = n)).map (·.2)
theorem thD_val (n : Int) : ∀ th : Th, valA (thD th) (.inl n) = (thGet th n).map rowD
  | [] => rfl
  | p :: th => by
    unfold thD thGet
    rw [List.map_cons, List.find?_cons]
    by_cases e : p.1 = n
    · rw [valA_pos (p := (Sum.inl p.1, rowD p.2)) (by rw [e]), decide_eq_true e]; rfl
    · rw [valA_neg (p := (Sum.inl p.1, rowD p.2)) (fun z => e (Sum.inl.inj z)), decide_eq_false e]
      exact thD_val n th
theorem thGet_mem {th : Th} {n : Int} {r : List Int} (h : thGet th n = some r) : (n, r) ∈ th := by
  unfold thGet at h
  cases e : th.find? fun p => decide (p.1 = n) with
  | none => rw [e] at h; cases h
  | some p =>
    rw [e] at h
    cases h
    have h0 : decide (p.1 = n) = true := List.find?_some (p := fun p : Int × List Int => decide (p.1 = n)) e
    have := of_decide_eq_true h0
    rw [← this]
    exact List.mem_of_find?_eq_some e
theorem thGet_of {n : Int} {r : List Int} : ∀ {th : Th}, (th.map (·.1)).Nodup → (n, r) ∈ th → thGet th n = some r
  | p :: th, hn, h => by
    unfold thGet
    rw [List.find?_cons]
    rw [List.map_cons, List.nodup_cons] at hn
    rcases List.mem_cons.mp h with rfl | h
    · rw [decide_eq_true rfl]; rfl
    · have : ¬ p.1 = n := fun e => hn.1 (by rw [e]; exact List.mem_map_of_mem (f := (·.1)) h)
      rw [decide_eq_false this]
      exact thGet_of hn.2 h
theorem thGet_none {th : Th} {n : Int} : thGet th n = none ↔ n ∉ th.map (·.1) := by
  unfold thGet
  rw [Option.map_eq_none_iff, List.find?_eq_none]
  constructor
  · intro h z
    obtain ⟨p, hp, e⟩ := List.mem_map.mp z
    exact h p hp (decide_eq_true e)
  · intro h p hp z
    exact h (List.mem_map.mpr ⟨p, hp, of_decide_eq_true z⟩)
def thDrop (th : Th) (n : Int) : Th := th.filter fun p => decide (p.1 ≠ n)
theorem thD_drop (th : Th) (n : Int) : dropA (thD th) (.inl n) = thD (thDrop th n) := by
  unfold dropA thD thDrop
  rw [List.filter_map]
  congr 1
  refine List.filter_congr fun p _ => ?_
  show decide ((Sum.inl p.1 : Key) ≠ .inl n) = decide (p.1 ≠ n)
  rw [Bool.eq_iff_iff, decide_eq_true_eq, decide_eq_true_eq]
  exact ⟨fun h z => h (by rw [z]), fun h z => h (Sum.inl.inj z)⟩
/-- a row put at a number, new or not -/
def thPut (th : Th) (n : Int) (r : List Int) : Th := if (thGet th n).isSome = true then th.map (fun p => if p.1 = n then (p.1, r) else p) else th ++ [(n, r)]
theorem thD_any (th : Th) (n : Int) : ((thD th).any fun kv => decide (kv.1 = .inl n)) = (thGet th n).isSome := by
  rw [valA_any, thD_val]; cases thGet th n <;> rfl
theorem thD_put (th : Th) (n : Int) (r : List Int) : putA (thD th) (.inl n) (rowD r) = thD (thPut th n r) := by
  unfold putA thPut
  rw [thD_any]
  by_cases e : (thGet th n).isSome = true
  · rw [if_pos e, if_pos e]
    unfold thD
    rw [List.map_map, List.map_map]
    refine List.map_congr_left fun p _ => ?_
    show (if (Sum.inl p.1 : Key) = .inl n then (Sum.inl p.1, rowD r) else (Sum.inl p.1, rowD p.2)) = (Sum.inl (if p.1 = n then (p.1, r) else p).1, rowD (if p.1 = n then (p.1, r) else p).2)
    by_cases e2 : p.1 = n
    · rw [if_pos (by rw [e2]), if_pos e2]
    · rw [if_neg (fun z => e2 (Sum.inl.inj z)), if_neg e2]
  · rw [if_neg e, if_neg e]
    unfold thD
    rw [List.map_append]
    rfl
theorem thDrop_mem {th : Th} {n : Int} {p : Int × List Int} : p ∈ thDrop th n ↔ p ∈ th ∧ p.1 ≠ n := by
  unfold thDrop; rw [List.mem_filter, decide_eq_true_eq]
theorem thDrop_nodup {th : Th} {n : Int} (h : (th.map (·.1)).Nodup) : ((thDrop th n).map (·.1)).Nodup := List.Nodup.sublist (List.Sublist.map _ List.filter_sublist) h
theorem thDrop_perm {n : Int} {r : List Int} : ∀ {th : Th}, (th.map (·.1)).Nodup → (n, r) ∈ th → th.Perm ((n, r) :: thDrop th n)
  | p :: th, hn, h => by
    rw [List.map_cons, List.nodup_cons] at hn
    rcases List.mem_cons.mp h with rfl | h
    · unfold thDrop
      rw [List.filter_cons_of_neg (by simp)]
      have e : th.filter (fun p => decide (p.1 ≠ n)) = th := List.filter_eq_self.mpr fun q hq => decide_eq_true fun z => hn.1 (by rw [← z]; exact List.mem_map_of_mem (f := (·.1)) hq)
      rw [e]
    · have : p.1 ≠ n := fun e => hn.1 (by rw [e]; exact List.mem_map_of_mem (f := (·.1)) h)
      unfold thDrop
      rw [List.filter_cons_of_pos (by simpa using this)]
      exact ((thDrop_perm hn.2 h).cons p).trans (List.Perm.swap _ _ _)
/-- the ints of a list, rising -/
def srtI (ks : List Int) : List Int := ks.mergeSort
theorem srtI_perm (ks : List Int) : (srtI ks).Perm ks := List.mergeSort_perm _ _
theorem srtI_le (ks : List Int) : (srtI ks).Pairwise (· ≤ ·) := by
  have h := List.pairwise_mergeSort (le := fun a b : Int => decide (a ≤ b)) (fun a b c h1 h2 => by simp at *; omega) (fun a b => by simp; omega) ks
  exact h.imp fun h => by simpa using h
theorem srtI_lt {ks : List Int} (h : ks.Nodup) : (srtI ks).Pairwise (· < ·) := by
  have h2 : (srtI ks).Nodup := (srtI_perm ks).nodup_iff.mpr h
  exact ((srtI_le ks).and h2).imp fun ⟨h1, h2⟩ => by omega
theorem srtI_mem {ks : List Int} {n : Int} : n ∈ srtI ks ↔ n ∈ ks := (srtI_perm ks).mem_iff
section
variable {J : Jx} {td : TE} {ρ : Ro} {M : Mp} {a : Addr}
theorem en_thKeys {th : Th} (hd : Ev J td ρ M (.ref a)) (hm : M a = some (.dct (thD th))) : EvN J (tSortedKeys td) ρ M ((srtI (th.map (·.1))).map .int) := en_sortedKeys hd hm (thD_keys th) (srtI_perm _) (srtI_le _)
end
end DL

namespace DL
open PySem L2
/-! ### bits, for the tactic -/
theorem Bt.add2 {n m : Nat} {i j : Int} (h : Bt n i) (k : Bt m j) : Bt (max n m + 1) (i + j) := Bt.add (h.mono (Nat.le_max_left _ _)) (k.mono (Nat.le_max_right _ _))
theorem Bt.sub2 {n m : Nat} {i j : Int} (h : Bt n i) (k : Bt m j) : Bt (max n m + 1) (i - j) := Bt.sub (h.mono (Nat.le_max_left _ _)) (k.mono (Nat.le_max_right _ _))
theorem bt_lit (i : Int) : Bt (Builtin.Int.intBits i) i := Nat.le_refl _
theorem cubeOk {n : Nat} {i : Int} (h : Bt n i) (l : n ≤ 40000000) : CPowW i 3 := by
  refine ⟨by decide, ?_⟩
  have h1 : Builtin.Int.intBits i ≤ n := h
  omega
section
variable {J : Jx} {te ta tb tn : TE} {t : TA} {ρ : Ro} {M : Mp} {x y : D} {R : D → Mp → Prop}
/-! ### in -/
theorem inV_int (i : Int) : ∀ ns : List Int, inV (.int i) (ns.map V.int) = decide (i ∈ ns)
  | [] => rfl
  | n :: ns => by
    have ih := inV_int i ns
    unfold inV at ih ⊢
    rw [List.map_cons, List.any_cons, ih]
    show (n == i || decide (i ∈ ns)) = _
    rw [Bool.eq_iff_iff, Bool.or_eq_true, beq_iff_eq, decide_eq_true_eq, decide_eq_true_eq, List.mem_cons]
    exact ⟨fun h => h.elim (fun e => .inl e.symm) .inr, fun h => h.elim (fun e => .inl e.symm) .inr⟩
theorem flat_ints : ∀ ns : List Int, (ns.map V.int).all flatV = true
  | [] => rfl
  | n :: ns => by rw [List.map_cons, List.all_cons, flat_ints ns]; rfl
theorem ev_inI {i : Int} {ns : List Int} (ha : Ev J ta ρ M (.int i)) (hb : Ev J tb ρ M y) (hy : IsQ M y (ns.map .int)) : Ev J (tOp (rIn J.K false) ta tb) ρ M (.bl (decide (i ∈ ns))) :=
  w_op1 ha hb (op2_val fun G H vx vy s tx ty => by
    cases tx
    obtain ⟨a, xs, rfl, h1, h2⟩ := hy.at s ty
    have e := h2.ints
    subst e
    exact ⟨_, .bl _, fun Q q => ⟨a, _, rfl, h1, rfl, flat_ints ns, by rw [if_neg (by decide), inV_int]; exact q⟩⟩)
theorem ev_notInI {i : Int} {ns : List Int} (ha : Ev J ta ρ M (.int i)) (hb : Ev J tb ρ M y) (hy : IsQ M y (ns.map .int)) : Ev J (tOp (rIn J.K true) ta tb) ρ M (.bl (!decide (i ∈ ns))) :=
  w_op1 ha hb (op2_val fun G H vx vy s tx ty => by
    cases tx
    obtain ⟨a, xs, rfl, h1, h2⟩ := hy.at s ty
    have e := h2.ints
    subst e
    exact ⟨_, .bl _, fun Q q => ⟨a, _, rfl, h1, rfl, flat_ints ns, by rw [if_pos rfl, inV_int]; exact q⟩⟩)
/-! ### sorted, all -/
theorem srtI_eq {ks zs : List Int} (hp : zs.Perm ks) (hz : zs.Pairwise (· ≤ ·)) : zs = srtI ks :=
  List.Perm.eq_of_pairwise (le := (· ≤ ·)) (fun a b _ _ h1 h2 => Int.le_antisymm h1 h2) hz (srtI_le ks) (hp.trans (srtI_perm ks).symm)
theorem w_sortedI {ns : List Int} (ha : W J ta ρ M fun x M1 => IsL M1 x (ns.map .int) ∧ ∀ p, M1 p = none → R (.ref p) (ud M1 p (.lst ((srtI ns).map .int)))) : W J (tCB (rSortedI J.K) (tCons ta tNil)) ρ M R :=
  w_cb (wa_cons (ha.imp fun x M1 h => wa_nil (by
    obtain ⟨hx, k⟩ := h
    intro G H vs s tx Q q
    cases tx with
    | cons t1 t2 =>
      cases t2
      obtain ⟨a, xs, rfl, h1, h2⟩ := hx.at s t1
      have e := h2.ints
      subst e
      refine ⟨a, ns, rfl, h1, fun ns' p hp hs hn => ?_⟩
      rw [srtI_eq hp hs]
      exact q _ _ G _ _ (k p (s.none_m hn)) (Same.refl G) (s.new (m := .lst ((srtI ns).map .int)) hn ⟨_, upd_same, DtL.of_ints _⟩) (.ref p))))
theorem en_sortedI {ns : List Int} (ha : Ev J ta ρ M x) (hx : IsL M x (ns.map .int)) : EvN J (tCB (rSortedI J.K) (tCons ta tNil)) ρ M ((srtI ns).map .int) :=
  w_sortedI (ha.w ⟨hx, fun p hp => ⟨p, hp, rfl, rfl⟩⟩)
theorem ev_all {bs : List Bool} (ha : Ev J ta ρ M x) (hx : IsL M x (bs.map .bl)) : Ev J (tCB (rAll J.K) (tCons ta tNil)) ρ M (.bl (bs.all id)) :=
  w_cb1 (ea_cons ha ea_nil) (opA_val fun G H vs s tx => by
    cases tx with
    | cons t1 t2 =>
      cases t2
      obtain ⟨a, xs, rfl, h1, h2⟩ := hx.at s t1
      have e := h2.bls
      subst e
      exact ⟨_, .bl _, fun Q q => ⟨a, bs, rfl, h1, q⟩⟩)
/-! ### a tuple and a tuple -/
theorem ev_catT {ds es : List D} (ha : Ev J ta ρ M (.tup ds)) (hb : Ev J tb ρ M (.tup es)) (h0 : ds ≠ []) (hl : ds.length + es.length ≤ sizeLine) : Ev J (tOp (rCatT J.K) ta tb) ρ M (.tup (ds ++ es)) :=
  w_op1 ha hb fun G H vx vy s tx ty Q q => by
    obtain ⟨a, xs, rfl, h1, h2⟩ := tup_at s tx
    obtain ⟨b, ys, rfl, g1, g2⟩ := tup_at s ty
    refine ⟨a, b, xs, ys, rfl, rfl, SqT.of h1, SqT.of g1, fun z => ?_, by rw [h2.length, g2.length]; exact hl, fun z => ?_, fun _ p hp => ?_⟩
    · have e := h2.length
      rw [z] at e
      exact h0 (List.length_eq_zero_iff.mp e.symm)
    · have e := g2.length
      rw [z] at e
      have e2 : es = [] := List.length_eq_zero_iff.mp e.symm
      subst e2
      refine q _ _ G M H ⟨?_, rfl⟩ (Same.refl G) s tx
      rw [List.append_nil]
    · obtain ⟨e2, s2⟩ := s.froz (o := .tup (xs ++ ys)) hp
      exact q _ _ _ _ _ ⟨rfl, rfl⟩ e2 s2 (.tup upd_same ((h2.append g2).mono e2))
/-! ### a list's truth -/
theorem et_truthQ {ds : List D} (ha : Ev J ta ρ M x) (hx : IsQ M x ds) : ET J (fun σ H Q => ta σ H fun x H' => ∃ k, TruV J.K x H' k ∧ Q k H') ρ M (!ds.isEmpty) := fun G σ H r s xo Q q =>
  ha G σ H r s xo _ fun v d G1 M1 H1 e e1 s1 t1 => by
    obtain ⟨rfl, rfl⟩ := e
    obtain ⟨a, xs, rfl, h1, h2⟩ := hx.at s1 t1
    have e : (!xs.isEmpty) = !ds.isEmpty := by
      cases h2 <;> rfl
    refine ⟨!ds.isEmpty, ?_, q _ G1 M1 H1 ⟨rfl, rfl⟩ e1 s1⟩
    rcases h1 with h1 | h1
    · exact .inl ⟨xs, h1, e.symm⟩
    · exact .inr (.inl ⟨xs, h1, e.symm⟩)
/-! ### [f(k) for k in range(n) if c(k)] -/
theorem en_rngC {i : Nat} {tt : TT} {n : Int} (c : Int → Bool) (f : Int → D) (hn : Ev J tn ρ M (.int n)) (h1 : -(2 ^ 62) ≤ n) (h2 : n ≤ 1000000) (ht : ∀ M1 (k : Int), Sub M M1 → 0 ≤ k → k < n → ET J tt (ρ.set i (some (.int k))) M1 (c k)) (he : ∀ M1 (k : Int), Sub M M1 → 0 ≤ k → k < n → c k = true → Ev J te (ρ.set i (some (.int k))) M1 (f k)) : EvN J (tLc (iRng1 (tCons tn tNil)) (gName i) tt te [i]) ρ M (((List.range n.toNat).filter fun (k : Nat) => c (k : Int)).map fun (k : Nat) => f (k : Int)) := by
  have e : ∀ k : Nat, (0 : Int) + (k : Int) = (k : Int) := fun k => Int.zero_add _
  refine en_lc (List.range n.toNat) (fun k => D.int (0 + (k : Int))) (fun (k : Nat) => c (k : Int)) (fun (k : Nat) => f (k : Int)) (src_rng1 hn h1 (by omega)) (fun _ _ => trivial) (szl (by rw [List.length_range]; omega)) (fun M1 k sb hk => ?_) fun M1 k sb hk hc => ?_
  · rw [e]
    have hk' := List.mem_range.mp hk
    exact ht M1 k sb (by omega) (by omega)
  · rw [e]
    have hk' := List.mem_range.mp hk
    exact he M1 k sb (by omega) (by omega) hc
end
end DL

namespace DL
open PySem L2
/-! ### len(set(t)), t a tuple of ints -/
theorem keys_len : ∀ (keys ns : List Int), keys.Nodup → (∀ k ∈ keys, k ∈ ns) → keys.length ≤ ns.length
  | [], ns, _, _ => Nat.zero_le _
  | k :: ks, ns, hn, h => by
    obtain ⟨a, b, rfl⟩ := List.append_of_mem (h k List.mem_cons_self)
    have hn := List.nodup_cons.mp hn
    have ih := keys_len ks (a ++ b) hn.2 fun x hx => by
      have := h x (List.mem_cons_of_mem _ hx)
      rcases List.mem_append.mp this with z | z
      · exact List.mem_append_left _ z
      · rcases List.mem_cons.mp z with z | z
        · exact absurd (z ▸ hx) hn.1
        · exact List.mem_append_right _ z
    rw [List.length_append] at ih
    rw [List.length_append, List.length_cons, List.length_cons]
    omega
theorem keys_nodup : ∀ (keys ns : List Int), keys.Nodup → (∀ k ∈ keys, k ∈ ns) → keys.length = ns.length → ns.Nodup
  | [], ns, _, _, e => by rw [List.length_eq_zero_iff.mp e.symm]; exact List.nodup_nil
  | k :: ks, ns, hn, h, e => by
    obtain ⟨a, b, rfl⟩ := List.append_of_mem (h k List.mem_cons_self)
    have hn' := List.nodup_cons.mp hn
    have hsub : ∀ x ∈ ks, x ∈ a ++ b := fun x hx => by
      have := h x (List.mem_cons_of_mem _ hx)
      rcases List.mem_append.mp this with z | z
      · exact List.mem_append_left _ z
      · rcases List.mem_cons.mp z with z | z
        · exact absurd (z ▸ hx) hn'.1
        · exact List.mem_append_right _ z
    have el : ks.length = (a ++ b).length := by
      rw [List.length_append, List.length_cons, List.length_cons] at e
      rw [List.length_append]
      omega
    have ih := keys_nodup ks (a ++ b) hn'.2 hsub el
    have hk : k ∉ a ++ b := fun z => by
      have := keys_len (k :: ks) (a ++ b) hn fun x hx => by
        rcases List.mem_cons.mp hx with rfl | hx
        · exact z
        · exact hsub x hx
      rw [List.length_cons] at this
      omega
    exact List.perm_middle.nodup_iff.mpr (List.nodup_cons.mpr ⟨hk, ih⟩)
def tLenSetT (K : PySem.W.Frag) (ta : TE) : TE := fun σ H Q => ta σ H fun x H1 => ∃ (l : Addr) (ns : List Int), x = .ref l ∧ SqT K H1 l (ns.map V.int) ∧ ns.length ≤ 1000 ∧ ∀ n : Nat, n ≤ ns.length → (n = ns.length ↔ ns.Nodup) → Q (.int (n : Int)) H1
section
open PySem.Spec PyProof.Rows
theorem pe_lenSetT {X : Cx} {a : Expr} {ta : TE} {p p2 q pos : Pos} (hc : X.calm = true) (hg : Gl X "len") (hm : X.mg "len" = none) (hg2 : Gl X "set") (hm2 : X.mg "set" = none) (ha : PE X a ta)
    (na : starEach [a] X.env = (false, eval a X.env) :: starEach [] X.env := by rfl) : PE X (.Call (.Name "len" p) [.Call (.Name "set" p2) [a] [] q] [] pos) (tLenSetT X.K ta) := by
  refine ⟨fun pins s σ H Q I h => ?_⟩
  refine Call_ (ld_blt I hg hm boot_len ?_)
  refine PyProof.Rows.callWith_builtin1 (PyProof.Rows.args_cons ?_ rfl) rfl rfl
  refine Call_ (ld_blt I hg2 hm2 PyProof.Rows.boot_set ?_)
  refine PyProof.Rows.callWith_type1 (PyProof.Rows.args_cons (thn (ha.run pins s σ H _ I h) fun v s1 ⟨x, H1, I1, r1, q1⟩ => PyProof.Rows.args_nil ?_) na) na rfl
  obtain ⟨l, ns, rfl, hq, hl, q1⟩ := q1
  cases r1
  obtain ⟨its, r, pl, hz⟩ := I1.tuple hq
  refine call_set_tupI ns (I1.ok.hd hc) pl (by simpa using r.ints) (by unfold scanBound; omega) fun h' tk c hS hcl hk => ?_
  refine PyProof.Rows.args_nil ?_
  obtain ⟨o, es, ep, t, ho, hex, hd, hg', hnd, hmem, hb, hf, hn, _⟩ := hS
  have I2 : Inv X pins σ H1 { s1 with heap := h', toks := tk } := I1.kept fun b o e => hk b o e
  have hkl : (es.toList.map keyOf).length = c := by rw [List.length_map, Array.length_toList]; exact hn
  have hsub : ∀ k ∈ es.toList.map keyOf, k ∈ ns := fun k hk => of_decide_eq_true ((hmem k).mpr hk)
  have hsup : ∀ k ∈ ns, k ∈ es.toList.map keyOf := fun k hk => (hmem k).mp (decide_eq_true hk)
  refine call_len_set ho hex hd hf (by rw [hn]; omega) ⟨.int (c : Int), H1, I2.tok _, ⟨_, by rw [hn]⟩, q1 c hcl ⟨fun e => ?_, fun e => ?_⟩⟩
  · exact keys_nodup _ _ hnd hsub (by rw [hkl]; exact e)
  · have h1 := keys_len ns (es.toList.map keyOf) e hsup
    omega
/-- a walk over a list or a tuple -/
def iOr (a b : TI) : TI := fun σ H R => a σ H R ∨ b σ H R
theorem pi_or {X : Cx} {tg e : Expr} {a b : TI} (ha : PI X tg e a) (hb : PI X tg e b) : PI X tg e (iOr a b) := ⟨fun pins s σ H R I h => h.elim (ha.run pins s σ H R I) (hb.run pins s σ H R I)⟩
theorem hu65 {A : Around} {k : Nat} (hr : Room k A) : A.units + 65 < cLine := by have := hr.un; omega
theorem kx_inD {X : Cx} {K : PySem.W.Frag} (h : X.K = K) (hu : X.A.units + 65 < cLine) : OpR X (compareOp .In) (rInD K) := h ▸ op_inD hu
theorem kx_notInD {X : Cx} {K : PySem.W.Frag} (h : X.K = K) (hu : X.A.units + 65 < cLine) : OpR X (compareOp .NotIn) (rNotInD K) := h ▸ op_notInD hu
end
section
variable {J : Jx} {te ta tb tn : TE} {t : TA} {ρ : Ro} {M : Mp} {x y d : D} {ds : List D} {b : Bool} {R : D → Mp → Prop}
theorem w_lenSet {ns : List Int} (ha : Ev J ta ρ M (.tup (ns.map .int))) (hl : ns.length ≤ 1000) (k : ∀ n : Nat, n ≤ ns.length → (n = ns.length ↔ ns.Nodup) → R (.int (n : Int)) M) : W J (tLenSetT J.K ta) ρ M R := fun G σ H r s xo Q q =>
  ha G σ H r s xo _ fun v d1 G1 M1 H1 e e1 s1 t1 => by
    obtain ⟨rfl, rfl⟩ := e
    obtain ⟨a, xs, rfl, h1, h2⟩ := tup_at s1 t1
    have e := h2.ints
    subst e
    exact ⟨a, ns, rfl, SqT.of h1, hl, fun n h3 h4 => q _ _ G1 _ H1 (k n h3 h4) e1 s1 (.int _)⟩
theorem ev_lenSet {ns : List Int} (ha : Ev J ta ρ M (.tup (ns.map .int))) (hl : ns.length ≤ 1000) (hn : ns.Nodup) : Ev J (tLenSetT J.K ta) ρ M (.int ns.length) :=
  w_lenSet ha hl fun n _ h => ⟨by rw [h.mpr hn], rfl⟩
/-! ### isinstance(x, (list, tuple)) -/
def kitB2 (a b c : String) : Option Bool := match kitB a b with
  | some true => some true
  | some false => kitB a c
  | none => none
theorem ev_isi2 {n m : String} (t : String) (ha : Ev J ta ρ M x) (hx : tyN M x = t) (h : kitB2 t n m = some b) (h' : t ≠ "") : Ev J (tCB (rIsiT J.K) (tCons ta (tCons (tTup (tCons (tC (.ty n)) (tCons (tC (.ty m)) tNil))) tNil))) ρ M (.bl b) := by
  refine w_cb1 (ea_cons ha (ea_cons (ev_tup (ds := [.ty n, .ty m]) (ea_cons ev_ty (ea_cons ev_ty ea_nil)) (by show 2 ≤ sizeLine; decide)) ea_nil)) (opA_val fun G H vs s tx => ?_)
  cases tx with
  | cons t1 t2 =>
    cases t2 with
    | cons t2 t3 =>
      cases t3
      obtain ⟨a, xs, rfl, h1, h2⟩ := tup_at s t2
      cases h2 with
      | cons g1 g2 =>
        cases g2 with
        | cons g2 g3 =>
          cases g3
          cases g1
          cases g2
          refine ⟨_, .bl b, fun Q q => ⟨_, a, _, _, [.type n, .type m], b, rfl, h1, .cons (.ty n) (.cons (.ty m) .nil), tyN_at s t1 (by rw [hx]; exact h'), ?_, q⟩⟩
          rw [hx]
          unfold kitB2 at h
          cases e : kitB t n with
          | none => rw [e] at h; cases h
          | some b1 =>
            rw [e] at h
            cases b1 with
            | true =>
              cases h
              exact kitAny_cons (kit_ty e) (fun z => nomatch z) fun _ => rfl
            | false =>
              refine kitAny_cons (kit_ty e) (fun _ => ?_) fun z => nomatch z
              cases b with
              | true => exact kitAny_cons (kit_ty h) (fun z => nomatch z) fun _ => rfl
              | false => exact kitAny_cons (kit_ty h) (fun _ => kitAny_nil) fun z => nomatch z
/-! ### in, of deep things -/
theorem anyC {α : Type} [DecidableEq α] (cc : Cd α) (a : α) : ∀ l : List α, ((toPys (l.map cc.d)).any fun z => PyData.eqv z (toPy (cc.d a))) = decide (a ∈ l)
  | [] => by rw [List.map_nil]; unfold toPys; simp
  | c :: l => by
    rw [List.map_cons]
    unfold toPys
    rw [List.any_cons, anyC cc a l, cc.ev, Bool.eq_iff_iff, Bool.or_eq_true, decide_eq_true_eq, decide_eq_true_eq, decide_eq_true_eq, List.mem_cons]
    exact ⟨fun h => h.elim (fun e => .inl e.symm) .inr, fun h => h.elim (fun e => .inl e.symm) .inr⟩
theorem toPy_L {α : Type} [DecidableEq α] (cc : Cd α) (l : List α) : toPy ((cL cc).d l) = .list (toPys (l.map cc.d)) := by
  show toPy (.lst (l.map cc.d)) = _
  unfold toPy
  rfl
theorem ev_inC {α : Type} [DecidableEq α] (cc : Cd α) {a : α} {l : List α} (ha : Ev J ta ρ M x) (hb : Ev J tb ρ M y) (hx : Vw M x (cc.d a)) (hy : Vw M y ((cL cc).d l)) (hd : cc.dep < 64) : Ev J (tOp (rInD J.K) ta tb) ρ M (.bl (decide (a ∈ l))) :=
  w_op1 ha hb (op2_val fun G H vx vy s tx ty => ⟨_, .bl _, fun Q q => ⟨_, _, hx.dp s tx (cc.ok a), by have := hy.dp s ty ((cL cc).ok l); rw [toPy_L] at this; exact this, shaped_of cc (Nat.le_of_lt hd) a, by have := shaped_of (cL cc) (show (cL cc).dep ≤ 64 from hd) l; rw [toPy_L] at this; exact this, by rw [anyC]; exact q⟩⟩)
theorem ev_notInC {α : Type} [DecidableEq α] (cc : Cd α) {a : α} {l : List α} (ha : Ev J ta ρ M x) (hb : Ev J tb ρ M y) (hx : Vw M x (cc.d a)) (hy : Vw M y ((cL cc).d l)) (hd : cc.dep < 64) : Ev J (tOp (rNotInD J.K) ta tb) ρ M (.bl (!decide (a ∈ l))) :=
  w_op1 ha hb (op2_val fun G H vx vy s tx ty => ⟨_, .bl _, fun Q q => ⟨_, _, hx.dp s tx (cc.ok a), by have := hy.dp s ty ((cL cc).ok l); rw [toPy_L] at this; exact this, shaped_of cc (Nat.le_of_lt hd) a, by have := shaped_of (cL cc) (show (cL cc).dep ≤ 64 from hd) l; rw [toPy_L] at this; exact this, by rw [anyC]; exact q⟩⟩)
/-! ### walks -/
theorem src_Q (h : Ev J te ρ M x) (hx : IsQ M x ds) : Src J (iOr (iList J.K te) (iTup J.K te)) ρ M (fun M' => IsQ M' x ds) ds := fun G σ H r s xo R q => by
  rcases hx with rfl | hx
  · exact .inr (src_t h G σ H r s xo R fun I G' H' e1 s1 yl => q I G' H' e1 s1 fun i G1 M1 H1 e2 s2 _ => yl i G1 M1 H1 e2 s2 trivial)
  · exact .inl (h G σ H r s xo _ fun v d G1 M1 H1 e e1 s1 t1 => by
      obtain ⟨rfl, rfl⟩ := e
      obtain ⟨a, xs, rfl, h1, h2⟩ := hx.at s1 t1
      refine ⟨a, rfl, ⟨xs, h1⟩, q _ G1 H1 e1 s1 (yl_list fun G2 M2 H2 e2 s2 k => ?_)⟩
      rcases k with rfl | k
      · obtain ⟨a', xs', ea, h1', h2'⟩ := tup_at s2 (t1.mono e2)
        cases ea
        obtain ⟨a3, xs3, e3, g1, g2⟩ := hx.at s1 t1
        rcases hx with z | z | ⟨_, z, _⟩ <;> cases z
      · obtain ⟨a', xs', ea, h1', h2'⟩ := k.at s2 (t1.mono e2)
        cases ea
        exact ⟨xs', h1', h2'⟩)
def enumD (ds : List D) : List D := (List.range ds.length).map fun (i : Nat) => .tup [.int (i : Int), ds.getD i .non]
theorem enumD_len (ds : List D) : (enumD ds).length = ds.length := by unfold enumD; rw [List.length_map, List.length_range]
theorem enumD_get {ds : List D} {i : Nat} {d : D} (h : (enumD ds)[i]? = some d) : ∃ x, ds[i]? = some x ∧ d = .tup [.int (i : Int), x] := by
  unfold enumD at h
  rw [List.getElem?_map] at h
  cases e : (List.range ds.length)[i]? with
  | none => rw [e] at h; cases h
  | some j =>
    rw [e] at h
    obtain ⟨hl, ej⟩ := List.getElem?_eq_some_iff.mp e
    rw [List.length_range] at hl
    rw [List.getElem_range] at ej
    subst ej
    refine ⟨ds[i], List.getElem?_eq_getElem hl, ?_⟩
    have := Option.some.inj h
    rw [← this]
    show D.tup [.int (i : Int), ds.getD i .non] = _
    rw [List.getD_eq_getElem?_getD, List.getElem?_eq_getElem hl]
    rfl
theorem src_enum (h : Ev J ta ρ M x) (hx : IsL M x ds) : Src J (iEnum J.K (tCons ta tNil)) ρ M (fun M' => IsL M' x ds) (enumD ds) := fun G σ H r s xo R q =>
  (ea_cons h ea_nil) G σ H r s xo _ fun vs dd G1 M1 H1 e e1 s1 t1 => by
    obtain ⟨rfl, rfl⟩ := e
    cases t1 with
    | cons t1 t2 =>
      cases t2
      obtain ⟨a, xs, rfl, h1, h2⟩ := hx.at s1 t1
      refine ⟨a, xs, rfl, h1, q _ G1 H1 e1 s1 fun i G2 M2 H2 e2 s2 k => ?_⟩
      obtain ⟨a', xs', ea, h1', h2'⟩ := k.at s2 (t1.mono e2)
      cases ea
      refine ⟨fun d hd => ?_, fun hl => ⟨xs', h1', by rw [enumD_len] at hl; rw [h2'.length]; exact hl⟩⟩
      obtain ⟨x1, ex, rfl⟩ := enumD_get hd
      obtain ⟨v, f1, f2⟩ := h2'.get ex
      refine ⟨⟨xs', v, h1', f1⟩, fun v' H3 yy => ?_⟩
      obtain ⟨T, v2, rfl, hT, rfl, g1⟩ := yy
      have e' := g1 xs' h1'
      rw [f1] at e'
      cases e'
      obtain ⟨e3, s3⟩ := s2.froz (o := .tup [.int (i : Int), v]) hT
      exact ⟨_, e3, s3, .tup upd_same (.cons (.int _) (.cons (f2.mono e3) .nil))⟩
theorem src_rev (h : Ev J ta ρ M x) (hx : IsL M x ds) : Src J (iRev J.K (tCons ta tNil)) ρ M (fun M' => IsL M' x ds) ds.reverse := fun G σ H r s xo R q =>
  (ea_cons h ea_nil) G σ H r s xo _ fun vs dd G1 M1 H1 e e1 s1 t1 => by
    obtain ⟨rfl, rfl⟩ := e
    cases t1 with
    | cons t1 t2 =>
      cases t2
      obtain ⟨a, xs, rfl, h1, h2⟩ := hx.at s1 t1
      refine ⟨a, xs, rfl, h1, q _ G1 H1 e1 s1 fun i G2 M2 H2 e2 s2 k => ?_⟩
      obtain ⟨a', xs', ea, h1', h2'⟩ := k.at s2 (t1.mono e2)
      cases ea
      have el : xs.length = ds.length := h2.length
      refine ⟨fun d hd => ?_, fun hl => by rw [List.length_reverse] at hl; show xs.length ≤ i; omega⟩
      have hi := (List.getElem?_eq_some_iff.mp hd).1
      rw [List.length_reverse] at hi
      rw [List.getElem?_reverse hi] at hd
      obtain ⟨v, f1, f2⟩ := h2'.get hd
      rw [← el] at f1
      refine ⟨⟨by omega, xs', v, h1', f1⟩, fun v' H3 yy => ?_⟩
      obtain ⟨rfl, g1⟩ := yy
      have e' := g1 xs' h1'
      rw [f1] at e'
      cases e'
      exact ⟨G2, Same.refl _, s2, f2⟩
/-! ### {k: v, ..} -/
def WPs (J : Jx) (trs : List (TE × TE)) (ρ : Ro) (M : Mp) (R : List (D × D) → Mp → Prop) : Prop :=
  ∀ G σ H, Rel J.K G σ ρ → Hs J.K G M H → XOk J G → ∀ Q : List (V × V) → Hp → Prop, (∀ ps ds G' M' H', R ds M' → Same G G' → Hs J.K G' M' H' → DtL J.K G' (ps.map (·.1)) (ds.map (·.1)) → DtL J.K G' (ps.map (·.2)) (ds.map (·.2)) → Q ps H') → tPairs trs σ H Q
theorem wps_nil {R : List (D × D) → Mp → Prop} (h : R [] M) : WPs J [] ρ M R := fun G σ H r s xo Q q => q [] [] G M H h (Same.refl G) s .nil .nil
theorem wps_cons {tk tv : TE} {trs : List (TE × TE)} {R : List (D × D) → Mp → Prop} (h : W J tk ρ M fun x M1 => W J tv ρ M1 fun y M2 => WPs J trs ρ M2 fun ps M3 => R ((x, y) :: ps) M3) : WPs J ((tk, tv) :: trs) ρ M R := fun G σ H r s xo Q q =>
  h G σ H r s xo _ fun v1 d1 G1 M1 H1 h1 e1 s1 t1 => h1 G1 σ H1 (r.mono e1) s1 (xo.mono e1) _ fun v2 d2 G2 M2 H2 h2 e2 s2 t2 =>
    h2 G2 σ H2 (r.mono (e1.trans e2)) s2 (xo.mono (e1.trans e2)) _ fun ps ds G3 M3 H3 h3 e3 s3 t3 t4 => q _ _ G3 M3 H3 h3 ((e1.trans e2).trans e3) s3 (.cons (t1.mono (e2.trans e3)) t3) (.cons (t2.mono e3) t4)
def mergeA (kvs more : List (Key × D)) : List (Key × D) := more.foldl (fun acc kv => putA acc kv.1 kv.2) kvs
theorem merge_dt {K : PySem.W.Frag} {G : Hp} : ∀ {more : List (Key × V)} {mds : List (Key × D)} {ws : List (Key × V)} {kvs : List (Key × D)}, more.map (·.1) = mds.map (·.1) → DtL K G (more.map (·.2)) (mds.map (·.2)) → ws.map (·.1) = kvs.map (·.1) → DtL K G (ws.map (·.2)) (kvs.map (·.2)) →
    (mergeK ws more).map (·.1) = (mergeA kvs mds).map (·.1) ∧ DtL K G ((mergeK ws more).map (·.2)) ((mergeA kvs mds).map (·.2))
  | [], [], _, _, _, _, h1, h2 => ⟨h1, h2⟩
  | [], _ :: _, _, _, h, _, _, _ => by simp at h
  | _ :: _, [], _, _, h, _, _, _ => by simp at h
  | p :: more, q :: mds, ws, kvs, h, t, h1, h2 => by
    rw [List.map_cons, List.map_cons] at h t
    have e1 : p.1 = q.1 := (List.cons.inj h).1
    cases t with
    | cons t1 t2 =>
      obtain ⟨g1, g2⟩ := putK_dt (k := q.1) t1 h1 h2
      have := merge_dt (more := more) (mds := mds) (ws := putK ws q.1 p.2) (kvs := putA kvs q.1 q.2) (List.cons.inj h).2 t2 g1 g2
      have e0 : mergeK ws (p :: more) = mergeK (putK ws q.1 p.2) more := by
        show mergeK (putK ws p.1 p.2) more = _
        rw [e1]
      rw [e0]
      exact this
theorem keys_dt {K : PySem.W.Frag} {G : Hp} : ∀ {ps : List (V × V)} {kds : List (Key × D)}, DtL K G (ps.map (·.1)) ((kds.map fun kv => (kD kv.1, kv.2)).map (·.1)) → ∃ kvs : List (Key × V), ps = kvs.map (fun kv => (kV kv.1, kv.2)) ∧ kvs.map (·.1) = kds.map (·.1) ∧ kvs.map (·.2) = ps.map (·.2)
  | [], [], _ => ⟨[], rfl, rfl, rfl⟩
  | [], _ :: _, h => by cases h
  | _ :: _, [], h => by cases h
  | p :: ps, kd :: kds, h => by
    rw [List.map_cons, List.map_cons, List.map_cons] at h
    cases h with
    | cons h1 h2 =>
      obtain ⟨kvs, e1, e2, e3⟩ := keys_dt h2
      refine ⟨(kd.1, p.2) :: kvs, ?_, ?_, ?_⟩
      · rw [List.map_cons, ← e1]
        congr 1
        show p = (kV kd.1, p.2)
        rw [← kD_dt h1]
      · rw [List.map_cons, List.map_cons, e2]
      · rw [List.map_cons, List.map_cons, e3]
theorem w_disp {trs : List (TE × TE)} (h : ∀ p, M p = none → WPs J trs ρ (ud M p (.dct [])) fun ps M2 => M2 p = some (.dct []) ∧ ∃ kds : List (Key × D), ps = kds.map (fun kv => (kD kv.1, kv.2)) ∧ kds.length ≤ 15 ∧ R (.ref p) (ud M2 p (.dct (mergeA [] kds)))) : W J (tDisp trs) ρ M R := fun G σ H r s xo Q q p hp => by
  refine h p (s.none_m hp) G σ _ r (s.new (m := .dct []) hp ⟨[], upd_same, rfl, .nil⟩) xo _ fun ps ds G2 M2 H2 h2 e2 s2 t1 t2 => ?_
  obtain ⟨hm, kds, rfl, hl, hR⟩ := h2
  obtain ⟨g, ws, g1, g2, g3⟩ := s2.ok p _ hm
  have ws0 : ws = [] := List.length_eq_zero_iff.mp (by rw [len_keys g2]; rfl)
  subst ws0
  refine ⟨g1, ?_⟩
  obtain ⟨kvs, e1, e3, e4⟩ := keys_dt t1
  refine ⟨kvs, e1, by rw [len_keys e3]; exact hl, ?_⟩
  have t2' : DtL J.K G2 (kvs.map (·.2)) (kds.map (·.2)) := by
    rw [e4]
    rw [List.map_map] at t2
    exact t2
  obtain ⟨m1, m2⟩ := merge_dt e3 t2' g2 g3
  exact q _ _ G2 _ _ hR e2 (s2.put g ⟨_, upd_same, m1, m2⟩) (.ref p)
end
section
variable {J : Jx} {to : TE} {ρ : Ro} {M : Mp} {ds : List D} {R : D → Mp → Prop}
theorem w_reverse {a : Addr} (ho : Ev J to ρ M (.ref a)) (hm : M a = some (.lst ds)) (kk : R .non (ud M a (.lst ds.reverse))) : W J (tBM0 J.K "list" rReverse to) ρ M R :=
  w_bm0 (ho.w ⟨⟨ds, .r hm⟩, fun G H v vs s tx tv Q q => by
    cases tx
    cases tv
    obtain ⟨g, xs, e, g2⟩ := s.ok a _ hm
    exact ⟨a, xs, rfl, rfl, e, q _ _ G _ _ kk (Same.refl G) (s.put g ⟨_, upd_same, g2.reverse⟩) .non⟩⟩)
end
/-! ### whole numbers -/
def wholeD : D → Bool
  | .int _ => true
  | _ => false
theorem whole_kit (M : Mp) (x : D) (h : tyN M x ≠ "") : ∃ a b, kitB (tyN M x) "int" = some a ∧ kitB (tyN M x) "bool" = some b ∧ wholeD x = (a && !b) := by
  have g : ∀ (s : String) (a b : Bool), tyN M x = s → kitB s "int" = some a → kitB s "bool" = some b → wholeD x = (a && !b) → ∃ a b, kitB (tyN M x) "int" = some a ∧ kitB (tyN M x) "bool" = some b ∧ wholeD x = (a && !b) := fun s a b e h1 h2 h3 => ⟨a, b, by rw [e]; exact h1, by rw [e]; exact h2, h3⟩
  cases x with
  | non => exact g "NoneType" false false rfl (by decide +kernel) (by decide +kernel) rfl
  | bl b => exact g "bool" true true rfl (by decide +kernel) (by decide +kernel) rfl
  | int i => exact g "int" true false rfl (by decide +kernel) (by decide +kernel) rfl
  | str s => exact g "str" false false rfl (by decide +kernel) (by decide +kernel) rfl
  | ty n => exact absurd rfl h
  | lst ds => exact g "list" false false rfl (by decide +kernel) (by decide +kernel) rfl
  | frl ds => exact g "list" false false rfl (by decide +kernel) (by decide +kernel) rfl
  | tup ds => exact g "tuple" false false rfl (by decide +kernel) (by decide +kernel) rfl
  | ref a =>
    cases e : M a with
    | none => exact absurd (by simp only [tyN, e]) h
    | some o =>
      cases o with
      | lst ds => exact g "list" false false (by simp only [tyN, e]) (by decide +kernel) (by decide +kernel) rfl
      | dct kvs => exact g "dict" false false (by simp only [tyN, e]) (by decide +kernel) (by decide +kernel) rfl
      | ins C fs => exact absurd (by simp only [tyN, e]) h
      | dcl od ws kvs => exact absurd (by simp only [tyN, e]) h
theorem tyN_L {M : Mp} {x : D} {ds : List D} (h : IsM M x ds) : tyN M x = "list" := by
  rcases h with rfl | ⟨a, rfl, h⟩
  · rfl
  · simp only [tyN, h]
theorem putA_ne {α : Type} {k k' : Key} {v x : α} {r : List (Key × α)} (h : k' ≠ k) : putA ((k', v) :: r) k x = (k', v) :: putA r k x := by
  unfold putA
  rw [List.any_cons, decide_eq_false (show ¬ (k', v).1 = k from h), Bool.false_or, List.map_cons, if_neg (show ¬ (k', v).1 = k from h)]
  split <;> rfl
theorem putA_eq {α : Type} {k : Key} {v x : α} {r : List (Key × α)} (h : k ∉ r.map (·.1)) : putA ((k, v) :: r) k x = (k, x) :: r := by
  unfold putA
  rw [List.any_cons, decide_eq_true (show (k, v).1 = k from rfl), Bool.true_or, if_pos rfl, List.map_cons, if_pos (show (k, v).1 = k from rfl)]
  congr 1
  conv => rhs; rw [← List.map_id r]
  refine List.map_congr_left fun p hp => ?_
  rw [if_neg (fun e => h (by rw [← e]; exact List.mem_map_of_mem (f := (·.1)) hp))]
  rfl
theorem putA_nil {α : Type} {k : Key} {x : α} : putA ([] : List (Key × α)) k x = [(k, x)] := rfl
theorem valS_ne {α : Type} {f g : Str} {x : α} {r : List (Key × α)} (h : ¬ g = f) : valA ((.inr g, x) :: r) (.inr f) = valA r (.inr f) := valA_neg (p := (Sum.inr g, x)) (fun z => h (Sum.inr.inj z))
theorem valS_eq {α : Type} {f : Str} {x : α} {r : List (Key × α)} : valA ((.inr f, x) :: r) (.inr f) = some x := valA_pos (p := (Sum.inr f, x)) rfl
theorem putS_ne {α : Type} {f g : Str} {x v : α} {r : List (Key × α)} (h : ¬ g = f) : putA ((.inr g, x) :: r) (.inr f) v = (.inr g, x) :: putA r (.inr f) v := putA_ne (fun z => h (Sum.inr.inj z))
theorem putD_nil {f : Str} {v : D} : putD f v [] = [(f, v)] := rfl
theorem putD_ne {f g : Str} {v x : D} {r : List (Str × D)} (h : ¬ g = f) : putD f v ((g, x) :: r) = (g, x) :: putD f v r := if_neg h
theorem putD_eq {f : Str} {v x : D} {r : List (Str × D)} : putD f v ((f, x) :: r) = (f, v) :: r := if_pos rfl
def WideIn (th : Th) (w : Nat) : Prop := ∀ p ∈ th, p.2.length = w
end DL

namespace DL
open PySem L2
/-! ### a dict, locked while a loop walks it -/
theorem ud_id {M : Mp} {a : Addr} {o : MO} (h : M a = some o) : ud M a o = M := by
  funext b
  unfold ud
  by_cases e : b = a
  · rw [if_pos e, e, h]
  · rw [if_neg e]
section
variable {J : Jx} {td ty te : TE} {ts : TS} {ρ : Ro} {M : Mp} {P : Po} {a : Addr} {kvs : List (Key × D)} {k : Key} {z : D} {od : Obj} {ws : List (Key × V)}
theorem s_lock (hm : M a = some (.dct kvs)) (h : ∀ od ws, S J ts ρ (ud M a (.dcl od ws kvs)) ⟨fun ρ' M' => M' a = some (.dcl od ws kvs) ∧ P.nx ρ' (ud M' a (.dct kvs)), fun d M' => M' a = some (.dcl od ws kvs) ∧ P.rt d (ud M' a (.dct kvs)), fun ρ' M' => M' a = some (.dcl od ws kvs) ∧ P.bk ρ' (ud M' a (.dct kvs)), fun ρ' M' => M' a = some (.dcl od ws kvs) ∧ P.ct ρ' (ud M' a (.dct kvs))⟩) : S J (tLock ts) ρ M P := fun G σ H D' r s xo q => by
  obtain ⟨g, ws, e1, e2, e3⟩ := s.ok a _ hm
  refine ⟨a, .dK ws, e1, trivial, fun od => ?_⟩
  have s1 : Hs J.K G (ud M a (.dcl od ws kvs)) (upd H a (.frz od (.dK ws))) := s.put g ⟨upd_same, e2, e3⟩
  have back : ∀ G' M' H', Hs J.K G' M' H' → M' a = some (.dcl od ws kvs) → H' a = some (.frz od (.dK ws)) ∧ Hs J.K G' (ud M' a (.dct kvs)) (upd H' a (.dK ws)) := fun G' M' H' s' hm' => by
    obtain ⟨g', f1, f2, f3⟩ := s'.ok a _ hm'
    exact ⟨f1, s'.put g' ⟨ws, upd_same, f2, f3⟩⟩
  refine h od ws G σ _ _ r s1 xo ⟨fun G' σ' ρ' M' H' h1 e r1 s' => ?_, fun G' v d M' H' h1 e s' t1 => ?_, fun G' σ' ρ' M' H' h1 e r1 s' => ?_, fun G' σ' ρ' M' H' h1 e r1 s' => ?_⟩
  · obtain ⟨b1, b2⟩ := back G' M' H' s' h1.1
    exact ⟨b1, q.nx G' σ' ρ' _ _ h1.2 e r1 b2⟩
  · obtain ⟨b1, b2⟩ := back G' M' H' s' h1.1
    exact ⟨b1, q.rt G' v d _ _ h1.2 e b2 t1⟩
  · obtain ⟨b1, b2⟩ := back G' M' H' s' h1.1
    exact ⟨b1, q.bk G' σ' ρ' _ _ h1.2 e r1 b2⟩
  · obtain ⟨b1, b2⟩ := back G' M' H' s' h1.1
    exact ⟨b1, q.ct G' σ' ρ' _ _ h1.2 e r1 b2⟩
theorem ev_dgetL (hd : Ev J td ρ M (.ref a)) (hk : Ev J ty ρ M (kD k)) (hm : M a = some (.dcl od ws kvs)) (h : valA kvs k = some z) : Ev J (tDGet td ty) ρ M z := fun G σ H r s xo Q q =>
  hd G σ H r s xo _ fun v d1 G1 M1 H1 e e1 s1 t1 => by
    obtain ⟨rfl, rfl⟩ := e
    refine hk G1 σ H1 (r.mono e1) s1 (xo.mono e1) _ fun v2 d2 G2 M2 H2 e e2 s2 t2 => ?_
    obtain ⟨rfl, rfl⟩ := e
    cases t1
    obtain ⟨_, g1, g2, g3⟩ := s2.ok a _ hm
    rcases val_dt (k := k) g2 g3 with ⟨n1, _⟩ | ⟨w, d, h1, h2, h3⟩
    · rw [n1] at h; cases h
    · rw [h] at h1
      cases h1
      refine ⟨a, w, rfl, ?_, q _ _ G2 _ H2 ⟨rfl, rfl⟩ (e1.trans e2) s2 h3⟩
      rw [kD_dt t2, ← h2]
      exact .inl ⟨ws, k, .inr ⟨od, g1⟩, rfl, rfl⟩
theorem dt_kD {K : PySem.W.Frag} {G : Hp} : ∀ k : Key, Dt K G (kV k) (kD k)
  | .inl i => .int i
  | .inr x => .str x
theorem src_keysL (hd : Ev J td ρ M (.ref a)) (hm : M a = some (.dcl od ws kvs)) : Src J (iKeysM td) ρ M (fun M' => M' a = some (.dcl od ws kvs)) (kvs.map fun kv => kD kv.1) := fun G σ H r s xo R q =>
  hd G σ H r s xo _ fun v d1 G1 M1 H1 e e1 s1 t1 => by
    obtain ⟨rfl, rfl⟩ := e
    cases t1
    obtain ⟨g, f1, f2, f3⟩ := s1.ok a _ hm
    have hl : ws.length = kvs.length := len_keys f2
    refine ⟨a, od, ws, rfl, f1, q _ G1 H1 e1 s1 fun i G2 M2 H2 e2 s2 k => ?_⟩
    obtain ⟨g2, h1, h2, h3⟩ := s2.ok a _ k
    refine ⟨fun d hd => ?_, fun hl' => ⟨h1, by rw [List.length_map] at hl'; omega⟩⟩
    obtain ⟨kv, hk, rfl⟩ := get_map hd
    have hi := lt_of_get hk
    refine ⟨⟨h1, by omega⟩, fun v' H3 y => ?_⟩
    obtain ⟨rfl, k', v0, y1, rfl⟩ := y
    have ek : k' = kv.1 := by
      have e : (ws.map (·.1))[i]? = (kvs.map (·.1))[i]? := by rw [f2]
      rw [List.getElem?_map, List.getElem?_map, y1, hk] at e
      exact Option.some.inj e
    rw [ek]
    exact ⟨G2, Same.refl _, s2, dt_kD _⟩
end
section
open PySem.Spec PyProof.Rows
theorem kx_catT {X : Cx} {K : PySem.W.Frag} (h : X.K = K) : OpR X (binaryOp .Add) (rCatT K) := h ▸ op_catT
end
section
variable {J : Jx} {M : Mp} {R : D → Mp → Prop}
theorem op2_eqI {i j : Int} (h : R (.bl (decide (i = j))) M) : Op2 J rEq (.int i) (.int j) M R := fun G H vx vy s tx ty Q q => by
  cases tx
  cases ty
  exact ⟨rfl, by rw [dec_I]; exact q _ _ G M H h (Same.refl G) s (.bl _)⟩
end
end DL

namespace DL
open PySem L2
/-! ### exceptions -/
section
open PySem.Spec PyProof.Rows
variable {X : Cx} {e : Expr} {t1 t2 : TE}
/-- one of two readings -/
def tEi (t1 t2 : TE) : TE := fun σ H Q => t1 σ H Q ∨ t2 σ H Q
theorem pe_ei (h1 : PE X e t1) (h2 : PE X e t2) : PE X e (tEi t1 t2) := ⟨fun pins s σ H Q I h => h.elim (h1.run pins s σ H Q I) (h2.run pins s σ H Q I)⟩
/-- a method whose wish of an exception speaks of the caller's slots -/
def tMethW (C : Addr) (m : Str) (sp : Sp) (E : L2.St → XK) (ta : TE) (t : TA) : TE := fun σ H Q => ta σ H fun x H1 => ∃ a dx fs, x = .ref a ∧ H1 a = some (.ins C dx fs) ∧ fs.lookup m = none ∧ t σ H1 fun vs H2 => sp (x :: vs) H2 Q (E σ)
theorem pe_methW {CXX : CXT} {k : Nat} {f C : Addr} {fd : FuncData} {ps : List Str} {sp : Sp} {E : L2.St → XK} {m : Str} {pos apos : Pos} {ob arg : Expr} {args : List Expr} {ta : TE} {t : TA} {pl : Sem Bool} (hob : PE X ob ta) (hcl : Cls X.K C) (hme : Meth X.K C m f)
    (F : FnOk X.prog X.w X.K X.mg X.base CXX k f fd ps sp) (hroom : Room k X.A) (hbd : Binds X.K fd ps []) (hpass : ∀ σ, PassesAt CXX X σ (E σ)) (hargs : PA X (arg :: args) t)
    (h1 : starEach (arg :: args) X.env = (false, eval arg X.env) :: starEach args X.env := by rfl) (h2 : (backTo pos (starEach args X.env)).any (·.1) = false := by rfl)
    (h3 : eval (.Call (.Attribute ob m apos) (arg :: args) [] pos) X.env = (do
      let v ← eval ob X.env
      standAt apos.atName
      let (g, first) ← holding [v] (getMethod v m pl)
      callWith pos g first (backTo pos (starEach (arg :: args) X.env)) (backToKw pos (keywordEach [] X.env))) := by rfl) : PE X (.Call (.Attribute ob m apos) (arg :: args) [] pos) (tMethW C m sp E ta t) := ⟨fun pins s σ H Q I h => by
  refine PySem.W.methodCall_KW (pl := pl) (thn (hob.run pins s σ H _ I h) fun u s1 hu => ?_) h3
  obtain ⟨x, H1, I1, rx, a, dx, fs, ex, ea, l, q⟩ := hu
  subst ex
  obtain rfl : u = Value.ref a := rx
  refine getmeth_ok I1 ea hcl hme l (PySem.W.callWith_K (first := [.ref a]) (h₀ := X.base) I.ok.mod.kin hme.kp (thn (hargs.run pos pins s1 σ H1 _ I1 q) fun us s2 hv => ?_) h1 h2)
  obtain ⟨vs, H2, I2, r, q2⟩ := hv
  exact ⟨I2.kIn, run_fnS (us := .ref a :: us) (vs := .ref a :: vs) F hroom hbd (hpass σ) I2 (.cons rfl r) q2⟩⟩
end
section
variable {J : Jx} {te ta tb t1 t2 : TE} {t : TA} {ts : TS} {ρ : Ro} {M : Mp} {x y z : D} {ds : List D} {b : Bool} {P : Po} {R : D → Mp → Prop} {C a : Addr} {fs : List (Str × D)} {m : Str}
theorem w_ei1 (h : W J t1 ρ M R) : W J (tEi t1 t2) ρ M R := fun G σ H r s xo Q q => .inl (h G σ H r s xo Q q)
theorem w_ei2 (h : W J t2 ρ M R) : W J (tEi t1 t2) ρ M R := fun G σ H r s xo Q q => .inr (h G σ H r s xo Q q)
/-- a call in a try's body -/
theorem w_callS {Rf : Pr} (ha : WA J t ρ M fun ds M1 => Rf ds M1 R (J.xe ρ)) : W J (tCallS (spD J.K Rf) J.E t) ρ M R := fun G σ H r s xo Q q => ha G σ H r s xo _ fun vs ds G1 M1 H1 h1 e1 s1 t1 =>
  ⟨G1, M1, ds, R, J.xe ρ, s1, t1, h1, q.mono e1, fun c M' G' H' x s' k => xo c M' G' H' σ ρ x (e1.trans s') (r.mono (e1.trans s')) k⟩
theorem w_methW {Rf : Pr} (h : Ev J ta ρ M (.ref a)) (hm : M a = some (.ins C fs)) (l : fs.lookup m = none) (ha : EvA J t ρ M ds) (k : Rf (.ref a :: ds) M R (J.xe ρ)) : W J (tMethW C m (spD J.K Rf) J.E ta t) ρ M R := fun G σ H r s xo Q q =>
  h G σ H r s xo _ fun v d G1 M1 H1 h1 e1 s1 t1 => by
    obtain ⟨rfl, rfl⟩ := h1
    cases t1
    obtain ⟨dx, gs, g1, g2, g3⟩ := s1.ins hm
    refine ⟨a, dx, gs, rfl, g1, look_dtN g2 l, ha G1 σ H1 (r.mono e1) s1 (xo.mono e1) _ fun vs ds G2 M2 H2 h2 e2 s2 t2 => ?_⟩
    obtain ⟨rfl, rfl⟩ := h2
    exact ⟨G2, M2, _, R, J.xe ρ, s2, .cons (.ref a) t2, k, q.mono (e1.trans e2), fun c M' G' H' x s' kk => xo c M' G' H' σ ρ x ((e1.trans e2).trans s') (r.mono ((e1.trans e2).trans s')) kk⟩
/-- raise C(..) -/
theorem s_raise (h : J.xe ρ C M) (e : ∀ (D' : Ends) σ H, J.E σ (.ref C) none H → ts D' σ H) : S J ts ρ M P := fun G σ H D' r s xo q => e D' σ H (xo C M G H σ ρ h (Same.refl G) r s)
/-! try -/
abbrev Hds : Type := List (Value × (Addr → Value → Option Addr → TS))
def HdR (K : PySem.W.Frag) (P : Po) (ρ : Ro) (c : Addr) (M : Mp) : Hds → Prop
  | [] => False
  | (cv, ts) :: l => ∃ b, PySem.W.exmOne K (.ref c) cv = some b ∧ (b = true → ∀ a, M a = none → S (J0 K) (ts a (.ref c) none) ρ M P) ∧ (b = false → HdR K P ρ c M l)
section
variable {K : PySem.W.Frag} {c : Addr} {cv : Value} {hs : Addr → Value → Option Addr → TS} {l : Hds}
theorem hd_yes (h : PySem.W.exmOne K (.ref c) cv = some true) (k : ∀ a, M a = none → S (J0 K) (hs a (.ref c) none) ρ M P) : HdR K P ρ c M ((cv, hs) :: l) := ⟨true, h, fun _ => k, fun z => nomatch z⟩
theorem hd_at (h : HdR K P ρ c M l) : HdR K P ρ c M l := h
theorem hd_no (h : PySem.W.exmOne K (.ref c) cv = some false) (k : HdR K P ρ c M l) : HdR K P ρ c M ((cv, hs) :: l) := ⟨false, h, fun z => (nomatch z), fun _ => k⟩
end
theorem xok0 {K : PySem.W.Frag} {G : Hp} : XOk (J0 K) G := fun _ _ _ _ _ _ z => z.elim
theorem hd_many {K : PySem.W.Frag} {Wout : WX} {D' : Ends} {G H : Hp} {σ : L2.St} {c : Addr} (r : Rel K G σ ρ) (s : Hs K G M H) (q : DQ (J0 K) G P D') : ∀ l : Hds, HdR K P ρ c M l → wMany K Wout D' l (.ref c) none σ H
  | [], h => h.elim
  | (cv, ts) :: l, ⟨b, e, hy, hn⟩ => ⟨b, e, fun hb a ha => hy hb a (s.none_m ha) G σ H D' r s xok0 q, fun hb => hd_many r s q l (hn hb)⟩
def tTryM (K : PySem.W.Frag) (Wout : WX) (l : Hds) (bd : WX → TS) : TS := fun D σ H => bd (wMany K Wout D l) D σ H
def tTryA (K : PySem.W.Frag) (cv : Value) (i : Nat) (ts : Addr → Value → Option Addr → TS) (Wout : WX) (bd : WX → TS) : TS := fun D σ H => bd (wAs K cv i ts Wout D) D σ H
/-- try: .. except A: .. except B: .. -/
theorem s_tryM {bd : WX → TS} {Wout : WX} {l : Hds} (h : ∀ W : WX, S ⟨J.K, WE W, fun ρ' c M' => HdR J.K P ρ' c M' l⟩ (bd W) ρ M P) : S J (tTryM J.K Wout l bd) ρ M P := fun G σ H D' r s xo q =>
  h (wMany J.K Wout D' l) G σ H D' r s (fun c M' G' H' σ' ρ' x e r' s' => hd_many r' s' ⟨(q.mono e).nx, (q.mono e).rt, (q.mono e).bk, (q.mono e).ct⟩ l x) ⟨q.nx, q.rt, q.bk, q.ct⟩
/-- try: .. except A as n: .. -/
theorem s_tryA {bd : WX → TS} {Wout : WX} {cv : Value} {i : Nat} {ts : Addr → Value → Option Addr → TS} (h : ∀ W : WX, S ⟨J.K, WE W, fun ρ' c M' => PySem.W.exmOne J.K (.ref c) cv = some true ∧ ∀ a, M' a = none → S (J0 J.K) (ts a (.ref c) none) (ρ'.set i (some (.ref a))) M' ⟨fun ρ2 M2 => P.nx (ρ2.set i none) M2, P.rt, fun ρ2 M2 => P.bk (ρ2.set i none) M2, fun ρ2 M2 => P.ct (ρ2.set i none) M2⟩⟩ (bd W) ρ M P) :
    S J (tTryA J.K cv i ts Wout bd) ρ M P := fun G σ H D' r s xo q => by
  refine h (wAs J.K cv i ts Wout D') G σ H D' r s (fun c M' G' H' σ' ρ' x e r' s' => ?_) ⟨q.nx, q.rt, q.bk, q.ct⟩
  obtain ⟨x1, x2⟩ := x
  refine ⟨true, x1, fun _ a ha => ?_, fun z => nomatch z⟩
  have q' := q.mono e
  exact x2 a (s'.none_m ha) G' _ H' _ (r'.set (.ref a) i) s' xok0 ⟨fun G2 σ2 ρ2 M2 H2 h2 e2 r2 s2 => q'.nx G2 _ _ M2 H2 h2 e2 (r2.unset i) s2, q'.rt, fun G2 σ2 ρ2 M2 H2 h2 e2 r2 s2 => q'.bk G2 _ _ M2 H2 h2 e2 (r2.unset i) s2, fun G2 σ2 ρ2 M2 H2 h2 e2 r2 s2 => q'.ct G2 _ _ M2 H2 h2 e2 (r2.unset i) s2⟩
end
section
open PySem.Spec PyProof.Rows
variable {X : Cx} {K : PySem.W.Frag} {body : List Stmt} {bd : WX → TS} {Wout : WX}
theorem ps_tryM {hd : ExceptHandler} {hds : List ExceptHandler} {l : Hds} {pos : Pos} (h : X.K = K) (h1 : X.stack = X.env :: X.outer) (h2 : X.env.frame = some X.env.locals) (tk : Takes X Wout)
    (hb : ∀ (W : WX) (pn : List (Addr × Obj)) (xe : Value → Shared → Prop), Takes (X.tr pn xe) W → PassesOwn (model X.prog X.w) X.A X.env xe → PSs (X.tr pn xe) body (bd W)) (hh : HdsOk X (hd :: hds) l) : PS X (.Try body (hd :: hds) [] [] pos) (tTryM K Wout l bd) :=
  h ▸ ps_try_many h1 h2 tk hb hh
theorem ps_tryA {x n : Str} {c : Value} {i : Nat} {suite : List Stmt} {b₀ : Stmt} {np pos pos' : Pos} {ts : Addr → Value → Option Addr → TS} (h : X.K = K) (h1 : X.stack = X.env :: X.outer) (h2 : X.env.frame = some X.env.locals) (h3 : X.N.Nodup) (h4 : X.N[i]? = some n) (h5 : X.env.kindOf n = some .local) (h6 : Names X x c) (tk : Takes X Wout)
    (hb : ∀ (W : WX) (pn : List (Addr × Obj)) (xe : Value → Shared → Prop), Takes (X.tr pn xe) W → PassesOwn (model X.prog X.w) X.A X.env xe → PSs (X.tr pn xe) body (bd W))
    (hsu : ∀ (a : Addr) (oe : Obj) (cls : Value) (d : Option Addr) (pn : List (Addr × Obj)), Zc cls d oe → (∃ vs, oe.data = .fields vs) → PSs (X.suite a ((a, oe) :: pn)) (b₀ :: suite) (ts a cls d)) : PS X (.Try body [.ExceptHandler (some (.Name x np)) (some n) (b₀ :: suite) pos'] [] [] pos) (tTryA K c i ts Wout bd) :=
  h ▸ ps_try_as h1 h2 h3 h4 h5 h6 tk hb hsu
end
/-! isinstance of what an except suite holds -/
section
open PySem.Spec PyProof.Rows
variable {X : Cx} {K : PySem.W.Frag} {a C : Addr} {oe : Obj} {cls : Value} {d : Option Addr} {pn : List (Addr × Obj)}
theorem zc_of (h : Zc cls d oe) (e1 : cls = .ref C) (e2 : d = none) : Zc (.ref C) none oe := e1 ▸ e2 ▸ h
theorem kx_isE (h : X.K = K) (ec : ExcC K C) (hz : Zc (.ref C) none oe) (hf : ∃ vs, oe.data = .fields vs) : CallR (X.suite a ((a, oe) :: pn)) (.builtin "isinstance") (rIsE K C a) := h ▸ call_isE (h ▸ ec) hz hf
def tExc (K : PySem.W.Frag) (cls : Value) (d : Option Addr) (t : Addr → TS) : TS := fun D σ H => ∃ C, cls = .ref C ∧ d = none ∧ ExcC K C ∧ t C D σ H
theorem pss_exc {sts : List Stmt} {t : Addr → TS} (hb : ∀ C, cls = .ref C → d = none → ExcC K C → PSs X sts (t C)) : PSs X sts (tExc K cls d t) := ⟨fun pins s σ H D I h => by
  obtain ⟨C, e1, e2, ec, h⟩ := h
  exact (hb C e1 e2 ec).run pins s σ H D I h⟩
end
section
variable {J : Jx} {ta tb : TE} {ρ : Ro} {M : Mp} {y : D} {P : Po} {C a : Addr} {b : Bool}
theorem s_exc {t : Addr → TS} (ec : ExcC J.K C) (h : S J (t C) ρ M P) : S J (tExc J.K (.ref C) none t) ρ M P := fun G σ H D' r s xo q => ⟨C, rfl, rfl, ec, h G σ H D' r s xo q⟩
theorem ev_isE {B : Addr} (ha : Ev J ta ρ M (.ref a)) (hb : Ev J tb ρ M (.ref B)) (h : PySem.W.kitOne J.K (.ref C) (.ref B) = some b) : Ev J (tCB (rIsE J.K C a) (tCons ta (tCons tb tNil))) ρ M (.bl b) :=
  w_cb1 (ea_cons ha (ea_cons hb ea_nil)) (opA_val fun G H vs s tx => by
    cases tx with
    | cons t1 t2 =>
      cases t2 with
      | cons t2 t3 =>
        cases t3
        cases t1
        cases t2
        exact ⟨_, .bl b, fun Q q => ⟨_, .ref B, b, rfl, fun u r => r, h, q⟩⟩)
theorem ev_isEt {n : String} (ha : Ev J ta ρ M (.ref a)) (hb : Ev J tb ρ M (.ty n)) (h : PySem.W.kitOne J.K (.ref C) (.type n) = some b) : Ev J (tCB (rIsE J.K C a) (tCons ta (tCons tb tNil))) ρ M (.bl b) :=
  w_cb1 (ea_cons ha (ea_cons hb ea_nil)) (opA_val fun G H vs s tx => by
    cases tx with
    | cons t1 t2 =>
      cases t2 with
      | cons t2 t3 =>
        cases t3
        cases t1
        cases t2
        exact ⟨_, .bl b, fun Q q => ⟨_, .type n, b, rfl, fun u r => r, h, q⟩⟩)
/-! texts, int() of a truth -/
theorem dec_S {i j : Str} : decide (V.str i = V.str j) = decide (i = j) := by
  by_cases h : i = j
  · rw [h]; simp
  · rw [decide_eq_false h]; exact decide_eq_false fun e => h (V.str.inj e)
theorem ev_eqS {i j : Str} (ha : Ev J ta ρ M (.str i)) (hb : Ev J tb ρ M (.str j)) : Ev J (tOp rEq ta tb) ρ M (.bl (decide (i = j))) :=
  w_op1 ha hb (op2_val fun G H vx vy s tx ty => by cases tx; cases ty; exact ⟨_, .bl _, fun Q q => ⟨rfl, by rw [dec_S]; exact q⟩⟩)
theorem ev_neS {i j : Str} (ha : Ev J ta ρ M (.str i)) (hb : Ev J tb ρ M (.str j)) : Ev J (tOp rNe ta tb) ρ M (.bl (!decide (i = j))) :=
  w_op1 ha hb (op2_val fun G H vx vy s tx ty => by cases tx; cases ty; exact ⟨_, .bl _, fun Q q => ⟨rfl, by rw [dec_S]; exact q⟩⟩)
theorem ev_int1 (ha : Ev J ta ρ M (.bl b)) : Ev J (tCB (fun xs H Q => (∃ i, xs = [V.int i] ∧ Q (.int i) H) ∨ ∃ k, xs = [V.bl k] ∧ Q (.int (if k then 1 else 0)) H) (tCons ta tNil)) ρ M (.int (if b then 1 else 0)) :=
  w_cb1 (ea_cons ha ea_nil) (opA_val fun G H vs s tx => by
    cases tx with
    | cons t1 t2 =>
      cases t2
      cases t1
      exact ⟨_, .int _, fun Q q => .inr ⟨b, rfl, q⟩⟩)
end
section
variable {J : Jx} {ta tb : TE} {t : TA} {ρ : Ro} {M M' : Mp} {d : D} {ds : List D} {R : D → Mp → Prop}
/-- a list whose things change the ledger -/
theorem w_lst (h : WA J t ρ M fun ds M1 => ds.length ≤ sizeLine ∧ ∀ p, M1 p = none → R (.ref p) (ud M1 p (.lst ds))) : W J (tLst t) ρ M R := fun G σ H r s xo Q q => h G σ H r s xo _ fun vs ds' G1 M1 H1 e e1 s1 t1 =>
  ⟨by rw [t1.length]; exact e.1, fun p hp => q _ _ G1 _ _ (e.2 p (s1.none_m hp)) e1 (s1.new (m := .lst ds') hp ⟨vs, upd_same, t1⟩) (.ref p)⟩
theorem w_tup (h : WA J t ρ M fun ds M1 => ds.length ≤ sizeLine ∧ R (.tup ds) M1) : W J (tTup t) ρ M R := fun G σ H r s xo Q q => h G σ H r s xo _ fun vs ds' G1 M1 H1 e e1 s1 t1 => by
  refine ⟨by rw [t1.length]; exact e.1, fun p hp => ?_⟩
  obtain ⟨e2, s2⟩ := s1.froz (o := .tup vs) hp
  exact q _ _ _ _ _ e.2 (e1.trans e2) s2 (.tup upd_same (t1.mono e2))
theorem op2_ixL {x z : D} {i : Int} (hx : IsL M x ds) (h : atI ds i = some z) (k : R z M) : Op2 J (rIxL J.K) x (.int i) M R := fun G H vx vy s tx ty Q q => by
  cases ty
  obtain ⟨a, xs, e, h1, h2⟩ := hx.at s tx
  obtain ⟨v, e1, e2⟩ := atI_dt h2 h
  exact ⟨a, xs, i, v, e, rfl, h1, e1, q _ _ G M H k (Same.refl G) s e2⟩
theorem tyN_sub (s : Sub M M') (h : tyN M d ≠ "") : tyN M' d ≠ "" := by
  cases d with
  | ref a =>
    cases e : M a with
    | none => exact absurd (by simp only [tyN, e]) h
    | some o =>
      have e2 := s a o e
      have : tyN M' (.ref a) = tyN M (.ref a) := by simp only [tyN, e, e2]
      rw [this]
      exact h
  | _ => exact h
/-- a thing that tells its type by itself -/
def flatD : D → Bool
  | .ty _ => false
  | .ref _ => false
  | _ => true
theorem tyN_fl (h : flatD d = true) : tyN M d ≠ "" := by
  cases d with
  | non => exact (by decide : "NoneType" ≠ "")
  | bl b => exact (by decide : "bool" ≠ "")
  | int i => exact (by decide : "int" ≠ "")
  | str x => exact (by decide : "str" ≠ "")
  | ty n => cases h
  | ref a => cases h
  | lst ds => exact (by decide : "list" ≠ "")
  | frl ds => exact (by decide : "list" ≠ "")
  | tup ds => exact (by decide : "tuple" ≠ "")
theorem atI_mem {k : Int} (h0 : 0 ≤ k) (h : k < ds.length) : ∃ z, atI ds k = some z ∧ z ∈ ds := by
  have e : ((k.toNat : Nat) : Int) = k := Int.toNat_of_nonneg h0
  have hl : k.toNat < ds.length := by omega
  have q := atI_nat (List.getElem?_eq_getElem hl)
  rw [e] at q
  exact ⟨_, q, List.getElem_mem hl⟩
theorem whole_cases (d : D) : wholeD d = false ∨ ∃ n, d = .int n := by
  cases d with
  | int n => exact .inr ⟨n, rfl⟩
  | _ => exact .inl rfl
end
/-! ### a def that may raise -/
section
open PySem.Spec PyProof.Rows
variable {P : Program} {w : World} {K : PySem.W.Frag} {mg : Str → Option Value} {base : Heap}
theorem fn_dlX {x qual : Str} {st : Stmt} {f : Addr} {fd : FuncData} {N ps : List Str} {k : Nat} {Rf : Pr} (F : Fun K x qual st f fd) (Sc : FnScope N ps (defScope st)) (len : ∀ ds M nx xe, Rf ds M nx xe → ds.length = ps.length)
    (hbody : ∀ (cdv : Value) (A : Around) (outer : List Env) (s : Shared) (H : Hp) (E : XK), Room k (A.deeper (envOfC qual (defScope st) s.heap.objs.size f cdv)) →
      ∃ t, PSs (cxOf (L2.CX P w) P w K mg base N qual (defScope st) f cdv A outer s H E) (defBody st) t ∧ ∀ ds M nx xe, Rf ds M nx xe → S (JX K E xe) t (startD N ds) M { nx := fun _ M' => nx .non M', rt := nx }) : FnOk P w K mg base (L2.CX P w) (k + 1) f fd ps (spD K Rf) := by
  refine F.okX Sc (fun vs H Q E h => ?_) (fun cdv A outer s H vs Q E hr h => ?_)
  · obtain ⟨G, M, ds, nx, xe, hs, hd, hR, _⟩ := h
    rw [hd.length]
    exact len ds M nx xe hR
  · obtain ⟨G, M, ds, nx, xe, hs, hd, hR, kn, kx⟩ := h
    obtain ⟨t, ht, hS⟩ := hbody cdv A outer s H E hr
    refine ⟨t, ht, hS ds M nx xe hR G _ H _ (rel_start N hd) hs (fun c M' G' H' _ _ x e _ s' => kx c M' G' H' x e s') ⟨fun G' σ' ρ' M' H' h1 e1 r1 s1 => ?_, fun G' v d M' H' h1 e1 s1 t1 => kn v d G' M' H' h1 e1 s1 t1, fun G' σ' ρ' M' H' h1 => False.elim h1, fun G' σ' ρ' M' H' h1 => False.elim h1⟩⟩
    exact kn .non .non G' M' H' h1 e1 s1 .non
end
/-! ### more facts of the top -/
inductive Fx where
  | iso (x : Str)
  | kt (x : Str) (n : String) (b : Bool)
  | kr (x y : Str) (b : Bool)
def Fx.ok (K : PySem.W.Frag) : Fx → Bool
  | .iso x =>
    (He.eqO (PySem.W.findIn K (.ref (He.ga K x)) "__getattribute__") (some (some (.builtin "BaseException.__getattribute__"))) && He.eqO (PySem.W.findIn K (.ref (He.ga K x)) "__getattr__") (some none)) &&
    ((decide (PySem.W.subIn K (.ref (He.ga K x)) (.type "BaseException") = some true) && PySem.W.hasDictIn K (He.ga K x)) &&
    ((He.eqO (PySem.W.findIn K (.ref (He.ga K x)) "__class__") (some (some (.builtin "object.__class__"))) && He.eqO (PySem.W.specialIn K (.builtin "object.__class__") "__get__") (some (some (.builtin "getset_descriptor.__get__")))) &&
    (decide (PySem.W.takesIn K (.builtin "object.__class__") = some true) && decide (PySem.W.mroIn K (He.ga K x) (.type "object") = some true))))
  | .kt x n b => decide (PySem.W.kitOne K (.ref (He.ga K x)) (.type n) = some b)
  | .kr x y b => decide (PySem.W.kitOne K (.ref (He.ga K x)) (.ref (He.ga K y)) = some b)
theorem fx_iso {K : PySem.W.Frag} {x : Str} (h : (Fx.iso x).ok K = true) : ExcC K (He.ga K x) := by
  obtain ⟨h1, h2⟩ := Bool.and_eq_true_iff.mp h
  obtain ⟨h2, h3⟩ := Bool.and_eq_true_iff.mp h2
  obtain ⟨h3, h4⟩ := Bool.and_eq_true_iff.mp h3
  obtain ⟨a1, a2⟩ := Bool.and_eq_true_iff.mp h1
  obtain ⟨b1, b2⟩ := Bool.and_eq_true_iff.mp h2
  obtain ⟨c1, c2⟩ := Bool.and_eq_true_iff.mp h3
  obtain ⟨d1, d2⟩ := Bool.and_eq_true_iff.mp h4
  exact ⟨He.eqO_ok a1, He.eqO_ok a2, of_decide_eq_true b1, b2, He.eqO_ok c1, He.eqO_ok c2, of_decide_eq_true d1, of_decide_eq_true d2⟩
/-- the head's facts and these -/
def hookW (n : Nat) (fa : List He.Fa) (fn : List He.FnD) (fx : List Fx) : PySem.W.Hook where
  α := He.Al × Bool
  obs := fun s => (He.obsG n fa fn s.heap.get?, fx.all fun f => f.ok (He.frG s.heap.get? (He.asG s.heap.get? n)))
  val := fun _ => (He.valE fn, true)
  says := fun _ h => ∃ K : PySem.W.Frag, K.In h ∧ He.SaysE fa fn K ∧ (fx.all fun f => f.ok K) = true
  of := fun _ _ e => ⟨_, He.frG_in, (Prod.mk.inj e).1, (Prod.mk.inj e).2⟩
  keeps := fun _ _ _ h k => by
    obtain ⟨K, hK, c⟩ := h
    exact ⟨K, PySem.W.Frag.In.keeps hK k, c⟩
def obsW (n : Nat) (fa : List He.Fa) (fn : List He.FnD) (fx : List Fx) (g : Addr → Option Obj) : He.Al × Bool := (He.obsG n fa fn g, fx.all fun f => f.ok (He.frG g (He.asG g n)))
theorem obsW_eq {n : Nat} {fa : List He.Fa} {fn : List He.FnD} {fx : List Fx} {g : Addr → Option Obj} {s : Shared} (h : ∀ a, g a = s.heap.get? a) : obsW n fa fn fx g = (hookW n fa fn fx).obs s := by
  have e : g = s.heap.get? := funext h
  rw [e]
  rfl
end DL

namespace DL
open PySem L2
/-! ### things that are none -/
theorem kit_tl (M : Mp) (x : D) (h : tyN M x ≠ "") : kitB (tyN M x) "tuple" = some (decide (tyN M x = "tuple")) ∧ kitB (tyN M x) "list" = some (decide (tyN M x = "list")) ∧ kitB2 (tyN M x) "list" "tuple" = some (decide (tyN M x = "list") || decide (tyN M x = "tuple")) := by
  have g : ∀ s : String, tyN M x = s → kitB s "tuple" = some (decide (s = "tuple")) → kitB s "list" = some (decide (s = "list")) → kitB2 s "list" "tuple" = some (decide (s = "list") || decide (s = "tuple")) → kitB (tyN M x) "tuple" = some (decide (tyN M x = "tuple")) ∧ kitB (tyN M x) "list" = some (decide (tyN M x = "list")) ∧ kitB2 (tyN M x) "list" "tuple" = some (decide (tyN M x = "list") || decide (tyN M x = "tuple")) := fun s e h1 h2 h3 => by
    rw [e]
    exact ⟨h1, h2, h3⟩
  cases x with
  | non => exact g "NoneType" rfl (by decide +kernel) (by decide +kernel) (by decide +kernel)
  | bl b => exact g "bool" rfl (by decide +kernel) (by decide +kernel) (by decide +kernel)
  | int i => exact g "int" rfl (by decide +kernel) (by decide +kernel) (by decide +kernel)
  | str s => exact g "str" rfl (by decide +kernel) (by decide +kernel) (by decide +kernel)
  | ty n => exact absurd rfl h
  | lst ds => exact g "list" rfl (by decide +kernel) (by decide +kernel) (by decide +kernel)
  | frl ds => exact g "list" rfl (by decide +kernel) (by decide +kernel) (by decide +kernel)
  | tup ds => exact g "tuple" rfl (by decide +kernel) (by decide +kernel) (by decide +kernel)
  | ref a =>
    cases e : M a with
    | none => exact absurd (by simp only [tyN, e]) h
    | some o =>
      cases o with
      | lst ds => exact g "list" (by simp only [tyN, e]) (by decide +kernel) (by decide +kernel) (by decide +kernel)
      | dct kvs => exact g "dict" (by simp only [tyN, e]) (by decide +kernel) (by decide +kernel) (by decide +kernel)
      | ins C fs => exact absurd (by simp only [tyN, e]) h
      | dcl od ws kvs => exact absurd (by simp only [tyN, e]) h
/-- a column of a table of that width -/
def colB (w : Int) : D → Bool
  | .int n => decide (0 ≤ n) && decide (n < w)
  | _ => false
def endB : D → Bool
  | .non => true
  | .int _ => true
  | _ => false
/-- a triple -/
def tripB (w : Int) : D → Bool
  | .tup [c, l, h] => colB w c && (endB l && endB h)
  | _ => false
theorem endB_eq (x : D) : endB x = (isNon x || wholeD x) := by cases x <;> rfl
theorem colB_cases (w : Int) (d : D) : colB w d = false ∨ ∃ n, d = .int n ∧ 0 ≤ n ∧ n < w := by
  cases d with
  | int n =>
    by_cases h : 0 ≤ n ∧ n < w
    · exact .inr ⟨n, rfl, h.1, h.2⟩
    · refine .inl ?_
      show (decide (0 ≤ n) && decide (n < w)) = false
      rw [Bool.eq_false_iff]
      intro z
      rw [Bool.and_eq_true] at z
      exact h ⟨of_decide_eq_true z.1, of_decide_eq_true z.2⟩
  | _ => exact .inl rfl
theorem cols_of {w : Int} : ∀ {ds : List D}, (∀ d ∈ ds, colB w d = true) → ∃ cols : List Int, ds = cols.map .int ∧ ∀ c ∈ cols, 0 ≤ c ∧ c < w
  | [], _ => ⟨[], rfl, fun c hc => (nomatch hc)⟩
  | d :: ds, h => by
    obtain ⟨cols, e, hc⟩ := cols_of (ds := ds) fun x hx => h x (List.mem_cons_of_mem _ hx)
    rcases colB_cases w d with h1 | ⟨n, rfl, h0, h1⟩
    · rw [h d List.mem_cons_self] at h1; cases h1
    · refine ⟨n :: cols, by rw [e]; rfl, fun c hc' => ?_⟩
      rcases List.mem_cons.mp hc' with rfl | hc'
      · exact ⟨h0, h1⟩
      · exact hc c hc'
theorem ints_of : ∀ {ds : List D}, (∀ d ∈ ds, wholeD d = true) → ∃ r : List Int, ds = r.map .int
  | [], _ => ⟨[], rfl⟩
  | d :: ds, h => by
    obtain ⟨r, e⟩ := ints_of (ds := ds) fun x hx => h x (List.mem_cons_of_mem _ hx)
    rcases whole_cases d with h1 | ⟨n, rfl⟩
    · rw [h d List.mem_cons_self] at h1; cases h1
    · exact ⟨n :: r, by rw [e]; rfl⟩
theorem all_or {α : Type} (f : α → Bool) (l : List α) : (∃ x ∈ l, f x = false) ∨ ∀ x ∈ l, f x = true := by
  by_cases h : ∃ x ∈ l, f x = false
  · exact .inl h
  · refine .inr fun x hx => ?_
    cases q : f x with
    | true => rfl
    | false => exact absurd ⟨x, hx, q⟩ h
/-- what is no width -/
def WidBad (M : Mp) (x : D) : Prop := tyN M x ≠ "" ∧ ∀ w, x = .int w → ¬ (1 ≤ w ∧ w ≤ 6)
/-- what is no row -/
def RowBad (M : Mp) (w : Int) (x : D) : Prop := (tyN M x ≠ "" ∧ tyN M x ≠ "list" ∧ tyN M x ≠ "tuple") ∨ ∃ ds, IsQ M x ds ∧ (∀ d ∈ ds, tyN M d ≠ "") ∧ ((ds.length : Int) ≠ w ∨ (ds.length : Int) = w ∧ ∃ d ∈ ds, wholeD d = false)
/-- what is no order -/
def OrdBad (M : Mp) (w : Int) (x : D) : Prop := (tyN M x ≠ "" ∧ tyN M x ≠ "tuple") ∨ ∃ ds, x = .tup ds ∧ (∀ d ∈ ds, tyN M d ≠ "") ∧ (ds = [] ∨ (∃ d ∈ ds, colB w d = false) ∨ ∃ cols : List Int, ds = cols.map .int ∧ (∀ c ∈ cols, 0 ≤ c ∧ c < w) ∧ cols.length ≤ 1000 ∧ ¬ cols.Nodup)
/-- what is no wish -/
def TripTy (M : Mp) (x : D) : Prop := tyN M x ≠ "" ∧ ∀ ds, x = .tup ds → ∀ d ∈ ds, tyN M d ≠ ""
def WishBad (M : Mp) (w : Int) (x : D) : Prop := (tyN M x ≠ "" ∧ tyN M x ≠ "list") ∨ ∃ ds, IsM M x ds ∧ (ds.length > 20 ∨ ds.length ≤ 20 ∧ (∀ d ∈ ds, TripTy M d) ∧ ∃ d ∈ ds, tripB w d = false)
/-! plain data -/
def plainD : Nat → D → Bool
  | _, .non => true
  | _, .bl _ => true
  | _, .int _ => true
  | _, .str x => PyData.strOk x
  | n + 1, .lst ds => ds.all (plainD n)
  | n + 1, .tup ds => ds.all (plainD n)
  | _, _ => false
theorem plain_all {n : Nat} (ih : ∀ d, plainD n d = true → okPy d = true ∧ PyData.canLay0 (toPy d) = true ∧ (toPy d).depth ≤ n + 1) : ∀ ds : List D, ds.all (plainD n) = true → okPys ds = true ∧ PyData.canLayAll0 (toPys ds) = true ∧ PyData.depthAll (toPys ds) ≤ n + 1
  | [], _ => by
    unfold okPys toPys PyData.canLayAll0 PyData.depthAll
    exact ⟨rfl, rfl, Nat.zero_le _⟩
  | d :: ds, h => by
    rw [List.all_cons, Bool.and_eq_true] at h
    obtain ⟨a1, a2, a3⟩ := ih d h.1
    obtain ⟨b1, b2, b3⟩ := plain_all ih ds h.2
    unfold okPys toPys PyData.canLayAll0 PyData.depthAll
    exact ⟨by rw [a1, b1]; rfl, by rw [a2, b2]; rfl, Nat.max_le.mpr ⟨a3, b3⟩⟩
theorem plain_ok : ∀ (n : Nat) (d : D), plainD n d = true → okPy d = true ∧ PyData.canLay0 (toPy d) = true ∧ (toPy d).depth ≤ n + 1 := fun n => by
  induction n with
  | zero =>
    intro d h
    cases d with
    | non => exact ⟨by unfold okPy; rfl, by unfold toPy; rfl, by unfold toPy PyData.depth; omega⟩
    | bl b => exact ⟨by unfold okPy; rfl, by unfold toPy; rfl, by unfold toPy PyData.depth; omega⟩
    | int i => exact ⟨by unfold okPy; rfl, by unfold toPy; rfl, by unfold toPy PyData.depth; omega⟩
    | str x => exact ⟨by unfold okPy; rfl, by unfold toPy PyData.canLay0; exact h, by unfold toPy PyData.depth; omega⟩
    | _ => cases h
  | succ n ih =>
    intro d h
    cases d with
    | non => exact ⟨by unfold okPy; rfl, by unfold toPy; rfl, by unfold toPy PyData.depth; omega⟩
    | bl b => exact ⟨by unfold okPy; rfl, by unfold toPy; rfl, by unfold toPy PyData.depth; omega⟩
    | int i => exact ⟨by unfold okPy; rfl, by unfold toPy; rfl, by unfold toPy PyData.depth; omega⟩
    | str x => exact ⟨by unfold okPy; rfl, by unfold toPy PyData.canLay0; exact h, by unfold toPy PyData.depth; omega⟩
    | lst ds =>
      obtain ⟨h1, h2, h3⟩ := plain_all ih ds h
      exact ⟨by unfold okPy; exact h1, by unfold toPy PyData.canLay0; exact h2, by unfold toPy PyData.depth; omega⟩
    | tup ds =>
      obtain ⟨h1, h2, h3⟩ := plain_all ih ds h
      exact ⟨by unfold okPy; exact h1, by unfold toPy PyData.canLay0; exact h2, by unfold toPy PyData.depth; omega⟩
    | _ => cases h
theorem plain_ty {n : Nat} {d : D} {M : Mp} (h : plainD n d = true) : tyN M d ≠ "" := by
  cases d with
  | ty x => cases n <;> cases h
  | ref a => cases n <;> cases h
  | _ => exact tyN_fl rfl
theorem plain_tys {n : Nat} {ds : List D} {M : Mp} (h : plainD (n + 1) (.tup ds) = true) : ∀ d ∈ ds, tyN M d ≠ "" := fun d hd => plain_ty (n := n) (List.all_eq_true.mp h d hd)
/-- what is an order of a table of that width -/
def colsOf (ds : List D) : List Int := ds.map fun d => match d with
  | .int n => n
  | _ => 0
theorem colsOf_ints (cols : List Int) : colsOf (cols.map .int) = cols := by
  unfold colsOf
  rw [List.map_map]
  conv => rhs; rw [← List.map_id cols]
  rfl
def ordB (w : Int) : D → Bool
  | .tup ds => !ds.isEmpty && (ds.all (colB w) && decide (colsOf ds).Nodup)
  | _ => false
theorem ord_cases {n : Nat} {w : Int} {x : D} (M : Mp) (h : plainD (n + 1) x = true) (hl : ∀ ds, x = .tup ds → ds.length ≤ 1000) : (ordB w x = false ∧ OrdBad M w x) ∨ (ordB w x = true ∧ ∃ cols : List Int, x = .tup (cols.map .int) ∧ (∀ c ∈ cols, 0 ≤ c ∧ c < w) ∧ cols.Nodup ∧ cols ≠ []) := by
  have key : ∀ ds, x = .tup ds → (ordB w x = false ∧ OrdBad M w x) ∨ (ordB w x = true ∧ ∃ cols : List Int, x = .tup (cols.map .int) ∧ (∀ c ∈ cols, 0 ≤ c ∧ c < w) ∧ cols.Nodup ∧ cols ≠ []) := fun ds e => by
    have ht := plain_tys (M := M) (by rw [← e]; exact h)
    have hl := hl ds e
    have eb : ordB w x = (!ds.isEmpty && (ds.all (colB w) && decide (colsOf ds).Nodup)) := by rw [e]; rfl
    rw [eb]
    by_cases h0 : ds = []
    · exact .inl ⟨by rw [h0]; rfl, .inr ⟨ds, e, ht, .inl h0⟩⟩
    have he : ds.isEmpty = false := by
      cases ds with
      | nil => exact absurd rfl h0
      | cons a l => rfl
    rcases all_or (colB w) ds with h1 | h1
    · refine .inl ⟨?_, .inr ⟨ds, e, ht, .inr (.inl h1)⟩⟩
      have : ds.all (colB w) = false := by
        rw [List.all_eq_false]
        obtain ⟨d, hd, hb⟩ := h1
        exact ⟨d, hd, by rw [hb]; exact Bool.false_ne_true⟩
      rw [this, Bool.false_and, Bool.and_false]
    have ha : ds.all (colB w) = true := List.all_eq_true.mpr h1
    obtain ⟨cols, ec, hc⟩ := cols_of h1
    rw [he, ha, ec, colsOf_ints]
    by_cases h2 : cols.Nodup
    · exact .inr ⟨by rw [decide_eq_true h2]; rfl, cols, by rw [e, ec], hc, h2, fun z => h0 (by rw [ec, z]; rfl)⟩
    · exact .inl ⟨by rw [decide_eq_false h2]; rfl, .inr ⟨ds, e, ht, .inr (.inr ⟨cols, ec, hc, by rw [ec, List.length_map] at hl; exact hl, h2⟩)⟩⟩
  cases x with
  | tup ds => exact key ds rfl
  | non => exact .inl ⟨rfl, .inl ⟨tyN_fl rfl, (by decide : "NoneType" ≠ "tuple")⟩⟩
  | bl b => exact .inl ⟨rfl, .inl ⟨tyN_fl rfl, (by decide : "bool" ≠ "tuple")⟩⟩
  | int i => exact .inl ⟨rfl, .inl ⟨tyN_fl rfl, (by decide : "int" ≠ "tuple")⟩⟩
  | str s => exact .inl ⟨rfl, .inl ⟨tyN_fl rfl, (by decide : "str" ≠ "tuple")⟩⟩
  | lst ds => exact .inl ⟨rfl, .inl ⟨tyN_fl rfl, (by decide : "list" ≠ "tuple")⟩⟩
  | frl ds => exact .inl ⟨rfl, .inl ⟨tyN_fl rfl, (by decide : "list" ≠ "tuple")⟩⟩
  | ty m => cases h
  | ref a => cases h
section
variable {J : Jx} {te ta tb : TE} {ρ : Ro} {M : Mp} {x y : D} {R : D → Mp → Prop}
/-- x in xs, where the answer is of no matter -/
theorem w_inP {α : Type} [DecidableEq α] (cc : Cd α) {n : Nat} {l : List α} (ha : Ev J ta ρ M x) (hb : Ev J tb ρ M y) (hx : plainD n x = true) (hn : n ≤ 60) (hy : Vw M y ((cL cc).d l)) (hd : cc.dep < 64) (k : ∀ b, R (.bl b) M) : W J (tOp (rInD J.K) ta tb) ρ M R :=
  w_op1 ha hb fun G H vx vy s tx ty Q q => by
    obtain ⟨h1, h2, h3⟩ := plain_ok n x hx
    refine ⟨toPy x, toPys (l.map cc.d), dp_of s.sub tx h1, ?_, ?_, ?_, q _ _ G M H (k _) (Same.refl G) s (.bl _)⟩
    · have := hy.dp s ty ((cL cc).ok l)
      rw [toPy_L] at this
      exact this
    · unfold SeqAt.shaped
      rw [h2, Bool.true_and]
      exact decide_eq_true (by omega)
    · have := shaped_of (cL cc) (show (cL cc).dep ≤ 64 from hd) l
      rw [toPy_L] at this
      exact this
theorem wt_test {te : TE} {R : Bool → Mp → Prop} (h : W J te ρ M fun d M' => ∃ b, d = .bl b ∧ R b M') : WT J (tTest te) ρ M R := fun G σ H r s xo Q q => h G σ H r s xo _ fun v d G' M' H' e e1 s1 t1 => by
  obtain ⟨b, rfl, e⟩ := e
  cases t1
  exact ⟨b, rfl, q b G' M' H' e e1 s1⟩
theorem op2_neI {i j : Int} (h : R (.bl (!decide (i = j))) M) : Op2 J rNe (.int i) (.int j) M R := fun G H vx vy s tx ty Q q => by
  cases tx
  cases ty
  exact ⟨rfl, by rw [dec_I]; exact q _ _ G M H h (Same.refl G) s (.bl _)⟩
theorem op2_neS {i j : Str} (h : R (.bl (!decide (i = j))) M) : Op2 J rNe (.str i) (.str j) M R := fun G H vx vy s tx ty Q q => by
  cases tx
  cases ty
  exact ⟨rfl, by rw [dec_S]; exact q _ _ G M H h (Same.refl G) s (.bl _)⟩
theorem Sub.del {M M' : Mp} {a : Addr} (s : Sub M M') (h : M a = none) : Sub M (DL.del M' a) := fun b o e => by
  have hb : b ≠ a := fun z => by rw [z, h] at e; cases e
  unfold DL.del
  rw [if_neg hb]
  exact s b o e
/-- C(..) that may raise: what was made is forgotten -/
theorem w_makeXw {Rf : Pr} {K : PySem.W.Frag} {E : XK} {xe : Addr → Mp → Prop} {t : TA} {ds : List D} {C : Addr} (ha : EvA (JX K E xe) t ρ M ds) (k : ∀ p, M p = none → Rf (.ref p :: ds) (ud M p (.ins C [])) (fun d M' => d = .non ∧ R (.ref p) M') (fun c M' => ∃ M2, Sub M2 M' ∧ xe c M2)) : W (JX K E xe) (tMake C (spD K Rf) [] E t) ρ M R := fun G σ H r s xo Q q =>
  ha G σ H r s xo _ fun vs ds' G1 M1 H1 e e1 s1 t1 p dx hp hdx hne => by
    obtain ⟨rfl, rfl⟩ := e
    have s2 := s1.junk (o := .own p) hdx
    have hp2 : (upd H1 dx (.own p)) p = none := by rw [upd_ne (fun z => hne z.symm)]; exact hp
    have s3 := s2.new (o := .ins C dx []) (m := .ins C []) hp2 ⟨dx, [], upd_same, rfl, .nil⟩
    rw [List.append_nil]
    refine ⟨G1, _, _, _, _, s3, .cons (.ref p) t1, k p (s1.none_m hp), fun v d G' M' H' h' e' s' t' => ?_, fun c M' G' H' x s' kk => ?_⟩
    · obtain ⟨rfl, h'⟩ := h'
      cases t'
      exact ⟨rfl, q _ _ G' M' H' h' (e1.trans e') s' (.ref p)⟩
    · obtain ⟨M2, l, x⟩ := x
      exact xo c M2 G' H' σ ρ x (e1.trans s') (r.mono (e1.trans s')) (kk.less l)
/-- a part of a text -/
theorem ev_slS {tl th : TO} {z : Str} {lo hi : Option Int} (h : Ev J te ρ M (.str z)) (h1 : EvO J tl ρ M lo) (h2 : EvO J th ρ M hi) (hz : z.length ≤ sizeLine) : Ev J (tSl rSlS te tl th) ρ M (.str (cutS z lo hi)) := fun G σ H r s xo Q q =>
  h G σ H r s xo _ fun v d G1 M1 H1 e e1 s1 t1 => by
    obtain ⟨rfl, rfl⟩ := e
    cases t1
    refine h1 G1 σ H1 (r.mono e1) s1 (xo.mono e1) _ fun G2 H2 e2 s2 => h2 G2 σ H2 (r.mono (e1.trans e2)) s2 (xo.mono (e1.trans e2)) _ fun G3 H3 e3 s3 => ?_
    exact ⟨z, rfl, hz, q _ _ G3 _ _ ⟨rfl, rfl⟩ ((e1.trans e2).trans e3) s3 (.str _)⟩
end
end DL

namespace Wb
open PySem L2 DL
def top (i : Nat) : Stmt := PySem.Challenge.pw_waybook_k08_refused.main.body.getD i (.Pass ⟨0, 0, 0, 0⟩)
abbrev s_less : Stmt := top 10
abbrev s_below : Stmt := top 11
abbrev s_is_whole : Stmt := top 14
abbrev s_is_end : Stmt := top 15
abbrev s_is_triple : Stmt := top 16
abbrev s_need_wish : Stmt := top 17
abbrev s_within : Stmt := top 18
abbrev s_fits : Stmt := top 19
abbrev s_greater_end : Stmt := top 20
abbrev s_lesser_end : Stmt := top 21
abbrev s_merged : Stmt := top 22
abbrev s_Kept_init : Stmt := inClass (top 24) 0
abbrev s_Kept_entry : Stmt := inClass (top 24) 1
abbrev s_Kept_put : Stmt := inClass (top 24) 2
abbrev s_Kept_drop : Stmt := inClass (top 24) 3
abbrev s_Kept_numbers : Stmt := inClass (top 24) 4
abbrev s_Kept_covers : Stmt := inClass (top 24) 5
abbrev s_Kept_between : Stmt := inClass (top 24) 7
abbrev s_Kept_stretch : Stmt := inClass (top 24) 6
abbrev s_Table_init : Stmt := inClass (top 29) 0
abbrev s_Table_need_row : Stmt := inClass (top 29) 1
abbrev s_Table_put : Stmt := inClass (top 29) 2
abbrev s_Table_drop : Stmt := inClass (top 29) 3
abbrev s_Table_change : Stmt := inClass (top 29) 4
abbrev s_Table_row : Stmt := inClass (top 29) 5
abbrev s_Table_numbers : Stmt := inClass (top 29) 6
abbrev s_Table_need_order : Stmt := inClass (top 29) 7
abbrev s_Table_place_of : Stmt := inClass (top 29) 8
abbrev s_Table_orders : Stmt := inClass (top 29) 11
abbrev s_Table_tell : Stmt := inClass (top 29) 9
abbrev s_Table_forget : Stmt := inClass (top 29) 10
abbrev s_Table_listed : Stmt := inClass (top 29) 12
abbrev s_Table_costs : Stmt := inClass (top 29) 13
abbrev s_Table_plan : Stmt := inClass (top 29) 14
abbrev s_Table_walked : Stmt := inClass (top 29) 15
abbrev s_Table_ask_by : Stmt := inClass (top 29) 16
abbrev s_Table_ask : Stmt := inClass (top 29) 17
abbrev s_l_at : Stmt := top 31
abbrev s_l_act : Stmt := top 32
abbrev s_l_said : Stmt := top 33
abbrev s_l_any : Stmt := top 34
abbrev s_l_width : Stmt := top 35
abbrev s_l_row : Stmt := top 36
abbrev s_l_order : Stmt := top 37
abbrev s_l_good_order : Stmt := top 38
abbrev s_l_wish : Stmt := top 39
abbrev s_l_good_wish : Stmt := top 40
abbrev s_l_state : Stmt := top 41
abbrev s_l_holds : Stmt := top 42
abbrev s_l_changed : Stmt := top 43
abbrev s_l_full : Stmt := top 44
abbrev s_l_asked : Stmt := top 45
abbrev s_l_put : Stmt := top 46
abbrev s_l_wished : Stmt := top 47
abbrev s_law : Stmt := top 48
abbrev dd_less : He.FnD := ⟨("less", none), "less", "less", defArgs s_less, defBody s_less, defScope s_less⟩
abbrev dd_below : He.FnD := ⟨("below", none), "below", "below", defArgs s_below, defBody s_below, defScope s_below⟩
abbrev dd_is_whole : He.FnD := ⟨("is_whole", none), "is_whole", "is_whole", defArgs s_is_whole, defBody s_is_whole, defScope s_is_whole⟩
abbrev dd_is_end : He.FnD := ⟨("is_end", none), "is_end", "is_end", defArgs s_is_end, defBody s_is_end, defScope s_is_end⟩
abbrev dd_is_triple : He.FnD := ⟨("is_triple", none), "is_triple", "is_triple", defArgs s_is_triple, defBody s_is_triple, defScope s_is_triple⟩
abbrev dd_need_wish : He.FnD := ⟨("need_wish", none), "need_wish", "need_wish", defArgs s_need_wish, defBody s_need_wish, defScope s_need_wish⟩
abbrev dd_within : He.FnD := ⟨("within", none), "within", "within", defArgs s_within, defBody s_within, defScope s_within⟩
abbrev dd_fits : He.FnD := ⟨("fits", none), "fits", "fits", defArgs s_fits, defBody s_fits, defScope s_fits⟩
abbrev dd_greater_end : He.FnD := ⟨("greater_end", none), "greater_end", "greater_end", defArgs s_greater_end, defBody s_greater_end, defScope s_greater_end⟩
abbrev dd_lesser_end : He.FnD := ⟨("lesser_end", none), "lesser_end", "lesser_end", defArgs s_lesser_end, defBody s_lesser_end, defScope s_lesser_end⟩
abbrev dd_merged : He.FnD := ⟨("merged", none), "merged", "merged", defArgs s_merged, defBody s_merged, defScope s_merged⟩
abbrev dd_Kept_init : He.FnD := ⟨("Kept", some "__init__"), "__init__", "Kept.__init__", defArgs s_Kept_init, defBody s_Kept_init, defScope s_Kept_init⟩
abbrev dd_Kept_entry : He.FnD := ⟨("Kept", some "entry"), "entry", "Kept.entry", defArgs s_Kept_entry, defBody s_Kept_entry, defScope s_Kept_entry⟩
abbrev dd_Kept_put : He.FnD := ⟨("Kept", some "put"), "put", "Kept.put", defArgs s_Kept_put, defBody s_Kept_put, defScope s_Kept_put⟩
abbrev dd_Kept_drop : He.FnD := ⟨("Kept", some "drop"), "drop", "Kept.drop", defArgs s_Kept_drop, defBody s_Kept_drop, defScope s_Kept_drop⟩
abbrev dd_Kept_numbers : He.FnD := ⟨("Kept", some "numbers"), "numbers", "Kept.numbers", defArgs s_Kept_numbers, defBody s_Kept_numbers, defScope s_Kept_numbers⟩
abbrev dd_Kept_covers : He.FnD := ⟨("Kept", some "covers"), "covers", "Kept.covers", defArgs s_Kept_covers, defBody s_Kept_covers, defScope s_Kept_covers⟩
abbrev dd_Kept_between : He.FnD := ⟨("Kept", some "between"), "between", "Kept.between", defArgs s_Kept_between, defBody s_Kept_between, defScope s_Kept_between⟩
abbrev dd_Kept_stretch : He.FnD := ⟨("Kept", some "stretch"), "stretch", "Kept.stretch", defArgs s_Kept_stretch, defBody s_Kept_stretch, defScope s_Kept_stretch⟩
abbrev dd_Table_init : He.FnD := ⟨("Table", some "__init__"), "__init__", "Table.__init__", defArgs s_Table_init, defBody s_Table_init, defScope s_Table_init⟩
abbrev dd_Table_need_row : He.FnD := ⟨("Table", some "need_row"), "need_row", "Table.need_row", defArgs s_Table_need_row, defBody s_Table_need_row, defScope s_Table_need_row⟩
abbrev dd_Table_put : He.FnD := ⟨("Table", some "put"), "put", "Table.put", defArgs s_Table_put, defBody s_Table_put, defScope s_Table_put⟩
abbrev dd_Table_drop : He.FnD := ⟨("Table", some "drop"), "drop", "Table.drop", defArgs s_Table_drop, defBody s_Table_drop, defScope s_Table_drop⟩
abbrev dd_Table_change : He.FnD := ⟨("Table", some "change"), "change", "Table.change", defArgs s_Table_change, defBody s_Table_change, defScope s_Table_change⟩
abbrev dd_Table_row : He.FnD := ⟨("Table", some "row"), "row", "Table.row", defArgs s_Table_row, defBody s_Table_row, defScope s_Table_row⟩
abbrev dd_Table_numbers : He.FnD := ⟨("Table", some "numbers"), "numbers", "Table.numbers", defArgs s_Table_numbers, defBody s_Table_numbers, defScope s_Table_numbers⟩
abbrev dd_Table_need_order : He.FnD := ⟨("Table", some "need_order"), "need_order", "Table.need_order", defArgs s_Table_need_order, defBody s_Table_need_order, defScope s_Table_need_order⟩
abbrev dd_Table_place_of : He.FnD := ⟨("Table", some "place_of"), "place_of", "Table.place_of", defArgs s_Table_place_of, defBody s_Table_place_of, defScope s_Table_place_of⟩
abbrev dd_Table_orders : He.FnD := ⟨("Table", some "orders"), "orders", "Table.orders", defArgs s_Table_orders, defBody s_Table_orders, defScope s_Table_orders⟩
abbrev dd_Table_tell : He.FnD := ⟨("Table", some "tell"), "tell", "Table.tell", defArgs s_Table_tell, defBody s_Table_tell, defScope s_Table_tell⟩
abbrev dd_Table_forget : He.FnD := ⟨("Table", some "forget"), "forget", "Table.forget", defArgs s_Table_forget, defBody s_Table_forget, defScope s_Table_forget⟩
abbrev dd_Table_listed : He.FnD := ⟨("Table", some "listed"), "listed", "Table.listed", defArgs s_Table_listed, defBody s_Table_listed, defScope s_Table_listed⟩
abbrev dd_Table_costs : He.FnD := ⟨("Table", some "costs"), "costs", "Table.costs", defArgs s_Table_costs, defBody s_Table_costs, defScope s_Table_costs⟩
abbrev dd_Table_plan : He.FnD := ⟨("Table", some "plan"), "plan", "Table.plan", defArgs s_Table_plan, defBody s_Table_plan, defScope s_Table_plan⟩
abbrev dd_Table_walked : He.FnD := ⟨("Table", some "walked"), "walked", "Table.walked", defArgs s_Table_walked, defBody s_Table_walked, defScope s_Table_walked⟩
abbrev dd_Table_ask_by : He.FnD := ⟨("Table", some "ask_by"), "ask_by", "Table.ask_by", defArgs s_Table_ask_by, defBody s_Table_ask_by, defScope s_Table_ask_by⟩
abbrev dd_Table_ask : He.FnD := ⟨("Table", some "ask"), "ask", "Table.ask", defArgs s_Table_ask, defBody s_Table_ask, defScope s_Table_ask⟩
abbrev dd_l_at : He.FnD := ⟨("_law_at", none), "_law_at", "_law_at", defArgs s_l_at, defBody s_l_at, defScope s_l_at⟩
abbrev dd_l_act : He.FnD := ⟨("_law_act", none), "_law_act", "_law_act", defArgs s_l_act, defBody s_l_act, defScope s_l_act⟩
abbrev dd_l_said : He.FnD := ⟨("_law_said", none), "_law_said", "_law_said", defArgs s_l_said, defBody s_l_said, defScope s_l_said⟩
abbrev dd_l_any : He.FnD := ⟨("_law_any", none), "_law_any", "_law_any", defArgs s_l_any, defBody s_l_any, defScope s_l_any⟩
abbrev dd_l_width : He.FnD := ⟨("_law_width", none), "_law_width", "_law_width", defArgs s_l_width, defBody s_l_width, defScope s_l_width⟩
abbrev dd_l_row : He.FnD := ⟨("_law_row", none), "_law_row", "_law_row", defArgs s_l_row, defBody s_l_row, defScope s_l_row⟩
abbrev dd_l_order : He.FnD := ⟨("_law_order", none), "_law_order", "_law_order", defArgs s_l_order, defBody s_l_order, defScope s_l_order⟩
abbrev dd_l_good_order : He.FnD := ⟨("_law_good_order", none), "_law_good_order", "_law_good_order", defArgs s_l_good_order, defBody s_l_good_order, defScope s_l_good_order⟩
abbrev dd_l_wish : He.FnD := ⟨("_law_wish", none), "_law_wish", "_law_wish", defArgs s_l_wish, defBody s_l_wish, defScope s_l_wish⟩
abbrev dd_l_good_wish : He.FnD := ⟨("_law_good_wish", none), "_law_good_wish", "_law_good_wish", defArgs s_l_good_wish, defBody s_l_good_wish, defScope s_l_good_wish⟩
abbrev dd_l_state : He.FnD := ⟨("_law_state", none), "_law_state", "_law_state", defArgs s_l_state, defBody s_l_state, defScope s_l_state⟩
abbrev dd_l_holds : He.FnD := ⟨("_law_holds", none), "_law_holds", "_law_holds", defArgs s_l_holds, defBody s_l_holds, defScope s_l_holds⟩
abbrev dd_l_changed : He.FnD := ⟨("_law_changed", none), "_law_changed", "_law_changed", defArgs s_l_changed, defBody s_l_changed, defScope s_l_changed⟩
abbrev dd_l_full : He.FnD := ⟨("_law_full", none), "_law_full", "_law_full", defArgs s_l_full, defBody s_l_full, defScope s_l_full⟩
abbrev dd_l_asked : He.FnD := ⟨("_law_asked", none), "_law_asked", "_law_asked", defArgs s_l_asked, defBody s_l_asked, defScope s_l_asked⟩
abbrev dd_l_put : He.FnD := ⟨("_law_put", none), "_law_put", "_law_put", defArgs s_l_put, defBody s_l_put, defScope s_l_put⟩
abbrev dd_l_wished : He.FnD := ⟨("_law_wished", none), "_law_wished", "_law_wished", defArgs s_l_wished, defBody s_l_wished, defScope s_l_wished⟩
abbrev dd_law : He.FnD := ⟨("law", none), "law", "law", defArgs s_law, defBody s_law, defScope s_law⟩
def fn : List He.FnD := [dd_less, dd_below, dd_is_whole, dd_is_end, dd_is_triple, dd_need_wish, dd_within, dd_fits, dd_greater_end, dd_lesser_end, dd_merged, dd_Kept_init, dd_Kept_entry, dd_Kept_put, dd_Kept_drop, dd_Kept_numbers, dd_Kept_covers, dd_Kept_between, dd_Kept_stretch, dd_Table_init, dd_Table_need_row, dd_Table_put, dd_Table_drop, dd_Table_change, dd_Table_row, dd_Table_numbers, dd_Table_need_order, dd_Table_place_of, dd_Table_orders, dd_Table_tell, dd_Table_forget, dd_Table_listed, dd_Table_costs, dd_Table_plan, dd_Table_walked, dd_Table_ask_by, dd_Table_ask, dd_l_at, dd_l_act, dd_l_said, dd_l_any, dd_l_width, dd_l_row, dd_l_order, dd_l_good_order, dd_l_wish, dd_l_good_wish, dd_l_state, dd_l_holds, dd_l_changed, dd_l_full, dd_l_asked, dd_l_put, dd_l_wished, dd_law]
def fa : List He.Fa := [.free "zip", .free "len", .free "int", .free "isinstance", .free "bool", .free "tuple", .free "list", .int "MOST_TRIPLES" 20, .exc "BadWish", .glo "BadWish", .free "max", .free "min", .free "sorted", .cls "Kept", .meth "Kept" "entry", .meth "Kept" "between", .int "MOST_WIDTH" 6, .exc "BadWidth", .glo "BadWidth", .exc "NoRow", .glo "NoRow", .exc "BadRow", .glo "BadRow", .int "MOST_ROWS" 200, .exc "Full", .glo "Full", .meth "Kept" "put", .cls "Table", .meth "Table" "need_row", .meth "Kept" "drop", .exc "BadColumn", .glo "BadColumn", .exc "BadOrder", .glo "BadOrder", .free "set", .meth "Table" "need_order", .free "enumerate", .meth "Table" "orders", .int "MOST_ORDERS" 8, .mkr "Kept", .glo "Kept", .meth "Table" "numbers", .meth "Table" "place_of", .meth "Kept" "numbers", .meth "Kept" "stretch", .meth "Kept" "covers", .meth "Table" "costs", .meth "Table" "walked", .meth "Table" "plan", .meth "Table" "ask_by", .mkr "Table", .glo "Table", .meth "Table" "put", .meth "Table" "tell", .meth "Table" "forget", .meth "Table" "listed", .meth "Table" "ask", .meth "Table" "change", .meth "Table" "drop", .free "ValueError", .glo "BookError", .free "range", .meth "Table" "row", .glo "less", .glo "below", .glo "is_whole", .glo "is_end", .glo "is_triple", .glo "need_wish", .glo "within", .glo "fits", .glo "greater_end", .glo "lesser_end", .glo "merged", .noat "Kept" "columns", .noat "Kept" "entries", .meth "Kept" "__init__", .noat "Table" "width", .noat "Table" "held", .noat "Table" "made", .noat "Table" "kept", .meth "Table" "__init__", .glo "_law_at", .glo "_law_act", .exm "BadWidth" "BadWidth" true, .exm "BadRow" "BadWidth" false, .exm "BadRow" "BadRow" true, .exm "Full" "BadWidth" false, .exm "Full" "BadRow" false, .exm "Full" "Full" true, .exm "BadOrder" "BadWidth" false, .exm "BadOrder" "BadRow" false, .exm "BadOrder" "Full" false, .exm "BadOrder" "BadOrder" true, .exm "BadWish" "BadWidth" false, .exm "BadWish" "BadRow" false, .exm "BadWish" "Full" false, .exm "BadWish" "BadOrder" false, .exm "BadWish" "BadWish" true, .exm "NoRow" "BadWidth" false, .exm "NoRow" "BadRow" false, .exm "NoRow" "Full" false, .exm "NoRow" "BadOrder" false, .exm "NoRow" "BadWish" false, .exm "NoRow" "NoRow" true, .exm "BadColumn" "BadWidth" false, .exm "BadColumn" "BadRow" false, .exm "BadColumn" "Full" false, .exm "BadColumn" "BadOrder" false, .exm "BadColumn" "BadWish" false, .exm "BadColumn" "NoRow" false, .exm "BadColumn" "BadColumn" true, .glo "_law_said", .exm "BadWidth" "BookError" true, .exm "BadRow" "BookError" true, .exm "Full" "BookError" true, .exm "BadOrder" "BookError" true, .exm "BadWish" "BookError" true, .exm "NoRow" "BookError" true, .exm "BadColumn" "BookError" true, .glo "_law_any", .glo "_law_width", .glo "_law_row", .glo "_law_order", .glo "_law_good_order", .glo "_law_wish", .glo "_law_good_wish", .glo "_law_state", .glo "_law_holds", .glo "_law_changed", .glo "_law_full", .glo "_law_asked", .glo "_law_put", .glo "_law_wished", .glo "law", .keep "less", .keep "below", .keep "is_whole", .keep "is_end", .keep "is_triple", .keep "need_wish", .keep "within", .keep "fits", .keep "greater_end", .keep "lesser_end", .keep "merged", .keep "_law_at", .keep "_law_act", .keep "_law_said", .keep "_law_any", .keep "_law_width", .keep "_law_row", .keep "_law_order", .keep "_law_good_order", .keep "_law_wish", .keep "_law_good_wish", .keep "_law_state", .keep "_law_holds", .keep "_law_changed", .keep "_law_full", .keep "_law_asked", .keep "_law_put", .keep "_law_wished", .keep "law"]
def fx : List DL.Fx := [.iso "BadWidth", .kr "BadWidth" "BadWidth" true, .kr "BadWidth" "BadRow" false, .kr "BadWidth" "Full" false, .kr "BadWidth" "BadOrder" false, .kr "BadWidth" "BadWish" false, .kr "BadWidth" "NoRow" false, .kt "BadWidth" "ValueError" true, .kr "BadWidth" "BadColumn" false, .iso "BadRow", .kr "BadRow" "BadWidth" false, .kr "BadRow" "BadRow" true, .kr "BadRow" "Full" false, .kr "BadRow" "BadOrder" false, .kr "BadRow" "BadWish" false, .kr "BadRow" "NoRow" false, .kt "BadRow" "ValueError" true, .kr "BadRow" "BadColumn" false, .iso "Full", .kr "Full" "BadWidth" false, .kr "Full" "BadRow" false, .kr "Full" "Full" true, .kr "Full" "BadOrder" false, .kr "Full" "BadWish" false, .kr "Full" "NoRow" false, .kt "Full" "ValueError" true, .kr "Full" "BadColumn" false, .iso "BadOrder", .kr "BadOrder" "BadWidth" false, .kr "BadOrder" "BadRow" false, .kr "BadOrder" "Full" false, .kr "BadOrder" "BadOrder" true, .kr "BadOrder" "BadWish" false, .kr "BadOrder" "NoRow" false, .kt "BadOrder" "ValueError" true, .kr "BadOrder" "BadColumn" false, .iso "BadWish", .kr "BadWish" "BadWidth" false, .kr "BadWish" "BadRow" false, .kr "BadWish" "Full" false, .kr "BadWish" "BadOrder" false, .kr "BadWish" "BadWish" true, .kr "BadWish" "NoRow" false, .kt "BadWish" "ValueError" true, .kr "BadWish" "BadColumn" false, .iso "NoRow", .kr "NoRow" "BadWidth" false, .kr "NoRow" "BadRow" false, .kr "NoRow" "Full" false, .kr "NoRow" "BadOrder" false, .kr "NoRow" "BadWish" false, .kr "NoRow" "NoRow" true, .kt "NoRow" "ValueError" true, .kr "NoRow" "BadColumn" false, .iso "BadColumn", .kr "BadColumn" "BadWidth" false, .kr "BadColumn" "BadRow" false, .kr "BadColumn" "Full" false, .kr "BadColumn" "BadOrder" false, .kr "BadColumn" "BadWish" false, .kr "BadColumn" "NoRow" false, .kt "BadColumn" "ValueError" true, .kr "BadColumn" "BadColumn" true]
/-- what the top has written -/
structure Tx (K : PySem.W.Frag) (mg : Str → Option Value) : Prop where
  says : He.SaysE fa fn K
  more : (fx.all fun f => f.ok K) = true
  hh : ∃ h : Heap, K.In h ∧ h.Ns mainGlobals mg
section
variable {K : PySem.W.Frag} {mg : Str → Option Value}
theorem Tx.gl (T : Tx K mg) (i : Nat) {x : Str} (h : fa[i]? = some (.glo x) := by rfl) : mg x = some (.ref (He.ga K x)) := by
  obtain ⟨_, X, G⟩ := T.hh
  exact He.glo_ok X G (T.says.fact i h)
theorem Tx.fr (T : Tx K mg) (i : Nat) {x : Str} (h : fa[i]? = some (.free x) := by rfl) : mg x = none := by
  obtain ⟨_, X, G⟩ := T.hh
  exact He.free_ok X G (T.says.fact i h)
theorem Tx.gi (T : Tx K mg) (i : Nat) {x : Str} {n : Int} (h : fa[i]? = some (.int x n) := by rfl) : ∃ t, mg x = some (.int n t) := by
  obtain ⟨_, X, G⟩ := T.hh
  exact He.int_ok X G (T.says.fact i h)
theorem Tx.na (T : Tx K mg) (i : Nat) {x f : Str} (h : fa[i]? = some (.noat x f) := by rfl) : NoAttr K (He.ga K x) f := He.noat_ok (T.says.fact i h)
theorem Tx.cl (T : Tx K mg) (i : Nat) {x : Str} (h : fa[i]? = some (.cls x) := by rfl) : Cls K (He.ga K x) := He.cls_ok (T.says.fact i h)
theorem Tx.me (T : Tx K mg) (i : Nat) {x m : Str} (h : fa[i]? = some (.meth x m) := by rfl) : Meth K (He.ga K x) m (He.ma K (He.ga K x) m) := He.meth_ok (T.says.fact i h)
theorem Tx.mr (T : Tx K mg) (i : Nat) {x : Str} (h : fa[i]? = some (.mkr x) := by rfl) : Mk K (He.ga K x) (He.ma K (He.ga K x) "__init__") := He.mkr_ok (T.says.fact i h)
theorem Tx.ex (T : Tx K mg) (i : Nat) {x : Str} (h : fa[i]? = some (.exc x) := by rfl) : PySem.W.excIn K (He.ga K x) He.veBase "ValueError.__new__" = true ∧ PySem.W.keepIn K (.ref (He.ga K x)) = true ∧ PySem.W.subIn K (.ref (He.ga K x)) (.type "BaseException") = some true ∧ PySem.W.typeIn K (.ref (He.ga K x)) = some (.type "type") := He.exc_ok (T.says.fact i h)
theorem Tx.xm (T : Tx K mg) (i : Nat) {x y : Str} {b : Bool} (h : fa[i]? = some (.exm x y b) := by rfl) : PySem.W.exmOne K (.ref (He.ga K x)) (.ref (He.ga K y)) = some b := He.exm_ok (T.says.fact i h)
theorem Tx.fxo (T : Tx K mg) (i : Nat) {f : DL.Fx} (h : fx[i]? = some f) : f.ok K = true := List.all_eq_true.mp T.more f (List.mem_of_getElem? h)
theorem Tx.xi (T : Tx K mg) (i : Nat) {x : Str} (h : fx[i]? = some (.iso x) := by rfl) : ExcC K (He.ga K x) := DL.fx_iso (T.fxo i h)
theorem Tx.kt (T : Tx K mg) (i : Nat) {x : Str} {n : String} {b : Bool} (h : fx[i]? = some (.kt x n b) := by rfl) : PySem.W.kitOne K (.ref (He.ga K x)) (.type n) = some b := of_decide_eq_true (T.fxo i h)
theorem Tx.kr (T : Tx K mg) (i : Nat) {x y : Str} {b : Bool} (h : fx[i]? = some (.kr x y b) := by rfl) : PySem.W.kitOne K (.ref (He.ga K x)) (.ref (He.ga K y)) = some b := of_decide_eq_true (T.fxo i h)
theorem Tx.fnF (T : Tx K mg) (i : Nat) (st : Stmt) (x : Str) (j : Nat) (h : fn[i]? = some ⟨(x, none), x, x, defArgs st, defBody st, defScope st⟩ := by rfl) (hk : fa[j]? = some (.keep x) := by rfl) : ∃ fd, Fun K x x st (He.ga K x) fd := by
  obtain ⟨oc, od, osl, kV, doc, pm, an, cdv, ct, l, c⟩ := T.says.def_ i h
  exact ⟨_, fun_mk (st := st) l c (He.keep_ok (T.says.fact j hk))⟩
theorem Tx.fnM (T : Tx K mg) (i : Nat) (st : Stmt) (C m q : Str) (j : Nat) (h : fn[i]? = some ⟨(C, some m), m, q, defArgs st, defBody st, defScope st⟩ := by rfl) (hk : fa[j]? = some (.meth C m) := by rfl) : ∃ fd, Fun K m q st (He.ma K (He.ga K C) m) fd := by
  obtain ⟨oc, od, osl, kV, doc, pm, an, cdv, ct, l, c⟩ := T.says.def_ i h
  exact ⟨_, fun_mk (st := st) l c (T.me j hk).kp⟩
end

local macro_rules | `(tactic| walk_at "bt1") => `(tactic| first | assumption | (refine bt16 ?_ ?_ <;> omega) | with_reducible apply Bt.add2 | with_reducible apply Bt.sub2 | with_reducible apply Bt.mul | (with_reducible refine Bt.div ?_ (by decide)) | exact bt_lit _)
local macro_rules | `(tactic| walk_at "bt") => `(tactic| repeat' (walk_at "bt1"))
local macro_rules | `(tactic| walk_at "cm") => `(tactic| ((apply mulA); (focus walk_at "bt"); (focus walk_at "bt"); (decide +kernel)))
local macro_rules | `(tactic| walk_at "ev1") => `(tactic| first
  | with_reducible exact ev_int | with_reducible exact ev_bl | with_reducible exact ev_non | with_reducible exact ev_str | with_reducible exact ev_ty
  | with_reducible exact ev_var (by with_unfolding_all rfl)
  | with_reducible refine' ev_I0 ?_ ?_ | with_reducible refine' ev_B0 ?_ ?_ | with_reducible refine' ev_I ?_ ?_ ?_ | with_reducible refine' ev_U ?_ | with_reducible refine' ev_eqI ?_ ?_ | with_reducible refine' ev_neI ?_ ?_
  | with_reducible refine' ev_chainB ?_ ?_ ?_ | with_reducible refine' ev_isN ?_ | with_reducible refine' ev_notN ?_
  | with_reducible refine' et_test ?_ | with_reducible refine' et_B ?_ | with_reducible refine' et_not ?_ | with_reducible refine' et_and ?_ (fun _ => ?_) | with_reducible refine' et_or ?_ (fun _ => ?_)
  | with_reducible refine' ev_notV ?_ | with_reducible refine' ev_andV ?_ (fun _ => ?_) | with_reducible refine' ev_orV ?_ (fun _ => ?_)
  | with_reducible refine' ea_cons ?_ ?_ | with_reducible exact ea_nil
  | with_reducible refine' ev_max2 ?_ ?_ | with_reducible refine' ev_min2 ?_ ?_
  | (refine cpowD ?_ ?_ <;> decide +kernel) | (refine cmulD ?_; decide +kernel) | (show CMulA _ _; walk_at "cm")
  | (show CDiv _ _; exact ⟨by decide, by decide⟩) | (show (0 : Int) < _; first | decide | omega))
local macro_rules | `(tactic| walk_at "ev") => `(tactic| repeat' (walk_at "ev1"))
local macro_rules | `(tactic| walk_at "ne") => `(tactic| first | assumption | (apply Ne.symm; assumption))
local macro_rules | `(tactic| walk_at "led") => `(tactic| ((repeat (rw [ud_ne]; rotate_left; (focus walk_at "ne"))); first | exact ud_same | assumption))

section
variable {P : Program} {w : World} {K : PySem.W.Frag} {mg : Str → Option Value} {base : Heap}

/-- the lesser one of two lists of ints: at the first place where they differ the lesser number, else the shorter one -/
def lessM : List Int → List Int → Bool
  | a :: as, b :: bs => if a = b then lessM as bs else decide (a < b)
  | [], _ :: _ => true
  | _, [] => false
theorem lessM_cons {a b : Int} {as bs : List Int} : lessM (a :: as) (b :: bs) = if a = b then lessM as bs else decide (a < b) := by rw [lessM]
theorem lessM_end : ∀ {xs ys : List Int}, xs = [] ∨ ys = [] → lessM xs ys = decide (xs.length < ys.length)
  | [], [], _ => rfl
  | [], _ :: _, _ => by simp [lessM]
  | _ :: _, [], _ => by simp [lessM]
  | _ :: _, _ :: _, h => by rcases h with h | h <;> cases h
def pr_less (K : PySem.W.Frag) : Pr := q2 fun x y M nx _ => ∃ xs ys : List Int, IsL M x (xs.map .int) ∧ IsL M y (ys.map .int) ∧ nx (.bl (lessM xs ys)) M
section
variable {J : Jx} {ta tb : TE} {ρ : Ro} {M : Mp} {E : XK} {x y : D}
theorem ev_less {xs ys : List Int} (ha : Ev J ta ρ M x) (hb : Ev J tb ρ M y) (hx : IsL M x (xs.map .int)) (hy : IsL M y (ys.map .int)) : Ev J (tCall (spD J.K (pr_less J.K)) [] E (tCons ta (tCons tb tNil))) ρ M (.bl (lessM xs ys)) :=
  w_call ((ea_cons ha (ea_cons hb ea_nil)).w ⟨_, _, rfl, xs, ys, hx, hy, rfl, rfl⟩)
end
abbrev nm_less : List Str := ["one", "other", "a", "b"]
theorem sc_less : FnScope nm_less ["one", "other"] (defScope s_less) := ⟨rfl, rfl, rfl, by decide +kernel, rfl, by decide +kernel, by decide +kernel⟩
theorem ok_less (hTx : Tx K mg) : OkF P w K mg base CX0 1 "less" (He.ga K "less") ["one", "other"] (pr_less K) := by
  obtain ⟨_, F⟩ := hTx.fnF 0 s_less "less" 135
  refine ⟨_, ?_, F.binds (ps := ["one", "other"]) fun _ _ _ _ _ _ us hl => match us, hl with | [_, _], _ => rfl, F.kp, hTx.gl 63⟩
  refine fn_dl F sc_less (fun _ _ _ _ h => q2_len h) (fun cdv A outer s H E hr => ⟨_, (pss_cons (ps_for PassesOwn.never rfl (pi_zip (by rfl) (hTx.fr 0) (pa_cons (pv 0) (pa_cons (pv 1) pa_nil))) (kx_gtup (K := K) (n := 2) rfl rfl (pgs_cons (pg_name (i := 2) sc_less.nd rfl (Or.inl rfl)) (pgs_cons (pg_name (i := 3) sc_less.nd rfl (Or.inl rfl)) pgs_nil)))
    (pss_one (ps_if (pt_cmpR op_ne (pv 2) (pv 3) (nomark _))
    (pss_one (ps_ret (pe_cmpR op_lt (pv 2) (pv 3) (nomark _))))
    pss_nil)))
    (pss_one (ps_ret (pe_cmpR op_lt (pe_callB (kx_len (K := K) rfl) (by rfl) (hTx.fr 1) (by decide +kernel) (pa_cons (pv 0) pa_nil)) (pe_callB (kx_len (K := K) rfl) (by rfl) (hTx.fr 1) (by decide +kernel) (pa_cons (pv 1) pa_nil)) (nomark _))))), ?_⟩)
  try dsimp only [cx_K, cx_nK]
  rintro _ M nx xe ⟨x, y, rfl, xs, ys, hx, hy, k⟩
  refine s_seq (s_for (src_zip (ev_var rfl) (ev_var rfl) hx hy) (fun i ρ' M' => M' = M ∧ (∃ a b, ρ' = [some x, some y, a, b]) ∧ lessM xs ys = lessM (xs.drop i) (ys.drop i)) ⟨rfl, ⟨none, none, rfl⟩, rfl⟩ (fun i ρ' M' h => by rw [h.1]; exact ⟨hx, hy⟩) ?_ ?_)
  · rintro i d ρ' M' hd ⟨rfl, ⟨a, b, rfl⟩, e⟩
    obtain ⟨u, v, h1, h2, rfl⟩ := zipD_get hd
    obtain ⟨m, h3, rfl⟩ := get_int h1
    obtain ⟨n, h4, rfl⟩ := get_int h2
    rw [drop_at h3, drop_at h4] at e
    refine sg_tup rfl (sgs_cons (sg_name (sgs_cons (sg_name (sgs_nil ?_)))))
    refine s_if (et_test (ev_neI (ev_var rfl) (ev_var rfl))) (fun hb => ?_) (fun hb => ?_)
    · refine s_ret ((ev_B0 (ev_var rfl) (ev_var rfl)).w ?_)
      have hne : ¬ m = n := by simpa using hb
      rw [lessM_cons, if_neg hne] at e
      rw [e] at k
      exact k
    · have heq : m = n := by simpa using hb
      rw [lessM_cons, if_pos heq] at e
      exact s_next ⟨rfl, ⟨_, _, rfl⟩, e⟩
  · rintro ρ' M' ⟨rfl, ⟨a, b, rfl⟩, e⟩
    refine s_ret ((ev_B0 (ev_len (ev_var rfl) hx.q) (ev_len (ev_var rfl) hy.q)).w ?_)
    have e2 : lessM xs ys = decide ((xs.map D.int).length < (ys.map D.int).length) := by
      rw [zipD_len, List.length_map, List.length_map] at e
      rw [e, List.length_map, List.length_map, lessM_end]
      · rw [List.length_drop, List.length_drop, Bool.eq_iff_iff]
        simp only [decide_eq_true_eq]
        omega
      · rcases Nat.le_total xs.length ys.length with h | h
        · exact .inl (List.drop_eq_nil_of_le (by omega))
        · exact .inr (List.drop_eq_nil_of_le (by omega))
    rw [e2] at k
    simpa using k

/-! the order of lists of ints -/
theorem lessM_irr : ∀ a : List Int, lessM a a = false
  | [] => by simp [lessM]
  | x :: a => by rw [lessM_cons, if_pos rfl]; exact lessM_irr a
theorem lessM_nil (a : List Int) : lessM a [] = false := by cases a <;> simp [lessM]
theorem lessM_nil_cons {b : Int} {bs : List Int} : lessM [] (b :: bs) = true := by simp [lessM]
theorem lessM_trans : ∀ {a b c : List Int}, lessM a b = true → lessM b c = true → lessM a c = true
  | a, b, [], _, h => by rw [lessM_nil] at h; cases h
  | a, [], c :: cs, h, _ => by rw [lessM_nil] at h; cases h
  | [], b :: bs, c :: cs, _, _ => lessM_nil_cons
  | a :: as, b :: bs, c :: cs, h1, h2 => by
    rw [lessM_cons] at h1 h2 ⊢
    by_cases e1 : a = b
    · rw [if_pos e1] at h1
      by_cases e2 : b = c
      · rw [if_pos e2] at h2
        rw [if_pos (e1.trans e2)]
        exact lessM_trans h1 h2
      · rw [if_neg e2] at h2
        have h2 := of_decide_eq_true h2
        rw [if_neg (by omega)]
        exact decide_eq_true (by omega)
    · rw [if_neg e1] at h1
      have h1 := of_decide_eq_true h1
      by_cases e2 : b = c
      · rw [if_neg (by omega)]
        exact decide_eq_true (by omega)
      · rw [if_neg e2] at h2
        have h2 := of_decide_eq_true h2
        rw [if_neg (by omega)]
        exact decide_eq_true (by omega)
theorem lessM_tri : ∀ {a b : List Int}, lessM a b = false → lessM b a = false → a = b
  | [], [], _, _ => rfl
  | [], b :: bs, h, _ => by rw [lessM_nil_cons] at h; cases h
  | a :: as, [], _, h => by rw [lessM_nil_cons] at h; cases h
  | a :: as, b :: bs, h1, h2 => by
    rw [lessM_cons] at h1 h2
    by_cases e : a = b
    · subst e
      rw [if_pos rfl] at h1 h2
      rw [lessM_tri h1 h2]
    · rw [if_neg e] at h1
      rw [if_neg (fun z => e z.symm)] at h2
      have h1 := of_decide_eq_false h1
      have h2 := of_decide_eq_false h2
      omega
/-- a does not stand behind b, b ahead of c: a ahead of c -/
theorem lessM_le_lt {a b c : List Int} (h1 : lessM b a = false) (h2 : lessM b c = true) : lessM a c = true := by
  cases h : lessM a b with
  | true => exact lessM_trans h h2
  | false => rw [lessM_tri h h1]; exact h2
/-- none stands behind a later one -/
def Rising (rows : List (List Int)) : Prop := rows.Pairwise fun a b => lessM b a = false
def cntB (rows : List (List Int)) (key : List Int) : Nat := rows.countP fun r => lessM r key
theorem cntB_of {rows : List (List Int)} {key : List Int} {n : Nat} (hn : n ≤ rows.length) (h1 : ∀ (i : Nat) r, i < n → rows[i]? = some r → lessM r key = true) (h2 : ∀ (i : Nat) r, n ≤ i → rows[i]? = some r → lessM r key = false) : cntB rows key = n := by
  unfold cntB
  have e : rows = rows.take n ++ rows.drop n := (List.take_append_drop n rows).symm
  have e1 : (rows.take n).countP (fun r => lessM r key) = (rows.take n).length := List.countP_eq_length.mpr fun r hr => by
    obtain ⟨i, hi⟩ := List.mem_iff_getElem?.mp hr
    have hl := lt_of_get hi
    rw [List.length_take] at hl
    rw [List.getElem?_take_of_lt (by omega)] at hi
    exact h1 i r (by omega) hi
  have e2 : (rows.drop n).countP (fun r => lessM r key) = 0 := List.countP_eq_zero.mpr fun r hr => by
    obtain ⟨i, hi⟩ := List.mem_iff_getElem?.mp hr
    rw [List.getElem?_drop] at hi
    rw [h2 (n + i) r (by omega) hi]
    exact Bool.false_ne_true
  rw [e, List.countP_append, e1, e2, List.length_take]
  omega
theorem rising_at {rows : List (List Int)} (h : Rising rows) {i j : Nat} {a b : List Int} (hij : i < j) (hi : rows[i]? = some a) (hj : rows[j]? = some b) : lessM b a = false := by
  obtain ⟨l1, e1⟩ := List.getElem?_eq_some_iff.mp hi
  obtain ⟨l2, e2⟩ := List.getElem?_eq_some_iff.mp hj
  have := List.pairwise_iff_getElem.mp h i j l1 l2 hij
  rw [e1, e2] at this
  exact this
abbrev dI (xs : List Int) : D := .lst (xs.map .int)
def pr_below (K : PySem.W.Frag) : Pr := q2 fun x y M nx _ => ∃ (rows : List (List Int)) (key : List Int), IsL M x (rows.map dI) ∧ IsL M y (key.map .int) ∧ Rising rows ∧ rows.length ≤ 1000000 ∧ nx (.int (cntB rows key)) M
section
variable {J : Jx} {ta tb : TE} {ρ : Ro} {M : Mp} {E : XK} {x y : D}
theorem ev_below {rows : List (List Int)} {key : List Int} (ha : Ev J ta ρ M x) (hb : Ev J tb ρ M y) (hx : IsL M x (rows.map dI)) (hy : IsL M y (key.map .int)) (hr : Rising rows) (hl : rows.length ≤ 1000000) : Ev J (tCall (spD J.K (pr_below J.K)) [] E (tCons ta (tCons tb tNil))) ρ M (.int (cntB rows key)) :=
  w_call ((ea_cons ha (ea_cons hb ea_nil)).w ⟨_, _, rfl, rows, key, hx, hy, hr, hl, rfl, rfl⟩)
end
abbrev nm_below : List Str := ["rows", "key", "low", "high", "middle"]
theorem sc_below : FnScope nm_below ["rows", "key"] (defScope s_below) := ⟨rfl, rfl, rfl, by decide +kernel, rfl, by decide +kernel, by decide +kernel⟩
theorem ok_below (hTx : Tx K mg) : OkF P w K mg base CX0 2 "below" (He.ga K "below") ["rows", "key"] (pr_below K) := by
  obtain ⟨_, G_less, b_less, k_less, g_less⟩ := ok_less (P := P) (w := w) (base := base) hTx
  obtain ⟨_, F⟩ := hTx.fnF 1 s_below "below" 136
  refine ⟨_, ?_, F.binds (ps := ["rows", "key"]) fun _ _ _ _ _ _ us hl => match us, hl with | [_, _], _ => rfl, F.kp, hTx.gl 64⟩
  refine fn_dl F sc_below (fun _ _ _ _ h => q2_len h) (fun cdv A outer s H E hr => ⟨_, (pss_cons (ps_set (i := 2) sc_below.nd rfl (Or.inl rfl) pe_int)
    (pss_cons (ps_set (i := 3) sc_below.nd rfl (Or.inl rfl) (pe_callB (kx_len (K := K) rfl) (by rfl) (hTx.fr 1) (by decide +kernel) (pa_cons (pv 0) pa_nil)))
    (pss_cons (ps_while PassesOwn.never (pt_cmpR op_lt (pv 2) (pv 3) (nomark _))
    (pss_cons (ps_set (i := 4) sc_below.nd rfl (Or.inl rfl) (pe_op op_fdiv (pe_op op_add (pv 2) (pv 3)) pe_int))
    (pss_one (ps_if (pt_val (pe_call G_less (hr.mono (by decide)) rfl g_less k_less b_less .nil pass0 (pa_cons (pe_ix (kx_ixL (K := K) rfl) (pv 0) (pv 4) (fun _ _ => rfl)) (pa_cons (pv 1) pa_nil))))
    (pss_one (ps_set (i := 2) sc_below.nd rfl (Or.inl rfl) (pe_op op_add (pv 4) pe_int)))
    (pss_one (ps_set (i := 3) sc_below.nd rfl (Or.inl rfl) (pv 4)))))))
    (pss_one (ps_ret (pv 2)))))), ?_⟩)
  try dsimp only [cx_K, cx_nK]
  rintro _ M nx xe ⟨x, y, rfl, rows, key, hx, hy, hR, hl, k⟩
  refine s_seq (s_asgE (by walk_at "ev") ?_)
  refine s_seq (s_asgE (ev_len (ev_var rfl) hx.q) ?_)
  refine s_seq (s_while (W := fun m ρ' M' => M' = M ∧ ∃ (lo hi : Nat) (a : Option D), ρ' = [some x, some y, some (.int lo), some (.int hi), a] ∧ m = hi - lo ∧ lo ≤ hi ∧ hi ≤ rows.length ∧ (∀ (i : Nat) r, i < lo → rows[i]? = some r → lessM r key = true) ∧ ∀ (i : Nat) r, hi ≤ i → rows[i]? = some r → lessM r key = false)
    rows.length ⟨rfl, 0, rows.length, none, by rw [List.length_map]; rfl, by omega, by omega, Nat.le_refl _, fun i r h => absurd h (Nat.not_lt_zero i), fun i r h e => absurd (lt_of_get e) (by omega)⟩ ?_)
  rintro m ρ' M' ⟨rfl, lo, hi, a, rfl, rfl, h1, h2, h3, h4⟩
  refine (ET.w (b := decide ((lo : Int) < hi)) (by walk_at "ev") ⟨fun hb => ?_, fun hb => ?_⟩)
  · have hlt : lo < hi := by have := of_decide_eq_true hb; omega
    have hm : (lo + hi) / 2 < rows.length := by omega
    have em : ((lo : Int) + hi) / 2 = (((lo + hi) / 2 : Nat) : Int) := by omega
    have hr : rows[(lo + hi) / 2]? = some rows[(lo + hi) / 2] := List.getElem?_eq_getElem hm
    refine s_seq (s_asgE (d := .int (((lo + hi) / 2 : Nat) : Int)) (by rw [← em]; walk_at "ev") ?_)
    refine s_if (et_B (ev_less (xs := rows[(lo + hi) / 2]) (ev_ixL (ev_var rfl) (ev_var rfl) hx (atI_nat (by rw [List.getElem?_map, hr]; rfl))) (ev_var rfl) .l hy)) (fun hb2 => ?_) (fun hb2 => ?_)
    · refine s_asgE (d := .int (((lo + hi) / 2 + 1 : Nat) : Int)) (Ev.is (by walk_at "ev") (by simp)) ?_
      refine ⟨hi - ((lo + hi) / 2 + 1), by omega, rfl, (lo + hi) / 2 + 1, hi, _, rfl, rfl, by omega, h2, fun i r hi' e => ?_, h4⟩
      rcases Nat.lt_or_ge i ((lo + hi) / 2) with z | z
      · exact lessM_le_lt (rising_at hR z e hr) hb2
      · have : i = (lo + hi) / 2 := by omega
        subst this
        rw [hr] at e
        cases e
        exact hb2
    · refine s_asgE (by walk_at "ev") ?_
      refine ⟨(lo + hi) / 2 - lo, by omega, rfl, lo, (lo + hi) / 2, _, rfl, rfl, by omega, by omega, h3, fun i r hi' e => ?_⟩
      rcases Nat.lt_or_ge ((lo + hi) / 2) i with z | z
      · cases q : lessM r key with
        | false => rfl
        | true =>
          have := lessM_le_lt (rising_at hR z hr e) q
          rw [hb2] at this
          cases this
      · have : i = (lo + hi) / 2 := by omega
        subst this
        rw [hr] at e
        cases e
        exact hb2
  · have he : lo = hi := by have := of_decide_eq_false hb; omega
    subst he
    refine s_retE (ev_var rfl) ?_
    rw [cntB_of h2 h3 h4] at k
    exact k

def pr_is_whole (K : PySem.W.Frag) : Pr := q1 fun x M nx _ => tyN M x ≠ "" ∧ nx (.bl (wholeD x)) M
section
variable {J : Jx} {ta tb : TE} {ρ : Ro} {M : Mp} {E : XK} {x y : D}
theorem ev_is_whole (ha : Ev J ta ρ M x) (h : tyN M x ≠ "") : Ev J (tCall (spD J.K (pr_is_whole J.K)) [] E (tCons ta tNil)) ρ M (.bl (wholeD x)) :=
  w_call ((ea_cons ha ea_nil).w ⟨_, rfl, h, rfl, rfl⟩)
theorem ev_is_wholeI {i : Int} (ha : Ev J ta ρ M (.int i)) : Ev J (tCall (spD J.K (pr_is_whole J.K)) [] E (tCons ta tNil)) ρ M (.bl true) := ev_is_whole ha (show "int" ≠ "" by decide)
end
abbrev nm_is_whole : List Str := ["thing"]
theorem sc_is_whole : FnScope nm_is_whole ["thing"] (defScope s_is_whole) := ⟨rfl, rfl, rfl, by decide +kernel, rfl, by decide +kernel, by decide +kernel⟩
theorem ok_is_whole (hTx : Tx K mg) : OkF P w K mg base CX0 1 "is_whole" (He.ga K "is_whole") ["thing"] (pr_is_whole K) := by
  obtain ⟨_, F⟩ := hTx.fnF 2 s_is_whole "is_whole" 137
  refine ⟨_, ?_, F.binds (ps := ["thing"]) fun _ _ _ _ _ _ us hl => match us, hl with | [_], _ => rfl, F.kp, hTx.gl 65⟩
  refine fn_dl F sc_is_whole (fun _ _ _ _ h => q1_len h) (fun cdv A outer s H E hr => ⟨_, (pss_one (ps_ret (pe_and (pe_callB (kx_isi (K := K) rfl) (by rfl) (hTx.fr 3) (by decide +kernel) (pa_cons (pv 0) (pa_cons (pe_bltn (v := .ty "int") (by rfl) (hTx.fr 2) (by decide +kernel) rfl) pa_nil))) (pe_one (pe_not (pe_callB (kx_isi (K := K) rfl) (by rfl) (hTx.fr 3) (by decide +kernel) (pa_cons (pv 0) (pa_cons (pe_bltn (v := .ty "bool") (by rfl) (hTx.fr 4) (by decide +kernel) rfl) pa_nil)))))))), ?_⟩)
  try dsimp only [cx_K, cx_nK]
  rintro _ M nx xe ⟨x, rfl, h, k⟩
  obtain ⟨a, b, h1, h2, h3⟩ := whole_kit M x h
  rw [h3] at k
  exact s_retE (ev_andV (ev_isi (ev_var rfl) ev_ty h1 h) fun _ => ev_notV (ev_isi (ev_var rfl) ev_ty h2 h)) k

def pr_is_end (K : PySem.W.Frag) : Pr := q1 fun x M nx _ => tyN M x ≠ "" ∧ nx (.bl (endB x)) M
section
variable {J : Jx} {ta tb : TE} {ρ : Ro} {M : Mp} {E : XK} {x y : D}
theorem ev_is_endB (ha : Ev J ta ρ M x) (ht : tyN M x ≠ "") : Ev J (tCall (spD J.K (pr_is_end J.K)) [] E (tCons ta tNil)) ρ M (.bl (endB x)) :=
  w_call ((ea_cons ha ea_nil).w ⟨_, rfl, ht, rfl, rfl⟩)
end
abbrev nm_is_end : List Str := ["thing"]
theorem sc_is_end : FnScope nm_is_end ["thing"] (defScope s_is_end) := ⟨rfl, rfl, rfl, by decide +kernel, rfl, by decide +kernel, by decide +kernel⟩
theorem ok_is_end (hTx : Tx K mg) : OkF P w K mg base CX0 2 "is_end" (He.ga K "is_end") ["thing"] (pr_is_end K) := by
  obtain ⟨_, G_is_whole, b_is_whole, k_is_whole, g_is_whole⟩ := ok_is_whole (P := P) (w := w) (base := base) hTx
  obtain ⟨_, F⟩ := hTx.fnF 3 s_is_end "is_end" 138
  refine ⟨_, ?_, F.binds (ps := ["thing"]) fun _ _ _ _ _ _ us hl => match us, hl with | [_], _ => rfl, F.kp, hTx.gl 66⟩
  refine fn_dl F sc_is_end (fun _ _ _ _ h => q1_len h) (fun cdv A outer s H E hr => ⟨_, (pss_one (ps_ret (pe_or (pe_cmp (pc_isN (pv 0))) (pe_one (pe_call G_is_whole (hr.mono (by decide)) rfl g_is_whole k_is_whole b_is_whole .nil pass0 (pa_cons (pv 0) pa_nil)))))), ?_⟩)
  try dsimp only [cx_K, cx_nK]
  rintro _ M nx xe ⟨x, rfl, ht, k⟩
  rw [endB_eq] at k
  exact s_retE (ev_orV (ev_isN (ev_var rfl)) fun _ => ev_is_whole (ev_var rfl) ht) k

def pr_is_triple (K : PySem.W.Frag) : Pr := q2 fun x y M nx _ => ∃ (w : Int), y = .int w ∧ TripTy M x ∧ nx (.bl (tripB w x)) M
section
variable {J : Jx} {ta tb : TE} {ρ : Ro} {M : Mp} {E : XK} {x y : D}
theorem ev_is_tripleB {w : Int} (ha : Ev J ta ρ M x) (hb : Ev J tb ρ M (.int w)) (ht : TripTy M x) : Ev J (tCall (spD J.K (pr_is_triple J.K)) [] E (tCons ta (tCons tb tNil))) ρ M (.bl (tripB w x)) :=
  w_call ((ea_cons ha (ea_cons hb ea_nil)).w ⟨_, _, rfl, w, rfl, ht, rfl, rfl⟩)
theorem trip_tD (t : Tr) (w : Int) (h0 : 0 ≤ t.1) (h1 : t.1 < w) : tripB w (tD t) = true := by
  have e1 : ∀ o : Option Int, endB (oD o) = true := fun o => by cases o <;> rfl
  show (colB w (.int t.1) && (endB (oD t.2.1) && endB (oD t.2.2))) = true
  rw [e1, e1]
  show ((decide (0 ≤ t.1) && decide (t.1 < w)) && (true && true)) = true
  rw [decide_eq_true h0, decide_eq_true h1]
  rfl
theorem tripTy_tD (t : Tr) : TripTy M (tD t) := ⟨tyN_fl rfl, fun ds e d hd => by
  have e1 : ∀ o : Option Int, flatD (oD o) = true := fun o => by cases o <;> rfl
  have : ds = [.int t.1, oD t.2.1, oD t.2.2] := (D.tup.inj e).symm
  rw [this] at hd
  simp only [List.mem_cons, List.not_mem_nil, or_false] at hd
  rcases hd with rfl | rfl | rfl
  · exact tyN_fl rfl
  · exact tyN_fl (e1 _)
  · exact tyN_fl (e1 _)⟩
theorem ev_is_triple {t : Tr} {w : Int} (ha : Ev J ta ρ M (tD t)) (hb : Ev J tb ρ M (.int w)) (h0 : 0 ≤ t.1) (h1 : t.1 < w) : Ev J (tCall (spD J.K (pr_is_triple J.K)) [] E (tCons ta (tCons tb tNil))) ρ M (.bl true) :=
  (ev_is_tripleB ha hb (tripTy_tD t)).is (by rw [trip_tD t w h0 h1])
end
abbrev nm_is_triple : List Str := ["thing", "width"]
theorem sc_is_triple : FnScope nm_is_triple ["thing", "width"] (defScope s_is_triple) := ⟨rfl, rfl, rfl, by decide +kernel, rfl, by decide +kernel, by decide +kernel⟩
theorem ok_is_triple (hTx : Tx K mg) : OkF P w K mg base CX0 3 "is_triple" (He.ga K "is_triple") ["thing", "width"] (pr_is_triple K) := by
  obtain ⟨_, G_is_whole, b_is_whole, k_is_whole, g_is_whole⟩ := ok_is_whole (P := P) (w := w) (base := base) hTx
  obtain ⟨_, G_is_end, b_is_end, k_is_end, g_is_end⟩ := ok_is_end (P := P) (w := w) (base := base) hTx
  obtain ⟨_, F⟩ := hTx.fnF 4 s_is_triple "is_triple" 139
  refine ⟨_, ?_, F.binds (ps := ["thing", "width"]) fun _ _ _ _ _ _ us hl => match us, hl with | [_, _], _ => rfl, F.kp, hTx.gl 67⟩
  refine fn_dl F sc_is_triple (fun _ _ _ _ h => q2_len h) (fun cdv A outer s H E hr => ⟨_, (pss_cons (ps_if (PW.pt (pw_or (pt_not (pt_val (pe_callB (kx_isi (K := K) rfl) (by rfl) (hTx.fr 3) (by decide +kernel) (pa_cons (pv 0) (pa_cons (pe_bltn (v := .ty "tuple") (by rfl) (hTx.fr 5) (by decide +kernel) rfl) pa_nil))))) (pw_or1 (pt_cmpR op_ne (pe_callB (kx_len (K := K) rfl) (by rfl) (hTx.fr 1) (by decide +kernel) (pa_cons (pv 0) pa_nil)) pe_int (nomark _)))))
    (pss_one (ps_ret pe_bl))
    pss_nil)
    (pss_cons (ps_if (PW.pt (pw_or (pt_not (pt_val (pe_call G_is_whole (hr.mono (by decide)) rfl g_is_whole k_is_whole b_is_whole .nil pass0 (pa_cons (pe_ix (kx_ixT (K := K) rfl) (pv 0) pe_int (fun _ _ => rfl)) pa_nil)))) (pw_or1 (pt_not (pt_chain op_le op_lt pe_int (pe_ix (kx_ixT (K := K) rfl) (pv 0) pe_int (fun _ _ => rfl)) (pv 1))))))
    (pss_one (ps_ret pe_bl))
    pss_nil)
    (pss_one (ps_ret (pe_and (pe_call G_is_end (hr.mono (by decide)) rfl g_is_end k_is_end b_is_end .nil pass0 (pa_cons (pe_ix (kx_ixT (K := K) rfl) (pv 0) pe_int (fun _ _ => rfl)) pa_nil)) (pe_one (pe_call G_is_end (hr.mono (by decide)) rfl g_is_end k_is_end b_is_end .nil pass0 (pa_cons (pe_ix (kx_ixT (K := K) rfl) (pv 0) pe_int (fun _ _ => rfl)) pa_nil)))))))), ?_⟩)
  try dsimp only [cx_K, cx_nK]
  rintro _ M nx xe ⟨x, y, rfl, w, rfl, ht, k⟩
  show S (J0 K) _ [some x, some (.int w)] M _
  have not3 : ∀ ds : List D, x = .tup ds → ds.length ≠ 3 → tripB w x = false := fun ds e h => by
    rw [e]
    match ds, h with
    | [], _ => rfl
    | [_], _ => rfl
    | [_, _], _ => rfl
    | [_, _, _], h => exact absurd rfl h
    | _ :: _ :: _ :: _ :: _, _ => rfl
  by_cases hx : tyN M x = "tuple"
  · obtain ⟨ds, rfl⟩ : ∃ ds, x = .tup ds := by
      cases x with
      | tup ds => exact ⟨ds, rfl⟩
      | ref a =>
        cases e : M a with
        | none => simp only [tyN, e] at hx; exact absurd hx (by decide)
        | some o => cases o <;> (simp only [tyN, e] at hx; exact absurd hx (by decide))
      | _ => exact absurd hx (by first | exact (by decide : ¬ "NoneType" = "tuple") | exact (by decide : ¬ "bool" = "tuple") | exact (by decide : ¬ "int" = "tuple") | exact (by decide : ¬ "str" = "tuple") | exact (by decide : ¬ "list" = "tuple") | exact (by decide : ¬ "" = "tuple"))
    by_cases h3 : ds.length = 3
    · obtain ⟨c, l, h, rfl⟩ : ∃ c l h, ds = [c, l, h] := by
        match ds, h3 with
        | [c, l, h], _ => exact ⟨c, l, h, rfl⟩
      have hty := ht.2 _ rfl
      have ix : ∀ (ρ' : Ro) (j : Int) (z : D), ρ'[0]? = some (some (.tup [c, l, h])) → atI [c, l, h] j = some z → Ev (J0 K) (tOp (rIxT K) (tVar 0) (tC (.int j))) ρ' M z := fun ρ' j z hz hj => ev_ixT (ds := [c, l, h]) (ev_var hz) ev_int hj
      refine s_seq (s_if (b := false) ?_ (fun z => nomatch z) (fun _ => s_next ?_))
      · refine (et_or (b := false) (c := false) ?_ fun _ => ?_)
        · exact (et_not (et_B (ev_isiT (b := true) "tuple" (ev_var rfl) ev_ty rfl (by decide +kernel) (by decide))))
        · exact (et_test (ev_neI (ev_len (ds := [c, l, h]) (ev_var rfl) .t) ev_int)).is rfl
      have e0 : tripB w (.tup [c, l, h]) = (colB w c && (endB l && endB h)) := rfl
      rw [e0] at k
      refine s_seq (s_if (b := !colB w c) ?_ (fun hb => ?_) (fun hb => s_next ?_))
      · rcases whole_cases c with hc | ⟨n, rfl⟩
        · refine ET.is (et_or (b := true) (c := false) (et_not (b := false) ((et_B (ev_is_whole (ix _ 0 c rfl rfl) (hty c (by simp)))).is hc)) fun z => nomatch z) ?_
          rcases colB_cases w c with e | ⟨n, rfl, _⟩
          · rw [e]; rfl
          · cases hc
        · exact (et_or (b := false) (c := !colB w (.int n)) (et_not (et_B (ev_is_wholeI (ix _ 0 (.int n) rfl rfl)))) fun _ => et_not (b := colB w (.int n)) (et_test (ev_chainB (f := fun i j => decide (i ≤ j)) (g := fun i j => decide (i < j)) ev_int (ix _ 0 (.int n) rfl rfl) (ev_var rfl)))).is (by simp)
      · have hb : colB w c = false := by simpa using hb
        rw [hb] at k
        exact s_retE ev_bl k
      · have hb : colB w c = true := by simpa using hb
        rw [hb, Bool.true_and] at k
        exact s_retE (ev_andV (ev_is_endB (ix _ 1 l rfl rfl) (hty l (by simp))) fun _ => ev_is_endB (ix _ 2 h rfl rfl) (hty h (by simp))) k
    · refine s_seq (s_if (b := true) ?_ (fun _ => s_retE ev_bl ?_) (fun z => nomatch z))
      · refine (et_or (b := false) (c := true) ?_ fun _ => ?_)
        · exact (et_not (et_B (ev_isiT (b := true) "tuple" (ev_var rfl) ev_ty rfl (by decide +kernel) (by decide))))
        · refine (et_test (ev_neI (ev_len (ev_var rfl) .t) ev_int)).is ?_
          rw [decide_eq_false (by omega)]
          rfl
      · rw [← not3 ds rfl h3]; exact k
  · refine s_seq (s_if (b := true) ?_ (fun _ => s_retE ev_bl ?_) (fun z => nomatch z))
    · exact (et_or (b := true) (c := false) (et_not (b := false) ((et_B (ev_isi (ev_var rfl) ev_ty (kit_tl M x ht.1).1 ht.1)).is (decide_eq_false hx))) fun z => nomatch z)
    · have e : tripB w x = false := by
        cases x with
        | tup ds => exact absurd rfl hx
        | _ => rfl
      rw [← e]; exact k

/-- a wish of a table of that width -/
def WishOk (w : Int) (wish : List Tr) : Prop := (∀ t ∈ wish, 0 ≤ t.1 ∧ t.1 < w) ∧ wish.length ≤ 20
def pr_need_wish (K : PySem.W.Frag) : Pr := q2 fun x y M nx _ => ∃ (wish : List Tr) (w : Int), IsM M x (wish.map tD) ∧ y = .int w ∧ WishOk w wish ∧ nx .non M
section
variable {J : Jx} {ta tb : TE} {ρ : Ro} {M : Mp} {E : XK} {x y : D}
theorem ev_need_wish {wish : List Tr} {w : Int} (ha : Ev J ta ρ M x) (hb : Ev J tb ρ M (.int w)) (hx : IsM M x (wish.map tD)) (h : WishOk w wish) : Ev J (tCall (spD J.K (pr_need_wish J.K)) [] E (tCons ta (tCons tb tNil))) ρ M .non :=
  w_call ((ea_cons ha (ea_cons hb ea_nil)).w ⟨_, _, rfl, wish, w, hx, rfl, h, rfl, rfl⟩)
end
abbrev nm_need_wish : List Str := ["wish", "width", "triple"]
theorem sc_need_wish : FnScope nm_need_wish ["wish", "width"] (defScope s_need_wish) := ⟨rfl, rfl, rfl, by decide +kernel, rfl, by decide +kernel, by decide +kernel⟩
theorem ok_need_wish (hTx : Tx K mg) : OkF P w K mg base CX0 4 "need_wish" (He.ga K "need_wish") ["wish", "width"] (pr_need_wish K) := by
  obtain ⟨_, G_is_triple, b_is_triple, k_is_triple, g_is_triple⟩ := ok_is_triple (P := P) (w := w) (base := base) hTx
  obtain ⟨_, F⟩ := hTx.fnF 5 s_need_wish "need_wish" 140
  refine ⟨_, ?_, F.binds (ps := ["wish", "width"]) fun _ _ _ _ _ _ us hl => match us, hl with | [_, _], _ => rfl, F.kp, hTx.gl 68⟩
  refine fn_dl F sc_need_wish (fun _ _ _ _ h => q2_len h) (fun cdv A outer s H E hr => ⟨_, (pss_cons (ps_if (PW.pt (pw_or (pt_not (pt_val (pe_callB (kx_isi (K := K) rfl) (by rfl) (hTx.fr 3) (by decide +kernel) (pa_cons (pv 0) (pa_cons (pe_bltn (v := .ty "list") (by rfl) (hTx.fr 6) (by decide +kernel) rfl) pa_nil))))) (pw_or1 (pt_cmpR op_gt (pe_callB (kx_len (K := K) rfl) (by rfl) (hTx.fr 1) (by decide +kernel) (pa_cons (pv 0) pa_nil)) (pe_glob (v := .int 20) rfl (hTx.gi 7).choose_spec ⟨_, rfl⟩) (nomark _)))))
    (pss_one (ps_raise rfl takes0 (pmk_own PySem.F.excBase_ValueError (hTx.ex 8).1 (hTx.gl 9) (hTx.ex 8).2.1 (raises_own (hTx.ex 8).2.2.1 (hTx.ex 8).2.2.2) rfl)))
    pss_nil)
    (pss_one (ps_for PassesOwn.never rfl (kx_plist (K := K) rfl (pv 0)) (pg_name (i := 2) sc_need_wish.nd rfl (Or.inl rfl))
    (pss_one (ps_if (pt_not (pt_val (pe_call G_is_triple (hr.mono (by decide)) rfl g_is_triple k_is_triple b_is_triple .nil pass0 (pa_cons (pv 2) (pa_cons (pv 1) pa_nil)))))
    (pss_one (ps_raise rfl takes0 (pmk_own PySem.F.excBase_ValueError (hTx.ex 8).1 (hTx.gl 9) (hTx.ex 8).2.1 (raises_own (hTx.ex 8).2.2.1 (hTx.ex 8).2.2.2) rfl)))
    pss_nil))))), ?_⟩)
  try dsimp only [cx_K, cx_nK]
  rintro _ M nx xe ⟨x, y, rfl, wish, w, hx, rfl, h, k⟩
  refine s_seq (s_if (b := false) ?_ (fun z => nomatch z) (fun _ => s_next ?_))
  · refine (et_or (b := false) (c := false) ?_ fun _ => ?_)
    · exact (et_not (et_B (ev_isiT (b := true) "list" (ev_var rfl) ev_ty (tyN_L hx) (by decide +kernel) (by decide))))
    · refine ET.is (et_test (ev_B0 (ev_len (ev_var rfl) hx.il.q) ev_int)) ?_
      rw [List.length_map]
      have := h.2
      exact decide_eq_false (by omega)
  refine s_for (src_L (ev_var rfl) hx.il) (fun i ρ' M' => M' = M ∧ ∃ a, ρ' = [some x, some (.int w), a]) ⟨rfl, none, rfl⟩ (fun i ρ' M' h => by rw [h.1]; exact hx.il) ?_ ?_
  · rintro i d ρ' M' hdd ⟨rfl, a, rfl⟩
    obtain ⟨t, ht, rfl⟩ := get_map hdd
    obtain ⟨h0, h1⟩ := h.1 t (List.mem_of_getElem? ht)
    refine sg_name ?_
    exact s_if (b := false) (et_not (et_B (ev_is_triple (ev_var rfl) (ev_var rfl) h0 h1))) (fun z => nomatch z) (fun _ => s_next ⟨rfl, _, rfl⟩)
  · rintro ρ' M' ⟨rfl, a, rfl⟩
    exact k

def pr_need_wish_x (K : PySem.W.Frag) : Pr := q2 fun x y M _ xe => ∃ (w : Int), y = .int w ∧ WishBad M w x ∧ xe (He.ga K "BadWish") M
section
variable {K : PySem.W.Frag} {ta tb : TE} {ρ : Ro} {M : Mp} {E : XK} {xe : Addr → Mp → Prop} {R : D → Mp → Prop} {x : D}
theorem w_need_wish_x {w : Int} (ha : Ev (JX K E xe) ta ρ M x) (hb : Ev (JX K E xe) tb ρ M (.int w)) (h : WishBad M w x) (hx : xe (He.ga K "BadWish") M) : W (JX K E xe) (tCall (spD K (pr_need_wish_x K)) [] E (tCons ta (tCons tb tNil))) ρ M R :=
  w_callX ((ea_cons ha (ea_cons hb ea_nil)).w ⟨_, _, rfl, w, rfl, h, hx⟩)
end
theorem ok_need_wish_x (hTx : Tx K mg) : OkF P w K mg base (L2.CX P w) 4 "need_wish" (He.ga K "need_wish") ["wish", "width"] (pr_need_wish_x K) := by
  obtain ⟨_, G_is_triple, b_is_triple, k_is_triple, g_is_triple⟩ := ok_is_triple (P := P) (w := w) (base := base) hTx
  obtain ⟨_, F⟩ := hTx.fnF 5 s_need_wish "need_wish" 140
  refine ⟨_, ?_, F.binds (ps := ["wish", "width"]) fun _ _ _ _ _ _ us hl => match us, hl with | [_, _], _ => rfl, F.kp, hTx.gl 68⟩
  refine fn_dlX F sc_need_wish (fun _ _ _ _ h => q2_len h) (fun cdv A outer s H E hr => ⟨_, (pss_cons (ps_if (PW.pt (pw_or (pt_not (pt_val (pe_callB (kx_isi (K := K) rfl) (by rfl) (hTx.fr 3) (by decide +kernel) (pa_cons (pv 0) (pa_cons (pe_bltn (v := .ty "list") (by rfl) (hTx.fr 6) (by decide +kernel) rfl) pa_nil))))) (pw_or1 (pt_cmpR op_gt (pe_callB (kx_len (K := K) rfl) (by rfl) (hTx.fr 1) (by decide +kernel) (pa_cons (pv 0) pa_nil)) (pe_glob (v := .int 20) rfl (hTx.gi 7).choose_spec ⟨_, rfl⟩) (nomark _)))))
    (pss_one (ps_raise rfl (takes_of rfl rfl rfl rfl) (pmk_own PySem.F.excBase_ValueError (hTx.ex 8).1 (hTx.gl 9) (hTx.ex 8).2.1 (raises_own (hTx.ex 8).2.2.1 (hTx.ex 8).2.2.2) rfl)))
    pss_nil)
    (pss_one (ps_for (passes_of rfl) rfl (kx_plist (K := K) rfl (pv 0)) (pg_name (i := 2) sc_need_wish.nd rfl (Or.inl rfl))
    (pss_one (ps_if (pt_not (pt_val (pe_call G_is_triple (hr.mono (by decide)) rfl g_is_triple k_is_triple b_is_triple .nil pass0 (pa_cons (pv 2) (pa_cons (pv 1) pa_nil)))))
    (pss_one (ps_raise rfl (takes_of rfl rfl rfl rfl) (pmk_own PySem.F.excBase_ValueError (hTx.ex 8).1 (hTx.gl 9) (hTx.ex 8).2.1 (raises_own (hTx.ex 8).2.2.1 (hTx.ex 8).2.2.2) rfl)))
    pss_nil))))), ?_⟩)
  try dsimp only [cx_K, cx_nK]
  rintro _ M nx xe ⟨x, y, rfl, w, rfl, hb, hx⟩
  show S (JX K E xe) _ [some x, some (.int w), none] M _
  rcases hb with ⟨t1, t2⟩ | ⟨ds, hq, hb⟩
  · refine s_seq (s_if (b := true) ?_ (fun _ => s_raise hx (fun _ _ _ z => z)) (fun z => nomatch z))
    exact (et_or (b := true) (c := false) (et_not (b := false) ((et_B (ev_isi (ev_var rfl) ev_ty (kit_tl M x t1).2.1 t1)).is (decide_eq_false t2))) fun z => nomatch z)
  have first : ET (JX K E xe) _ [some x, some (.int w), none] M (decide ((20 : Int) < (ds.length : Int))) := (et_or (b := false) (c := decide ((20 : Int) < (ds.length : Int))) (et_not (b := true) (et_B (ev_isiT (b := true) "list" (ev_var (i := 0) rfl) (ev_ty (i := "list")) (tyN_L hq) (by decide +kernel) (by decide)))) fun _ => et_test (ev_B0 (f := fun i j => decide (j < i)) (ev_len (ev_var (i := 0) rfl) hq.il.q) (ev_int (i := 20)))).is (by simp)
  rcases hb with hb | ⟨hl, hty, d0, hd0, hb⟩
  · exact s_seq (s_if (b := true) (first.is (decide_eq_true (by omega))) (fun _ => s_raise hx (fun _ _ _ z => z)) (fun z => nomatch z))
  refine s_seq (s_if (b := false) (first.is (decide_eq_false (by omega))) (fun z => nomatch z) (fun _ => s_next ?_))
  refine s_for (src_L (ev_var rfl) hq.il) (fun i ρ' M' => M' = M ∧ (∃ a, ρ' = [some x, some (.int w), a]) ∧ ∀ j, j < i → ∀ d, ds[j]? = some d → tripB w d = true) ⟨rfl, ⟨_, rfl⟩, fun j hj => absurd hj (Nat.not_lt_zero _)⟩ (fun i ρ' M' h => by rw [h.1]; exact hq.il) ?_ ?_
  · rintro i d ρ' M' hdd ⟨rfl, ⟨a, rfl⟩, hg⟩
    refine sg_name ?_
    refine s_if (et_not (et_B (ev_is_tripleB (ev_var rfl) (ev_var rfl) (hty d (List.mem_of_getElem? hdd))))) (fun _ => s_raise hx (fun _ _ _ z => z)) (fun hw => s_next ⟨rfl, ⟨_, rfl⟩, fun j hj e he => ?_⟩)
    rcases Nat.lt_or_eq_of_le (Nat.le_of_lt_succ hj) with z | z
    · exact hg j z e he
    · rw [z, hdd] at he
      cases he
      simpa using hw
  · rintro ρ' M' ⟨rfl, ⟨a, rfl⟩, hg⟩
    obtain ⟨j, hj⟩ := List.mem_iff_getElem?.mp hd0
    have := hg j (lt_of_get hj) d0 hj
    rw [hb] at this
    cases this

def pr_within (K : PySem.W.Frag) : Pr := q3 fun x y z M nx _ => ∃ (v : Int) (lo hi : Option Int), x = .int v ∧ y = oD lo ∧ z = oD hi ∧ nx (.bl (withinM v lo hi)) M
section
variable {J : Jx} {ta tb tc : TE} {ρ : Ro} {M : Mp} {E : XK} {x y : D}
theorem ev_within {v : Int} {lo hi : Option Int} (ha : Ev J ta ρ M (.int v)) (hb : Ev J tb ρ M (oD lo)) (hc : Ev J tc ρ M (oD hi)) : Ev J (tCall (spD J.K (pr_within J.K)) [] E (tCons ta (tCons tb (tCons tc tNil)))) ρ M (.bl (withinM v lo hi)) :=
  w_call ((ea_cons ha (ea_cons hb (ea_cons hc ea_nil))).w ⟨_, _, _, rfl, v, lo, hi, rfl, rfl, rfl, rfl, rfl⟩)
end
abbrev nm_within : List Str := ["value", "low", "high"]
theorem sc_within : FnScope nm_within ["value", "low", "high"] (defScope s_within) := ⟨rfl, rfl, rfl, by decide +kernel, rfl, by decide +kernel, by decide +kernel⟩
theorem ok_within (hTx : Tx K mg) : OkF P w K mg base CX0 1 "within" (He.ga K "within") ["value", "low", "high"] (pr_within K) := by
  obtain ⟨_, F⟩ := hTx.fnF 6 s_within "within" 141
  refine ⟨_, ?_, F.binds (ps := ["value", "low", "high"]) fun _ _ _ _ _ _ us hl => match us, hl with | [_, _, _], _ => rfl, F.kp, hTx.gl 69⟩
  refine fn_dl F sc_within (fun _ _ _ _ h => q3_len h) (fun cdv A outer s H E hr => ⟨_, (pss_cons (ps_if (PW.pt (pw_and (pt_cmp (pc_notN (pv 1))) (pw_and1 (pt_cmpR op_lt (pv 0) (pv 1) (nomark _)))))
    (pss_one (ps_ret pe_bl))
    pss_nil)
    (pss_one (ps_ret (pe_or (pe_cmp (pc_isN (pv 2))) (pe_one (pe_cmpR op_le (pv 0) (pv 2) (nomark _))))))), ?_⟩)
  try dsimp only [cx_K, cx_nK]
  rintro _ M nx xe ⟨x, y, z, rfl, v, lo, hi, rfl, rfl, rfl, k⟩
  have tail : ∀ P : Po, P.rt = nx → withinM v lo hi = withinM v none hi → S (J0 K) (tRet (tOrV (tIsN (tVar 2)) (tOp (rI0 fun i j => V.bl (decide (i ≤ j))) (tVar 0) (tVar 2)))) (startD nm_within [.int v, oD lo, oD hi]) M P := fun P hP hw => by
    refine s_retE (d := .bl (withinM v none hi)) ?_ (by rw [hP, ← hw]; exact k)
    cases hi with
    | none => exact (ev_orV (b := true) (c := true) (ev_isNb (ev_var rfl) rfl) fun h => nomatch h)
    | some h => exact (ev_orV (b := false) (ev_isNb (ev_var rfl) rfl) fun _ => ev_B0 (ev_var rfl) (ev_var rfl))
  cases lo with
  | none =>
    refine s_seq (s_if (b := false) (et_and (b := false) (c := false) (et_B (ev_notNb (ev_var rfl) rfl)) fun h => nomatch h) (fun h => nomatch h) (fun _ => s_next ?_))
    exact tail _ rfl rfl
  | some l =>
    refine s_seq (s_if (et_and (b := true) (et_B (ev_notNb (ev_var rfl) rfl)) fun _ => et_test (ev_B0 (ev_var rfl) (ev_var rfl))) (fun h => ?_) (fun h => s_next ?_))
    · refine s_retE ev_bl ?_
      have e : withinM v (some l) hi = false := by
        have h : v < l := by simpa using h
        unfold withinM
        rw [show (Option.all (fun l => decide (l ≤ v)) (some l)) = false from decide_eq_false (by omega), Bool.false_and]
      rw [e] at k
      exact k
    · refine tail _ rfl ?_
      have h : ¬ v < l := by simpa using h
      unfold withinM
      rw [show (Option.all (fun l => decide (l ≤ v)) (some l)) = true from decide_eq_true (by omega)]
      rfl

def pr_fits (K : PySem.W.Frag) : Pr := q2 fun x y M nx _ => ∃ (row : List Int) (wish : List Tr), IsQ M x (row.map .int) ∧ IsL M y (wish.map tD) ∧ ColsOk row.length wish ∧ nx (.bl (fitsM row wish)) M
section
variable {J : Jx} {ta tb tc : TE} {ρ : Ro} {M : Mp} {E : XK} {x y : D}
theorem ev_fits {row : List Int} {wish : List Tr} (ha : Ev J ta ρ M x) (hb : Ev J tb ρ M y) (hx : IsQ M x (row.map .int)) (hy : IsL M y (wish.map tD)) (hc : ColsOk row.length wish) : Ev J (tCall (spD J.K (pr_fits J.K)) [] E (tCons ta (tCons tb tNil))) ρ M (.bl (fitsM row wish)) :=
  w_call ((ea_cons ha (ea_cons hb ea_nil)).w ⟨_, _, rfl, row, wish, hx, hy, hc, rfl, rfl⟩)
end
abbrev nm_fits : List Str := ["row", "wish", "column", "low", "high"]
theorem sc_fits : FnScope nm_fits ["row", "wish"] (defScope s_fits) := ⟨rfl, rfl, rfl, by decide +kernel, rfl, by decide +kernel, by decide +kernel⟩
theorem ok_fits (hTx : Tx K mg) : OkF P w K mg base CX0 2 "fits" (He.ga K "fits") ["row", "wish"] (pr_fits K) := by
  obtain ⟨_, G_within, b_within, k_within, g_within⟩ := ok_within (P := P) (w := w) (base := base) hTx
  obtain ⟨_, F⟩ := hTx.fnF 7 s_fits "fits" 142
  refine ⟨_, ?_, F.binds (ps := ["row", "wish"]) fun _ _ _ _ _ _ us hl => match us, hl with | [_, _], _ => rfl, F.kp, hTx.gl 70⟩
  refine fn_dl F sc_fits (fun _ _ _ _ h => q2_len h) (fun cdv A outer s H E hr => ⟨_, (pss_cons (ps_for PassesOwn.never rfl (kx_plist (K := K) rfl (pv 1)) (kx_gtup (K := K) (n := 3) rfl rfl (pgs_cons (pg_name (i := 2) sc_fits.nd rfl (Or.inl rfl)) (pgs_cons (pg_name (i := 3) sc_fits.nd rfl (Or.inl rfl)) (pgs_cons (pg_name (i := 4) sc_fits.nd rfl (Or.inl rfl)) pgs_nil))))
    (pss_one (ps_if (pt_not (pt_val (pe_call G_within (hr.mono (by decide)) rfl g_within k_within b_within .nil pass0 (pa_cons (pe_ix (kx_ixQ (K := K) rfl) (pv 0) (pv 2) (fun _ _ => rfl)) (pa_cons (pv 3) (pa_cons (pv 4) pa_nil))))))
    (pss_one (ps_ret pe_bl))
    pss_nil)))
    (pss_one (ps_ret pe_bl))), ?_⟩)
  try dsimp only [cx_K, cx_nK]
  rintro _ M nx xe ⟨x, y, rfl, row, wish, hx, hy, hc, k⟩
  refine s_seq (s_for (src_L (ev_var rfl) hy) (fun i ρ' M' => M' = M ∧ (∃ a b c, ρ' = [some x, some y, a, b, c]) ∧ fitsM row wish = fitsM row (wish.drop i)) ⟨rfl, ⟨none, none, none, rfl⟩, rfl⟩ (fun i ρ' M' h => by rw [h.1]; exact hy) ?_ ?_)
  · rintro i d ρ' M' hd ⟨rfl, ⟨a, b, c, rfl⟩, e⟩
    obtain ⟨⟨c, lo, hi⟩, h1, rfl⟩ := get_map hd
    obtain ⟨c0, c1⟩ := hc _ (List.mem_of_getElem? h1)
    rw [drop_at h1] at e
    refine sg_tup rfl (sgs_cons (sg_name (sgs_cons (sg_name (sgs_cons (sg_name (sgs_nil ?_)))))))
    have hv : atI (row.map D.int) c = some (.int (row.getD c.toNat 0)) := atI_int c0 c1
    refine s_if (et_not (et_B (ev_within (ev_ixQ (ev_var rfl) (ev_var rfl) hx hv) (ev_var rfl) (ev_var rfl)))) (fun h => ?_) (fun h => ?_)
    · refine s_retE ev_bl ?_
      have e2 : fitsM row wish = false := by
        rw [e]
        unfold fitsM
        rw [List.all_cons]
        have h : withinM (row.getD c.toNat 0) lo hi = false := by simpa using h
        rw [h, Bool.false_and]
      rw [e2] at k
      exact k
    · refine s_next ⟨rfl, ⟨_, _, _, rfl⟩, ?_⟩
      rw [e]
      have h : withinM (row.getD c.toNat 0) lo hi = true := by simpa using h
      unfold fitsM
      rw [List.all_cons, h, Bool.true_and]
  · rintro ρ' M' ⟨rfl, ⟨a, b, c, rfl⟩, e⟩
    refine s_retE ev_bl ?_
    rw [List.length_map, List.drop_length] at e
    rw [e] at k
    exact k

def gE : Option Int → Option Int → Option Int
  | none, b => b
  | some a, none => some a
  | some a, some b => some (max a b)
def pr_greater_end (K : PySem.W.Frag) : Pr := q2 fun x y M nx _ => ∃ a b : Option Int, x = oD a ∧ y = oD b ∧ nx (oD (gE a b)) M
section
variable {J : Jx} {ta tb tc : TE} {ρ : Ro} {M : Mp} {E : XK} {x y : D}
theorem ev_greater_end {a b : Option Int} (ha : Ev J ta ρ M (oD a)) (hb : Ev J tb ρ M (oD b)) : Ev J (tCall (spD J.K (pr_greater_end J.K)) [] E (tCons ta (tCons tb tNil))) ρ M (oD (gE a b)) :=
  w_call ((ea_cons ha (ea_cons hb ea_nil)).w ⟨_, _, rfl, a, b, rfl, rfl, rfl, rfl⟩)
end
abbrev nm_greater_end : List Str := ["one", "other"]
theorem sc_greater_end : FnScope nm_greater_end ["one", "other"] (defScope s_greater_end) := ⟨rfl, rfl, rfl, by decide +kernel, rfl, by decide +kernel, by decide +kernel⟩
theorem ok_greater_end (hTx : Tx K mg) : OkF P w K mg base CX0 1 "greater_end" (He.ga K "greater_end") ["one", "other"] (pr_greater_end K) := by
  obtain ⟨_, F⟩ := hTx.fnF 8 s_greater_end "greater_end" 143
  refine ⟨_, ?_, F.binds (ps := ["one", "other"]) fun _ _ _ _ _ _ us hl => match us, hl with | [_, _], _ => rfl, F.kp, hTx.gl 71⟩
  refine fn_dl F sc_greater_end (fun _ _ _ _ h => q2_len h) (fun cdv A outer s H E hr => ⟨_, (pss_cons (ps_if (pt_cmp (pc_isN (pv 0)))
    (pss_one (ps_ret (pv 1)))
    pss_nil)
    (pss_cons (ps_if (pt_cmp (pc_isN (pv 1)))
    (pss_one (ps_ret (pv 0)))
    pss_nil)
    (pss_one (ps_ret (pe_callB (call_max2 rfl) (by rfl) (hTx.fr 10) (by decide +kernel) (pa_cons (pv 0) (pa_cons (pv 1) pa_nil))))))), ?_⟩)
  try dsimp only [cx_K, cx_nK]
  rintro _ M nx xe ⟨x, y, rfl, a, b, rfl, rfl, k⟩
  cases a with
  | none => exact s_seq (s_if (b := true) (et_B (ev_isNb (ev_var rfl) rfl)) (fun _ => s_retE (ev_var rfl) k) (fun h => nomatch h))
  | some a =>
    refine s_seq (s_if (b := false) (et_B (ev_isNb (ev_var rfl) rfl)) (fun h => nomatch h) (fun _ => s_next ?_))
    cases b with
    | none => exact s_seq (s_if (b := true) (et_B (ev_isNb (ev_var rfl) rfl)) (fun _ => s_retE (ev_var rfl) k) (fun h => nomatch h))
    | some b =>
      refine s_seq (s_if (b := false) (et_B (ev_isNb (ev_var rfl) rfl)) (fun h => nomatch h) (fun _ => s_next ?_))
      exact s_retE (ev_max2 (ev_var rfl) (ev_var rfl)) k

def lE : Option Int → Option Int → Option Int
  | none, b => b
  | some a, none => some a
  | some a, some b => some (min a b)
def pr_lesser_end (K : PySem.W.Frag) : Pr := q2 fun x y M nx _ => ∃ a b : Option Int, x = oD a ∧ y = oD b ∧ nx (oD (lE a b)) M
section
variable {J : Jx} {ta tb tc : TE} {ρ : Ro} {M : Mp} {E : XK} {x y : D}
theorem ev_lesser_end {a b : Option Int} (ha : Ev J ta ρ M (oD a)) (hb : Ev J tb ρ M (oD b)) : Ev J (tCall (spD J.K (pr_lesser_end J.K)) [] E (tCons ta (tCons tb tNil))) ρ M (oD (lE a b)) :=
  w_call ((ea_cons ha (ea_cons hb ea_nil)).w ⟨_, _, rfl, a, b, rfl, rfl, rfl, rfl⟩)
end
abbrev nm_lesser_end : List Str := ["one", "other"]
theorem sc_lesser_end : FnScope nm_lesser_end ["one", "other"] (defScope s_lesser_end) := ⟨rfl, rfl, rfl, by decide +kernel, rfl, by decide +kernel, by decide +kernel⟩
theorem ok_lesser_end (hTx : Tx K mg) : OkF P w K mg base CX0 1 "lesser_end" (He.ga K "lesser_end") ["one", "other"] (pr_lesser_end K) := by
  obtain ⟨_, F⟩ := hTx.fnF 9 s_lesser_end "lesser_end" 144
  refine ⟨_, ?_, F.binds (ps := ["one", "other"]) fun _ _ _ _ _ _ us hl => match us, hl with | [_, _], _ => rfl, F.kp, hTx.gl 72⟩
  refine fn_dl F sc_lesser_end (fun _ _ _ _ h => q2_len h) (fun cdv A outer s H E hr => ⟨_, (pss_cons (ps_if (pt_cmp (pc_isN (pv 0)))
    (pss_one (ps_ret (pv 1)))
    pss_nil)
    (pss_cons (ps_if (pt_cmp (pc_isN (pv 1)))
    (pss_one (ps_ret (pv 0)))
    pss_nil)
    (pss_one (ps_ret (pe_callB (call_min2 rfl) (by rfl) (hTx.fr 11) (by decide +kernel) (pa_cons (pv 0) (pa_cons (pv 1) pa_nil))))))), ?_⟩)
  try dsimp only [cx_K, cx_nK]
  rintro _ M nx xe ⟨x, y, rfl, a, b, rfl, rfl, k⟩
  cases a with
  | none => exact s_seq (s_if (b := true) (et_B (ev_isNb (ev_var rfl) rfl)) (fun _ => s_retE (ev_var rfl) k) (fun h => nomatch h))
  | some a =>
    refine s_seq (s_if (b := false) (et_B (ev_isNb (ev_var rfl) rfl)) (fun h => nomatch h) (fun _ => s_next ?_))
    cases b with
    | none => exact s_seq (s_if (b := true) (et_B (ev_isNb (ev_var rfl) rfl)) (fun _ => s_retE (ev_var rfl) k) (fun h => nomatch h))
    | some b =>
      refine s_seq (s_if (b := false) (et_B (ev_isNb (ev_var rfl) rfl)) (fun h => nomatch h) (fun _ => s_next ?_))
      exact s_retE (ev_min2 (ev_var rfl) (ev_var rfl)) k

/-- the greatest low end, the least high end of a column -/
def lowOf (wish : List Tr) (c : Int) : Option Int := wish.foldl (fun a t => if t.1 = c then gE a t.2.1 else a) none
def highOf (wish : List Tr) (c : Int) : Option Int := wish.foldl (fun a t => if t.1 = c then lE a t.2.2 else a) none
def speaks (wish : List Tr) (c : Int) : Bool := wish.any fun t => decide (t.1 = c)
def colsM (wish : List Tr) : List Int := ((List.range 6).map fun (c : Nat) => (c : Int)).filter fun c => speaks wish c
/-- the merged wish, of columns 0 to 5 -/
def mergeM (wish : List Tr) : List Tr := (colsM wish).map fun c => (c, lowOf wish c, highOf wish c)
theorem lowOf_snoc {w : List Tr} {t : Tr} {c : Int} : lowOf (w ++ [t]) c = if t.1 = c then gE (lowOf w c) t.2.1 else lowOf w c := by
  unfold lowOf; rw [List.foldl_append]; rfl
theorem highOf_snoc {w : List Tr} {t : Tr} {c : Int} : highOf (w ++ [t]) c = if t.1 = c then lE (highOf w c) t.2.2 else highOf w c := by
  unfold highOf; rw [List.foldl_append]; rfl
theorem speaks_snoc {w : List Tr} {t : Tr} {c : Int} : speaks (w ++ [t]) c = (speaks w c || decide (t.1 = c)) := by
  unfold speaks; rw [List.any_append]; simp
theorem not_speaks {c : Int} : ∀ {w : List Tr}, speaks w c = false → lowOf w c = none ∧ highOf w c = none := by
  intro w h
  have key : ∀ (w : List Tr) (a b : Option Int), speaks w c = false → w.foldl (fun a t => if t.1 = c then gE a t.2.1 else a) a = a ∧ w.foldl (fun a t => if t.1 = c then lE a t.2.2 else a) b = b := by
    intro w
    induction w with
    | nil => intro a b _; exact ⟨rfl, rfl⟩
    | cons t w ih =>
      intro a b h
      unfold speaks at h
      rw [List.any_cons, Bool.or_eq_false_iff] at h
      have hn : ¬ t.1 = c := of_decide_eq_false h.1
      rw [List.foldl_cons, List.foldl_cons, if_neg hn, if_neg hn]
      exact ih a b h.2
  exact key w none none h
theorem colsM_mem {w : List Tr} {c : Int} : c ∈ colsM w ↔ (0 ≤ c ∧ c < 6) ∧ speaks w c = true := by
  unfold colsM
  rw [List.mem_filter, List.mem_map]
  constructor
  · rintro ⟨⟨k, hk, rfl⟩, h⟩
    exact ⟨⟨by omega, by have := List.mem_range.mp hk; omega⟩, h⟩
  · rintro ⟨⟨h0, h1⟩, h⟩
    exact ⟨⟨c.toNat, List.mem_range.mpr (by omega), by omega⟩, h⟩
theorem colsM_sorted (w : List Tr) : (colsM w).Pairwise (· < ·) := by
  unfold colsM
  refine List.Pairwise.filter _ (List.pairwise_map.mpr ?_)
  exact List.pairwise_lt_range.imp fun h => by omega
theorem colsM_nodup (w : List Tr) : (colsM w).Nodup := (colsM_sorted w).imp fun h => by omega
abbrev prD (w : List Tr) (c : Int) : D := .tup [oD (lowOf w c), oD (highOf w c)]
/-- the dict of ends behind some triples -/
structure EndsAt (w : List Tr) (kvs : List (Key × D)) : Prop where
  keys : ∃ ks : List Int, kvs.map (·.1) = ks.map Sum.inl ∧ ks.Nodup ∧ ks.length ≤ w.length
  val : ∀ c : Int, valA kvs (.inl c) = if speaks w c = true then some (prD w c) else none
theorem EndsAt.get {w : List Tr} {kvs : List (Key × D)} (h : EndsAt w kvs) (c : Int) : (valA kvs (.inl c)).getD (.tup [.non, .non]) = prD w c := by
  rw [h.val]
  cases e : speaks w c with
  | true => rfl
  | false =>
    obtain ⟨h1, h2⟩ := not_speaks e
    unfold prD
    rw [h1, h2]
    rfl
theorem EndsAt.put {w : List Tr} {kvs : List (Key × D)} (h : EndsAt w kvs) (t : Tr) : EndsAt (w ++ [t]) (putA kvs (.inl t.1) (.tup [oD (gE (lowOf w t.1) t.2.1), oD (lE (highOf w t.1) t.2.2)])) := by
  obtain ⟨ks, h1, h2, h3⟩ := h.keys
  refine ⟨?_, fun c => ?_⟩
  · rw [putA_keys]
    by_cases e : (valA kvs (.inl t.1)).isSome = true
    · rw [if_pos e]
      exact ⟨ks, h1, h2, by rw [List.length_append]; omega⟩
    · rw [if_neg e]
      have hn : valA kvs (.inl t.1) = none := by simpa using e
      rw [valA_none, h1] at hn
      refine ⟨ks ++ [t.1], by rw [h1, List.map_append]; rfl, ?_, by rw [List.length_append, List.length_append]; simp; exact h3⟩
      refine List.nodup_append.mpr ⟨h2, List.pairwise_singleton _ _, fun a ha b hb => ?_⟩
      rw [List.mem_singleton] at hb
      subst hb
      intro z
      subst z
      exact hn (List.mem_map_of_mem ha)
  · rw [valA_put, h.val, speaks_snoc]
    by_cases e : t.1 = c
    · subst e
      rw [if_pos rfl, decide_eq_true rfl, Bool.or_true, if_pos rfl]
      unfold prD
      rw [lowOf_snoc, highOf_snoc, if_pos rfl, if_pos rfl]
    · rw [if_neg (fun z => e (Sum.inl.inj z).symm), decide_eq_false e, Bool.or_false]
      unfold prD
      rw [lowOf_snoc, highOf_snoc, if_neg e, if_neg e]
def pr_merged (K : PySem.W.Frag) : Pr := q1 fun x M nx _ => ∃ wish : List Tr, IsL M x (wish.map tD) ∧ ColsOk 6 wish ∧ wish.length ≤ 1000 ∧ ∀ p, M p = none → nx (.ref p) (ud M p (.lst ((mergeM wish).map tD)))
section
variable {J : Jx} {ta tb tc : TE} {ρ : Ro} {M : Mp} {E : XK} {x y : D}
theorem en_merged {wish : List Tr} (ha : Ev J ta ρ M x) (hx : IsL M x (wish.map tD)) (hc : ColsOk 6 wish) (hl : wish.length ≤ 1000) : EvN J (tCall (spD J.K (pr_merged J.K)) [] E (tCons ta tNil)) ρ M ((mergeM wish).map tD) :=
  w_call ((ea_cons ha ea_nil).w ⟨_, rfl, wish, hx, hc, hl, fun p hp => ⟨p, hp, rfl, rfl⟩⟩)
end
theorem gE_none (b : Option Int) : gE none b = b := by unfold gE; rfl
theorem gE_none2 (a : Option Int) : gE a none = a := by cases a <;> rfl
abbrev nm_merged : List Str := ["wish", "ends", "column", "low", "high", "old"]
theorem sc_merged : FnScope nm_merged ["wish"] (defScope s_merged) := ⟨rfl, rfl, rfl, by decide +kernel, rfl, by decide +kernel, by decide +kernel⟩
theorem ok_merged (hTx : Tx K mg) : OkF P w K mg base CX0 2 "merged" (He.ga K "merged") ["wish"] (pr_merged K) := by
  obtain ⟨_, G_greater_end, b_greater_end, k_greater_end, g_greater_end⟩ := ok_greater_end (P := P) (w := w) (base := base) hTx
  obtain ⟨_, G_lesser_end, b_lesser_end, k_lesser_end, g_lesser_end⟩ := ok_lesser_end (P := P) (w := w) (base := base) hTx
  obtain ⟨_, F⟩ := hTx.fnF 10 s_merged "merged" 145
  refine ⟨_, ?_, F.binds (ps := ["wish"]) fun _ _ _ _ _ _ us hl => match us, hl with | [_], _ => rfl, F.kp, hTx.gl 73⟩
  refine fn_dl F sc_merged (fun _ _ _ _ h => q1_len h) (fun cdv A outer s H E hr => ⟨_, (pss_cons (ps_set (i := 1) sc_merged.nd rfl (Or.inr rfl) pe_dnewK)
    (pss_cons (ps_for PassesOwn.never rfl (kx_plist (K := K) rfl (pv 0)) (kx_gtup (K := K) (n := 3) rfl rfl (pgs_cons (pg_name (i := 2) sc_merged.nd rfl (Or.inl rfl)) (pgs_cons (pg_name (i := 3) sc_merged.nd rfl (Or.inl rfl)) (pgs_cons (pg_name (i := 4) sc_merged.nd rfl (Or.inl rfl)) pgs_nil))))
    (pss_cons (ps_set (i := 5) sc_merged.nd rfl (Or.inl rfl) (pe_dget2 (hu_of hr) (pv 1) (pv 2) (pe_tup (pa_cons pe_non (pa_cons pe_non pa_nil))) ⟨by rfl, by rfl, by rfl, by rfl⟩))
    (pss_one (ps_dput (hu_of hr) (pv 1) (pv 2) (pe_tup (pa_cons (pe_call G_greater_end (hr.mono (by decide)) rfl g_greater_end k_greater_end b_greater_end .nil pass0 (pa_cons (pe_ix (kx_ixT (K := K) rfl) (pv 5) pe_int (fun _ _ => rfl)) (pa_cons (pv 3) pa_nil))) (pa_cons (pe_call G_lesser_end (hr.mono (by decide)) rfl g_lesser_end k_lesser_end b_lesser_end .nil pass0 (pa_cons (pe_ix (kx_ixT (K := K) rfl) (pv 5) pe_int (fun _ _ => rfl)) (pa_cons (pv 4) pa_nil))) pa_nil))) rfl))))
    (pss_one (ps_ret (pe_lc (own := [("column", 2)]) (g := gName 2) rfl sc_merged.nd (kx_plist (K := K) rfl (pe_sortedKeys rfl (pv 1) (by rfl) (hTx.fr 12) (by decide +kernel))) (blkOk_by (N := nm_merged) (sc := defScope s_merged) (own := [("column", 2)]) (by decide +kernel)) (fun _ _ _ _ _ => pg_name (i := 2) sc_merged.nd rfl (Or.inl rfl)) (fun _ _ _ _ _ => pts_nil) (fun _ _ _ _ _ => (pe_tup (pa_cons (pv 2) (pa_cons (pe_ix (kx_ixT (K := K) rfl) (pe_dget (hu_of hr) (pv 1) (pv 2) (fun _ _ => rfl)) pe_int (fun _ _ => rfl)) (pa_cons (pe_ix (kx_ixT (K := K) rfl) (pe_dget (hu_of hr) (pv 1) (pv 2) (fun _ _ => rfl)) pe_int (fun _ _ => rfl)) pa_nil)))))))))), ?_⟩)
  try dsimp only [cx_K, cx_nK]
  rintro _ M nx xe ⟨x, rfl, wish, hx, hc, hl, k⟩
  refine s_seq (s_asg (w_dnew fun p hp => ?_))
  have sb := fun kvs => Sub.new (o := MO.dct kvs) hp
  refine s_seq (s_for (src_L (ev_var rfl) (hx.sub (sb _))) (fun i ρ' M' => ∃ kvs, M' = ud M p (.dct kvs) ∧ (∃ a b c d, ρ' = [some x, some (.ref p), a, b, c, d]) ∧ EndsAt (wish.take i) kvs) ⟨[], rfl, ⟨none, none, none, none, rfl⟩, ⟨[], rfl, List.nodup_nil, Nat.le_refl _⟩, fun c => rfl⟩ (fun i ρ' M' ⟨kvs, h, _⟩ => by rw [h]; exact hx.sub (sb _)) ?_ ?_)
  · rintro i d ρ' M' hd ⟨kvs, rfl, ⟨a, b, c, d', rfl⟩, E1⟩
    obtain ⟨⟨c, lo, hi⟩, h1, rfl⟩ := get_map hd
    obtain ⟨c0, c1⟩ := hc _ (List.mem_of_getElem? h1)
    refine sg_tup rfl (sgs_cons (sg_name (sgs_cons (sg_name (sgs_cons (sg_name (sgs_nil ?_)))))))
    refine s_seq (s_asgE ((ev_dget2 (k := .inl c) (ev_var rfl) (ev_var rfl) (ev_tup (ds := [.non, .non]) (by walk_at "ev") (sz (by simp))) ud_same).is (E1.get c)) ?_)
    obtain ⟨ks, k1, k2, k3⟩ := E1.keys
    have hkl : kvs.length ≤ 1000 := by
      have e := congrArg List.length k1
      rw [List.length_map, List.length_map] at e
      rw [List.length_take] at k3
      omega
    refine s_dput (k := .inl c) (kvs := kvs) (ev_tup (ds := [oD (gE (lowOf (wish.take i) c) lo), oD (lE (highOf (wish.take i) c) hi)]) (ea_cons (ev_greater_end (ev_ixT (ds := [oD (lowOf (wish.take i) c), oD (highOf (wish.take i) c)]) (ev_var rfl) ev_int rfl) (ev_var rfl)) (ea_cons (ev_lesser_end (ev_ixT (ds := [oD (lowOf (wish.take i) c), oD (highOf (wish.take i) c)]) (ev_var rfl) ev_int rfl) (ev_var rfl)) ea_nil)) (sz (by simp))) (ev_var rfl) (ev_var rfl) ud_same (szl (by omega)) ?_
    refine ⟨_, by rw [ud_ud], ⟨_, _, _, _, rfl⟩, ?_⟩
    have tk : wish.take (i + 1) = wish.take i ++ [(c, lo, hi)] := by
      obtain ⟨hl, e⟩ := List.getElem?_eq_some_iff.mp h1
      rw [← e]
      exact (List.take_append_getElem hl).symm
    rw [tk]
    exact E1.put (c, lo, hi)
  · rintro ρ' M' ⟨kvs, rfl, ⟨a, b, c, d', rfl⟩, E1⟩
    rw [List.length_map, List.take_length] at E1
    obtain ⟨ks, k1, k2, k3⟩ := E1.keys
    have hmem : ∀ c : Int, c ∈ ks ↔ c ∈ colsM wish := fun c => by
      have e1 := E1.val c
      rw [colsM_mem]
      constructor
      · intro h
        have hs : speaks wish c = true := by
          cases q : speaks wish c with
          | true => rfl
          | false =>
            rw [q] at e1
            have := valA_none.mp e1
            rw [k1] at this
            exact absurd (List.mem_map_of_mem h) this
        refine ⟨?_, hs⟩
        obtain ⟨t, ht, e⟩ := List.any_eq_true.mp hs
        have e := of_decide_eq_true e
        rw [← e]
        exact hc t ht
      · intro h
        rw [if_pos h.2] at e1
        have h2 := List.mem_map_of_mem (f := (·.1)) (valA_mem e1)
        rw [k1] at h2
        obtain ⟨c', hc', e⟩ := List.mem_map.mp h2
        cases e
        exact hc'
    have hperm : (colsM wish).Perm ks := (List.perm_ext_iff_of_nodup (colsM_nodup wish) k2).mpr fun c => (hmem c).symm
    refine s_ret (W.weak (EvN.is (en_lc1 (colsM wish) D.int (fun c => tD (c, lowOf wish c, highOf wish c)) (src_l (en_sortedKeys (ev_var rfl) ud_same k1 hperm ((colsM_sorted wish).imp fun h => by omega)).ev (.inl rfl)) (fun _ _ => trivial) (szl ?_) fun M1 c s1 hcm => ?_) (es := (mergeM wish).map tD) (by unfold mergeM; rw [List.map_map] <;> rfl)) ?_)
    · have := hperm.length_eq
      omega
    · have hv : valA kvs (.inl c) = some (prD wish c) := by rw [E1.val, if_pos (colsM_mem.mp hcm).2]
      have hd : M1 p = some (.dct kvs) := s1 p _ ud_same
      exact ev_tup (ds := [.int c, oD (lowOf wish c), oD (highOf wish c)]) (ea_cons (ev_var rfl) (ea_cons (ev_ixT (ds := [oD (lowOf wish c), oD (highOf wish c)]) (ev_dget (k := .inl c) (ev_var rfl) (ev_var rfl) hd hv) ev_int rfl) (ea_cons (ev_ixT (ds := [oD (lowOf wish c), oD (highOf wish c)]) (ev_dget (k := .inl c) (ev_var rfl) (ev_var rfl) hd hv) ev_int rfl) ea_nil))) (sz (by simp))
    · rintro d M' ⟨q, hq, rfl, rfl⟩
      exact ⟨_, sub_ud (sb _), k q ((sb _).back hq)⟩

theorem look_ne {α : Type} {f g : Str} {x : α} {r : List (Str × α)} (h : (f == g) = false) : List.lookup f ((g, x) :: r) = List.lookup f r := by rw [List.lookup_cons, h]
theorem look_eq {α : Type} {f : Str} {x : α} {r : List (Str × α)} : List.lookup f ((f, x) :: r) = some x := by
  rw [List.lookup_cons, show (f == f) = true from beq_iff_eq.mpr rfl]
/-- an order's fields -/
def kf (cols : List Int) (l : Addr) : List (Str × D) := [("columns", .tup (cols.map .int)), ("entries", .ref l)]
theorem kf_cols (cols : List Int) (l : Addr) : List.lookup ("columns" : Str) (kf cols l) = some (.tup (cols.map .int)) := look_eq
theorem kf_ents (cols : List Int) (l : Addr) : List.lookup ("entries" : Str) (kf cols l) = some (.ref l) := by
  unfold kf
  rw [look_ne (by decide +kernel)]
  exact look_eq
theorem kf_no (cols : List Int) (l : Addr) {m : Str} (h1 : (m == ("columns" : Str)) = false) (h2 : (m == ("entries" : Str)) = false) : (kf cols l).lookup m = none := by
  unfold kf
  rw [look_ne h1, look_ne h2]
  rfl
/-- an order that is kept stands at p, its entries at l -/
structure KeptAt (K : PySem.W.Frag) (M : Mp) (p l : Addr) (cols : List Int) (es : List (List Int)) : Prop where
  ob : M p = some (.ins (He.ga K "Kept") (kf cols l))
  en : M l = some (.lst (es.map dI))
theorem KeptAt.sub {K : PySem.W.Frag} {M M' : Mp} {p l : Addr} {cols : List Int} {es : List (List Int)} (h : KeptAt K M p l cols es) (s : Sub M M') : KeptAt K M' p l cols es := ⟨s _ _ h.ob, s _ _ h.en⟩
theorem KeptAt.ne {K : PySem.W.Frag} {M : Mp} {p l : Addr} {cols : List Int} {es : List (List Int)} (h : KeptAt K M p l cols es) : p ≠ l := ne_mo h.ob h.en (by intro z; cases z)
def pr_Kept_init (K : PySem.W.Frag) : Pr := q2 fun s c M nx _ => ∃ (p : Addr) (cols : List Int), s = .ref p ∧ c = .tup (cols.map .int) ∧ M p = some (.ins (He.ga K "Kept") []) ∧ ∀ l, M l = none → nx .non (ud (ud M l (.lst [])) p (.ins (He.ga K "Kept") (kf cols l)))
abbrev nm_Kept_init : List Str := ["self", "columns"]
theorem sc_Kept_init : FnScope nm_Kept_init ["self", "columns"] (defScope s_Kept_init) := ⟨rfl, rfl, rfl, by decide +kernel, rfl, by decide +kernel, by decide +kernel⟩
theorem ok_Kept_init (hTx : Tx K mg) : OkM P w K mg base CX0 1  (He.ma K (He.ga K "Kept") "__init__") ["self", "columns"] (pr_Kept_init K) := by
  obtain ⟨_, F⟩ := hTx.fnM 11 s_Kept_init "Kept" "__init__" "Kept.__init__" 76
  refine ⟨_, ?_, F.binds (ps := ["self", "columns"]) fun _ _ _ _ _ _ us hl => match us, hl with | [_, _], _ => rfl⟩
  refine fn_dl F sc_Kept_init (fun _ _ _ _ h => q2_len h) (fun cdv A outer s H E hr => ⟨_, (pss_cons (kx_sfld (K := K) rfl (pv 0) (pv 1) rfl)
    (pss_one (kx_sfld (K := K) rfl (pv 0) (pe_lst pa_nil) rfl))), ?_⟩)
  try dsimp only [cx_K, cx_nK]
  rintro _ M nx xe ⟨s, c, rfl, p, cols, rfl, rfl, hp, k⟩
  refine s_seq (s_fld (ev_var rfl) (ev_var rfl) hp (hTx.cl 13) (hTx.na 74) (by show 0 < 1000; decide) ?_)
  refine s_fldW (a := p) ((en_lst (ds := []) ea_nil (Nat.zero_le _)).w fun l hl => ?_) (hTx.cl 13) (hTx.na 75)
  have hpl : p ≠ l := fun z => by rw [← z, ud_same] at hl; cases hl
  have hl0 : M l = none := by rw [ud_ne hpl.symm] at hl; exact hl
  refine ⟨ev_var rfl, _, by rw [ud_ne hpl]; exact ud_same, by show 1 < 1000; decide, ?_⟩
  have e1 : putD "entries" (.ref l) (putD "columns" (.tup (cols.map .int)) []) = kf cols l := by
    show (if (("columns" : Str) = "entries") then _ else _) = _
    rw [if_neg (by decide +kernel)]
    rfl
  have e2 : ud (ud (ud M p (.ins (He.ga K "Kept") (putD "columns" (.tup (cols.map .int)) []))) l (.lst [])) p (.ins (He.ga K "Kept") (putD "entries" (.ref l) (putD "columns" (.tup (cols.map .int)) []))) = ud (ud M l (.lst [])) p (.ins (He.ga K "Kept") (kf cols l)) := by
    rw [e1, ud_comm hpl, ud_ud]
  show nx .non (ud (ud (ud M p (.ins (He.ga K "Kept") (putD "columns" (.tup (cols.map .int)) []))) l (.lst [])) p (.ins (He.ga K "Kept") (putD "entries" (.ref l) (putD "columns" (.tup (cols.map .int)) []))))
  rw [e2]
  exact k l hl0

/-- what is kept of a row -/
def entryM (cols : List Int) (num : Int) (row : List Int) : List Int := cols.map (fun c => row.getD c.toNat 0) ++ [num]
def ColsIn (cols : List Int) (n : Nat) : Prop := ∀ c ∈ cols, 0 ≤ c ∧ c < (n : Int)
def pr_Kept_entry (K : PySem.W.Frag) : Pr := q3 fun s n r M nx _ => ∃ (p l : Addr) (cols row : List Int) (num : Int), s = .ref p ∧ n = .int num ∧ M p = some (.ins (He.ga K "Kept") (kf cols l)) ∧ IsQ M r (row.map .int) ∧ ColsIn cols row.length ∧ cols.length ≤ 1000 ∧ ∀ q, M q = none → nx (.ref q) (ud M q (.lst ((entryM cols num row).map .int)))
section
variable {J : Jx} {ta tb tc to : TE} {ρ : Ro} {M : Mp} {E : XK} {x y z : D}
theorem en_Kept_entry {p l : Addr} {cols row : List Int} {num : Int} (ho : Ev J to ρ M (.ref p)) (hm : M p = some (.ins (He.ga J.K "Kept") (kf cols l))) (hb : Ev J tb ρ M (.int num)) (hc : Ev J tc ρ M z) (hz : IsQ M z (row.map .int)) (hin : ColsIn cols row.length) (hl : cols.length ≤ 1000) :
    EvN J (tMeth (He.ga J.K "Kept") "entry" (spD J.K (pr_Kept_entry J.K)) [] E to (tCons tb (tCons tc tNil))) ρ M ((entryM cols num row).map .int) :=
  w_meth0 ho hm (kf_no _ _ (by decide +kernel) (by decide +kernel)) (ea_cons hb (ea_cons hc ea_nil)) ⟨_, _, _, rfl, p, l, cols, row, num, rfl, rfl, hm, hz, hin, hl, fun q hq => ⟨q, hq, rfl, rfl⟩⟩
end
abbrev nm_Kept_entry : List Str := ["self", "number", "row", "column"]
theorem sc_Kept_entry : FnScope nm_Kept_entry ["self", "number", "row"] (defScope s_Kept_entry) := ⟨rfl, rfl, rfl, by decide +kernel, rfl, by decide +kernel, by decide +kernel⟩
theorem ok_Kept_entry (hTx : Tx K mg) : OkM P w K mg base CX0 1  (He.ma K (He.ga K "Kept") "entry") ["self", "number", "row"] (pr_Kept_entry K) := by
  obtain ⟨_, F⟩ := hTx.fnM 12 s_Kept_entry "Kept" "entry" "Kept.entry" 14
  refine ⟨_, ?_, F.binds (ps := ["self", "number", "row"]) fun _ _ _ _ _ _ us hl => match us, hl with | [_, _, _], _ => rfl⟩
  refine fn_dl F sc_Kept_entry (fun _ _ _ _ h => q3_len h) (fun cdv A outer s H E hr => ⟨_, (pss_one (ps_ret (pe_op op_cat (pe_lc (own := [("column", 3)]) (g := gName 3) rfl sc_Kept_entry.nd (kx_ptup (K := K) rfl (kx_fld (K := K) rfl (pv 0) rfl)) (blkOk_by (N := nm_Kept_entry) (sc := defScope s_Kept_entry) (own := [("column", 3)]) (by decide +kernel)) (fun _ _ _ _ _ => pg_name (i := 3) sc_Kept_entry.nd rfl (Or.inl rfl)) (fun _ _ _ _ _ => pts_nil) (fun _ _ _ _ _ => (pe_ix (kx_ixQ (K := K) rfl) (pv 2) (pv 3) (fun _ _ => rfl)))) (pe_lst (pa_cons (pv 1) pa_nil))))), ?_⟩)
  try dsimp only [cx_K, cx_nK]
  rintro _ M nx xe ⟨s, n, r, rfl, p, l, cols, row, num, rfl, rfl, hp, hr, hin, hl, k⟩
  refine s_ret (EvN.w (EvN.is (en_cat (ds := (cols.map fun c => row.getD c.toNat 0).map D.int) (es := [.int num]) (Ev.is (EvN.ev (en_lc1 cols D.int (fun c => D.int (row.getD c.toNat 0)) (src_t (ev_fld (ev_var rfl) hp (hTx.cl 13) (hTx.na 74) (kf_cols _ _))) (fun _ _ => trivial) (szl (by omega)) fun M1 c sb hc => ?_)) (by rw [List.map_map] <;> rfl)) (en_lst (by walk_at "ev") (sz (by simp))).ev .l .l (sz (by simp; omega))) (es := (entryM cols num row).map .int) (by unfold entryM; rw [List.map_append]; rfl)) k)
  obtain ⟨c0, c1⟩ := hin c hc
  exact ev_ixQ (ev_var rfl) (ev_var rfl) (hr.sub sb) (atI_int c0 c1)

def insE (es : List (List Int)) (e : List Int) : List (List Int) := es.take (cntB es e) ++ [e] ++ es.drop (cntB es e)
/-- the count cuts a rising list -/
theorem cut_lt {e : List Int} : ∀ {es : List (List Int)}, Rising es → (∀ x ∈ es.take (cntB es e), lessM x e = true) ∧ (∀ x ∈ es.drop (cntB es e), lessM x e = false)
  | [], _ => ⟨fun x h => by simp at h, fun x h => by simp at h⟩
  | a :: es, h => by
    have hc := List.pairwise_cons.mp h
    obtain ⟨i1, i2⟩ := cut_lt (e := e) (es := es) hc.2
    cases q : lessM a e with
    | true =>
      have ec : cntB (a :: es) e = cntB es e + 1 := List.countP_cons_of_pos (p := fun r => lessM r e) q
      rw [ec]
      refine ⟨fun x hx => ?_, fun x hx => i2 x (by simpa using hx)⟩
      rw [List.take_succ_cons] at hx
      rcases List.mem_cons.mp hx with rfl | hx
      · exact q
      · exact i1 x hx
    | false =>
      have hall : ∀ x ∈ es, lessM x e = false := fun x hx => by
        cases q2 : lessM x e with
        | false => rfl
        | true =>
          have := lessM_le_lt (hc.1 x hx) q2
          rw [q] at this
          cases this
      have ec : cntB (a :: es) e = 0 := List.countP_eq_zero.mpr fun x hx => by
        rcases List.mem_cons.mp hx with rfl | hx
        · rw [q]; exact Bool.false_ne_true
        · rw [hall x hx]; exact Bool.false_ne_true
      rw [ec]
      refine ⟨fun x hx => by simp at hx, fun x hx => ?_⟩
      rcases List.mem_cons.mp (by simpa using hx) with rfl | hx
      · exact q
      · exact hall x hx
/-- entries of the rows there, each ahead of the next -/
structure KOrd (cols : List Int) (th : Th) (es : List (List Int)) : Prop where
  perm : es.Perm (th.map fun p => entryM cols p.1 p.2)
  ord : es.Pairwise fun a b => lessM a b = true
theorem lessM_asym {a b : List Int} (h : lessM a b = true) : lessM b a = false := by
  cases q : lessM b a with
  | false => rfl
  | true =>
    have := lessM_trans h q
    rw [lessM_irr] at this
    cases this
theorem KOrd.rising {cols : List Int} {th : Th} {es : List (List Int)} (h : KOrd cols th es) : Rising es := h.ord.imp lessM_asym
theorem KOrd.len {cols : List Int} {th : Th} {es : List (List Int)} (h : KOrd cols th es) : es.length = th.length := by rw [h.perm.length_eq, List.length_map]
theorem entryM_last (cols : List Int) (n : Int) (r : List Int) : (entryM cols n r).getLastD 0 = n := by
  unfold entryM
  rw [List.getLastD_eq_getLast?, List.getLast?_append]
  rfl
theorem insE_perm (es : List (List Int)) (e : List Int) : (insE es e).Perm (e :: es) := by
  unfold insE
  have h : (es.take (cntB es e) ++ [e] ++ es.drop (cntB es e)).Perm (e :: (es.take (cntB es e) ++ es.drop (cntB es e))) := by
    rw [List.append_assoc]
    exact List.perm_middle
  rw [List.take_append_drop] at h
  exact h
theorem insE_ord {es : List (List Int)} {e : List Int} (h : es.Pairwise fun a b => lessM a b = true) (hn : e ∉ es) : (insE es e).Pairwise fun a b => lessM a b = true := by
  obtain ⟨h1, h2⟩ := cut_lt (e := e) (h.imp lessM_asym)
  have h3 : (es.take (cntB es e) ++ es.drop (cntB es e)).Pairwise fun a b => lessM a b = true := by rw [List.take_append_drop]; exact h
  obtain ⟨p1, p2, p3⟩ := List.pairwise_append.mp h3
  unfold insE
  rw [List.append_assoc]
  refine List.pairwise_append.mpr ⟨p1, List.pairwise_cons.mpr ⟨fun y hy => ?_, p2⟩, fun x hx y hy => ?_⟩
  · have q1 := h2 y hy
    cases q2 : lessM e y with
    | true => rfl
    | false => exact absurd (List.mem_of_mem_drop (by rw [lessM_tri q2 q1]; exact hy)) hn
  · rcases List.mem_cons.mp hy with rfl | hy
    · exact h1 x hx
    · exact p3 x hx y hy
theorem KOrd.put {cols : List Int} {th : Th} {es : List (List Int)} (h : KOrd cols th es) (n : Int) (r : List Int) (hn : n ∉ th.map (·.1)) : KOrd cols (th ++ [(n, r)]) (insE es (entryM cols n r)) := by
  have hni : entryM cols n r ∉ es := fun z => by
    obtain ⟨p, hp, e⟩ := List.mem_map.mp (h.perm.mem_iff.mp z)
    have e2 := congrArg (·.getLastD 0) e
    rw [entryM_last, entryM_last] at e2
    exact hn (by rw [← e2]; exact List.mem_map_of_mem (f := (·.1)) hp)
  refine ⟨(insE_perm _ _).trans ?_, insE_ord h.ord hni⟩
  rw [List.map_append]
  refine (h.perm.cons _).trans ?_
  exact (List.perm_append_singleton _ _).symm
def pr_Kept_put (K : PySem.W.Frag) : Pr := q3 fun s n r M nx _ => ∃ (p l : Addr) (cols row : List Int) (es : List (List Int)) (num : Int), s = .ref p ∧ n = .int num ∧ KeptAt K M p l cols es ∧ IsQ M r (row.map .int) ∧ ColsIn cols row.length ∧ cols.length ≤ 1000 ∧ Rising es ∧ es.length ≤ 1000 ∧ nx .non (ud M l (.lst ((insE es (entryM cols num row)).map dI)))
section
variable {J : Jx} {ta tb tc to : TE} {ρ : Ro} {M : Mp} {E : XK} {x y z : D} {R : D → Mp → Prop}
theorem w_Kept_put {p l : Addr} {cols row : List Int} {es : List (List Int)} {num : Int} (ho : Ev J to ρ M (.ref p)) (hk : KeptAt J.K M p l cols es) (hb : Ev J tb ρ M (.int num)) (hc : Ev J tc ρ M z) (hz : IsQ M z (row.map .int)) (hin : ColsIn cols row.length) (hl : cols.length ≤ 1000) (hr : Rising es) (hel : es.length ≤ 1000) (k : R .non (ud M l (.lst ((insE es (entryM cols num row)).map dI)))) :
    W J (tMeth (He.ga J.K "Kept") "put" (spD J.K (pr_Kept_put J.K)) [] E to (tCons tb (tCons tc tNil))) ρ M R :=
  w_meth0 ho hk.ob (kf_no _ _ (by decide +kernel) (by decide +kernel)) (ea_cons hb (ea_cons hc ea_nil)) ⟨_, _, _, rfl, p, l, cols, row, es, num, rfl, rfl, hk, hz, hin, hl, hr, hel, k⟩
end
abbrev nm_Kept_put : List Str := ["self", "number", "row", "entry"]
theorem sc_Kept_put : FnScope nm_Kept_put ["self", "number", "row"] (defScope s_Kept_put) := ⟨rfl, rfl, rfl, by decide +kernel, rfl, by decide +kernel, by decide +kernel⟩
theorem ok_Kept_put (hTx : Tx K mg) : OkM P w K mg base CX0 3  (He.ma K (He.ga K "Kept") "put") ["self", "number", "row"] (pr_Kept_put K) := by
  obtain ⟨_, G_Kept_entry, b_Kept_entry⟩ := ok_Kept_entry (P := P) (w := w) (base := base) hTx
  obtain ⟨_, G_below, b_below, k_below, g_below⟩ := ok_below (P := P) (w := w) (base := base) hTx
  obtain ⟨_, F⟩ := hTx.fnM 13 s_Kept_put "Kept" "put" "Kept.put" 26
  refine ⟨_, ?_, F.binds (ps := ["self", "number", "row"]) fun _ _ _ _ _ _ us hl => match us, hl with | [_, _, _], _ => rfl⟩
  refine fn_dl F sc_Kept_put (fun _ _ _ _ h => q3_len h) (fun cdv A outer s H E hr => ⟨_, (pss_cons (ps_set (i := 3) sc_Kept_put.nd rfl (Or.inl rfl) (pe_meth (pv 0) (hTx.cl 13) (hTx.me 14) G_Kept_entry (hr.mono (by decide)) b_Kept_entry .nil pass0 (pa_cons (pv 1) (pa_cons (pv 2) pa_nil))))
    (pss_one (ps_expr (pe_bm PySem.F.plainAttrs_list PySem.F.slot_list_insert PySem.F.type_list_insert mt_insert (kx_fld (K := K) rfl (pv 0) rfl) (pa_cons (pe_call G_below (hr.mono (by decide)) rfl g_below k_below b_below .nil pass0 (pa_cons (kx_fld (K := K) rfl (pv 0) rfl) (pa_cons (pv 3) pa_nil))) (pa_cons (pv 3) pa_nil)))))), ?_⟩)
  try dsimp only [cx_K, cx_nK]
  rintro _ M nx xe ⟨s, n, r, rfl, p, l, cols, row, es, num, rfl, rfl, hk, hr, hin, hl, hR, hel, k⟩
  refine s_seq (s_asgE (en_Kept_entry (ev_var rfl) hk.ob (ev_var rfl) (ev_var rfl) hr hin hl).ev ?_)
  have he : ∀ ρ' : Ro, ρ'[0]? = some (some (.ref p)) → Ev (J0 K) (tFld K (tVar 0) "entries") ρ' M (.ref l) := fun ρ' h => ev_fld (ev_var h) hk.ob (hTx.cl 13) (hTx.na 75) (kf_ents _ _)
  have hcl : cntB es (entryM cols num row) ≤ es.length := List.countP_le_length
  refine s_drop (w_insert (ds := es.map dI) (he _ rfl) hk.en (ev_below (rows := es) (key := entryM cols num row) (he _ rfl) (ev_var rfl) (.r hk.en) .l hR (by omega)) (ev_var rfl) (szl (by rw [List.length_map]; omega)) (by omega) (by omega) ?_)
  have e : (es.map dI).take ((cntB es (entryM cols num row) : Nat) : Int).toNat ++ [dI (entryM cols num row)] ++ (es.map dI).drop ((cntB es (entryM cols num row) : Nat) : Int).toNat = (insE es (entryM cols num row)).map dI := by
    unfold insE
    rw [Int.toNat_natCast, List.map_append, List.map_append, List.map_take, List.map_drop]
    rfl
  show nx .non (ud M l (.lst ((es.map dI).take ((cntB es (entryM cols num row) : Nat) : Int).toNat ++ [dI (entryM cols num row)] ++ (es.map dI).drop ((cntB es (entryM cols num row) : Nat) : Int).toNat)))
  rw [e]
  exact k
theorem seqIndex_nat {n j : Nat} (h : j < n) : seqIndex? (j : Int) n = some j := by
  obtain ⟨h1, _⟩ := ixN_seq (n := n) (i := (j : Int)) (j := j) (by unfold ixN; rw [if_pos (by omega), if_pos (by omega)]; simp)
  exact h1
theorem erase_map {α β : Type} (f : α → β) : ∀ (l : List α) (i : Nat), (l.map f).eraseIdx i = (l.eraseIdx i).map f
  | [], i => by simp
  | a :: l, 0 => by simp
  | a :: l, i + 1 => by simp [erase_map f l i]

def remE (es : List (List Int)) (e : List Int) : List (List Int) := es.eraseIdx (cntB es e)
theorem cut_at {es : List (List Int)} {e : List Int} (h : es.Pairwise fun a b => lessM a b = true) (hm : e ∈ es) : ∃ rest, es = es.take (cntB es e) ++ e :: rest ∧ remE es e = es.take (cntB es e) ++ rest ∧ cntB es e < es.length := by
  obtain ⟨h1, h2⟩ := cut_lt (e := e) (h.imp lessM_asym)
  have h3 : (es.take (cntB es e) ++ es.drop (cntB es e)).Pairwise fun a b => lessM a b = true := by rw [List.take_append_drop]; exact h
  obtain ⟨p1, p2, p3⟩ := List.pairwise_append.mp h3
  have hm2 : e ∈ es.take (cntB es e) ++ es.drop (cntB es e) := by rw [List.take_append_drop]; exact hm
  have hd : e ∈ es.drop (cntB es e) := by
    rcases List.mem_append.mp hm2 with z | z
    · have := h1 e z
      rw [lessM_irr] at this
      cases this
    · exact z
  cases q : es.drop (cntB es e) with
  | nil => rw [q] at hd; cases hd
  | cons y rest =>
    have ey : y = e := by
      rw [q] at hd p2 h2
      rcases List.mem_cons.mp hd with rfl | z
      · rfl
      · have q1 := (List.pairwise_cons.mp p2).1 e z
        have q2 := h2 y List.mem_cons_self
        rw [q1] at q2
        cases q2
    subst ey
    have hes : es = es.take (cntB es y) ++ y :: rest := by rw [← q, List.take_append_drop]
    have hl : cntB es y < es.length := by
      have := congrArg List.length q
      rw [List.length_drop, List.length_cons] at this
      omega
    refine ⟨rest, hes, ?_, hl⟩
    unfold remE
    have q2 : es.drop (cntB es y + 1) = rest := by rw [← List.drop_drop, q]; rfl
    rw [List.eraseIdx_eq_take_drop_succ, q2]
theorem KOrd.drop {cols : List Int} {th : Th} {es : List (List Int)} (h : KOrd cols th es) {n : Int} {r : List Int} (hd : (th.map (·.1)).Nodup) (hm : (n, r) ∈ th) : cntB es (entryM cols n r) < es.length ∧ KOrd cols (thDrop th n) (remE es (entryM cols n r)) := by
  have hme : entryM cols n r ∈ es := h.perm.mem_iff.mpr (List.mem_map.mpr ⟨(n, r), hm, rfl⟩)
  obtain ⟨rest, e1, e2, e3⟩ := cut_at h.ord hme
  refine ⟨e3, ?_, ?_⟩
  · have p1 : es.Perm (entryM cols n r :: remE es (entryM cols n r)) := by
      rw [e2]
      conv => lhs; rw [e1]
      exact List.perm_middle
    have p2 := (thDrop_perm hd hm).map fun p => entryM cols p.1 p.2
    rw [List.map_cons] at p2
    exact List.Perm.cons_inv (p1.symm.trans (h.perm.trans p2))
  · have h3 := h.ord
    rw [e1] at h3
    rw [e2]
    obtain ⟨p1, p2, p3⟩ := List.pairwise_append.mp h3
    exact List.pairwise_append.mpr ⟨p1, (List.pairwise_cons.mp p2).2, fun x hx y hy => p3 x hx y (List.mem_cons_of_mem _ hy)⟩
def pr_Kept_drop (K : PySem.W.Frag) : Pr := q3 fun s n r M nx _ => ∃ (p l : Addr) (cols row : List Int) (es : List (List Int)) (num : Int), s = .ref p ∧ n = .int num ∧ KeptAt K M p l cols es ∧ IsQ M r (row.map .int) ∧ ColsIn cols row.length ∧ cols.length ≤ 1000 ∧ Rising es ∧ es.length ≤ 1000 ∧ cntB es (entryM cols num row) < es.length ∧ nx .non (ud M l (.lst ((remE es (entryM cols num row)).map dI)))
section
variable {J : Jx} {ta tb tc to : TE} {ρ : Ro} {M : Mp} {E : XK} {x y z : D} {R : D → Mp → Prop}
theorem w_Kept_drop {p l : Addr} {cols row : List Int} {es : List (List Int)} {num : Int} (ho : Ev J to ρ M (.ref p)) (hk : KeptAt J.K M p l cols es) (hb : Ev J tb ρ M (.int num)) (hc : Ev J tc ρ M z) (hz : IsQ M z (row.map .int)) (hin : ColsIn cols row.length) (hl : cols.length ≤ 1000) (hr : Rising es) (hel : es.length ≤ 1000) (hlt : cntB es (entryM cols num row) < es.length) (k : R .non (ud M l (.lst ((remE es (entryM cols num row)).map dI)))) :
    W J (tMeth (He.ga J.K "Kept") "drop" (spD J.K (pr_Kept_drop J.K)) [] E to (tCons tb (tCons tc tNil))) ρ M R :=
  w_meth0 ho hk.ob (kf_no _ _ (by decide +kernel) (by decide +kernel)) (ea_cons hb (ea_cons hc ea_nil)) ⟨_, _, _, rfl, p, l, cols, row, es, num, rfl, rfl, hk, hz, hin, hl, hr, hel, hlt, k⟩
end
abbrev nm_Kept_drop : List Str := ["self", "number", "row"]
theorem sc_Kept_drop : FnScope nm_Kept_drop ["self", "number", "row"] (defScope s_Kept_drop) := ⟨rfl, rfl, rfl, by decide +kernel, rfl, by decide +kernel, by decide +kernel⟩
theorem ok_Kept_drop (hTx : Tx K mg) : OkM P w K mg base CX0 3  (He.ma K (He.ga K "Kept") "drop") ["self", "number", "row"] (pr_Kept_drop K) := by
  obtain ⟨_, G_Kept_entry, b_Kept_entry⟩ := ok_Kept_entry (P := P) (w := w) (base := base) hTx
  obtain ⟨_, G_below, b_below, k_below, g_below⟩ := ok_below (P := P) (w := w) (base := base) hTx
  obtain ⟨_, F⟩ := hTx.fnM 14 s_Kept_drop "Kept" "drop" "Kept.drop" 29
  refine ⟨_, ?_, F.binds (ps := ["self", "number", "row"]) fun _ _ _ _ _ _ us hl => match us, hl with | [_, _, _], _ => rfl⟩
  refine fn_dl F sc_Kept_drop (fun _ _ _ _ h => q3_len h) (fun cdv A outer s H E hr => ⟨_, (pss_one (ps_expr (pe_bm PySem.F.plainAttrs_list PySem.F.slot_list_pop PySem.F.type_list_pop mt_popAt (kx_fld (K := K) rfl (pv 0) rfl) (pa_cons (pe_call G_below (hr.mono (by decide)) rfl g_below k_below b_below .nil pass0 (pa_cons (kx_fld (K := K) rfl (pv 0) rfl) (pa_cons (pe_meth (pv 0) (hTx.cl 13) (hTx.me 14) G_Kept_entry (hr.mono (by decide)) b_Kept_entry .nil pass0 (pa_cons (pv 1) (pa_cons (pv 2) pa_nil))) pa_nil))) pa_nil)))), ?_⟩)
  try dsimp only [cx_K, cx_nK]
  rintro _ M nx xe ⟨s, n, r, rfl, p, l, cols, row, es, num, rfl, rfl, hk, hr, hin, hl, hR, hel, hlt, k⟩
  have he : ∀ ρ' : Ro, ρ'[0]? = some (some (.ref p)) → Ev (J0 K) (tFld K (tVar 0) "entries") ρ' M (.ref l) := fun ρ' h => ev_fld (ev_var h) hk.ob (hTx.cl 13) (hTx.na 75) (kf_ents _ _)
  have hlt' : cntB es (entryM cols num row) < (es.map dI).length := by rw [List.length_map]; exact hlt
  refine s_drop (w_popAt (ds := es.map dI) (k := cntB es (entryM cols num row)) (he _ rfl) hk.en (ev_below (rows := es) (key := entryM cols num row) (he _ rfl) (en_Kept_entry (ev_var rfl) hk.ob (ev_var rfl) (ev_var rfl) hr hin hl).ev (.r hk.en) .l hR (by omega)) (by omega) (by omega) (seqIndex_nat hlt') (List.getElem?_eq_getElem hlt') ?_)
  have e : (es.map dI).eraseIdx (cntB es (entryM cols num row)) = (remE es (entryM cols num row)).map dI := by
    unfold remE
    rw [erase_map]
  show nx .non (ud M l (.lst ((es.map dI).eraseIdx (cntB es (entryM cols num row)))))
  rw [e]
  exact k

def numsM (es : List (List Int)) : List Int := es.map fun e => e.getLastD 0
def pr_Kept_numbers (K : PySem.W.Frag) : Pr := q1 fun s M nx _ => ∃ (p l : Addr) (cols : List Int) (es : List (List Int)), s = .ref p ∧ KeptAt K M p l cols es ∧ (∀ e ∈ es, e ≠ []) ∧ es.length ≤ 1000 ∧ ∀ q, M q = none → nx (.ref q) (ud M q (.lst ((numsM es).map .int)))
theorem atI_lastI {e : List Int} (h : e ≠ []) : atI (e.map D.int) (-1) = some (.int (e.getLastD 0)) := by
  have h2 := List.dropLast_concat_getLast h
  have h3 : e.getLastD 0 = e.getLast h := by
    rw [List.getLastD_eq_getLast?, List.getLast?_eq_some_getLast h]
    rfl
  rw [h3]
  have e1 : e.map D.int = (e.dropLast).map D.int ++ [D.int (e.getLast h)] := by
    conv => lhs; rw [← h2]
    rw [List.map_append]
    rfl
  rw [e1]
  exact atI_last _ _
section
variable {J : Jx} {ta tb tc to : TE} {ρ : Ro} {M : Mp} {E : XK} {x y z : D}
theorem en_Kept_numbers {p l : Addr} {cols : List Int} {es : List (List Int)} (ho : Ev J to ρ M (.ref p)) (hk : KeptAt J.K M p l cols es) (hne : ∀ e ∈ es, e ≠ []) (hel : es.length ≤ 1000) :
    EvN J (tMeth (He.ga J.K "Kept") "numbers" (spD J.K (pr_Kept_numbers J.K)) [] E to tNil) ρ M ((numsM es).map .int) :=
  w_meth0 ho hk.ob (kf_no _ _ (by decide +kernel) (by decide +kernel)) ea_nil ⟨_, rfl, p, l, cols, es, rfl, hk, hne, hel, fun q hq => ⟨q, hq, rfl, rfl⟩⟩
end
abbrev nm_Kept_numbers : List Str := ["self", "entry"]
theorem sc_Kept_numbers : FnScope nm_Kept_numbers ["self"] (defScope s_Kept_numbers) := ⟨rfl, rfl, rfl, by decide +kernel, rfl, by decide +kernel, by decide +kernel⟩
theorem ok_Kept_numbers (hTx : Tx K mg) : OkM P w K mg base CX0 1  (He.ma K (He.ga K "Kept") "numbers") ["self"] (pr_Kept_numbers K) := by
  obtain ⟨_, F⟩ := hTx.fnM 15 s_Kept_numbers "Kept" "numbers" "Kept.numbers" 43
  refine ⟨_, ?_, F.binds (ps := ["self"]) fun _ _ _ _ _ _ us hl => match us, hl with | [_], _ => rfl⟩
  refine fn_dl F sc_Kept_numbers (fun _ _ _ _ h => q1_len h) (fun cdv A outer s H E hr => ⟨_, (pss_one (ps_ret (pe_lc (own := [("entry", 1)]) (g := gName 1) rfl sc_Kept_numbers.nd (kx_plist (K := K) rfl (kx_fld (K := K) rfl (pv 0) rfl)) (blkOk_by (N := nm_Kept_numbers) (sc := defScope s_Kept_numbers) (own := [("entry", 1)]) (by decide +kernel)) (fun _ _ _ _ _ => pg_name (i := 1) sc_Kept_numbers.nd rfl (Or.inl rfl)) (fun _ _ _ _ _ => pts_nil) (fun _ _ _ _ _ => (pe_ix (kx_ixL (K := K) rfl) (pv 1) (pe_un un_neg pe_int) (fun _ _ => rfl)))))), ?_⟩)
  try dsimp only [cx_K, cx_nK]
  rintro _ M nx xe ⟨s, rfl, p, l, cols, es, rfl, hk, hne, hel, k⟩
  refine s_ret (EvN.w (EvN.is (en_lc1 es dI (fun e => D.int (e.getLastD 0)) (src_L (ev_fld (ev_var rfl) hk.ob (hTx.cl 13) (hTx.na 75) (kf_ents _ _)) (.r hk.en)) (fun M' sb => .r (sb _ _ hk.en)) (szl (by omega)) fun M1 e sb he => ?_) (es := (numsM es).map .int) (by unfold numsM; rw [List.map_map] <;> rfl)) k)
  exact ev_ixL (ev_var rfl) (ev_U ev_int) .l (atI_lastI (hne e he))

def coversM (cols : List Int) (wish : List Tr) : Bool := wish.all fun t => decide (t.1 ∈ cols)
def pr_Kept_covers (K : PySem.W.Frag) : Pr := q2 fun s x M nx _ => ∃ (p l : Addr) (cols : List Int) (wish : List Tr), s = .ref p ∧ M p = some (.ins (He.ga K "Kept") (kf cols l)) ∧ IsL M x (wish.map tD) ∧ nx (.bl (coversM cols wish)) M
section
variable {J : Jx} {ta tb tc to : TE} {ρ : Ro} {M : Mp} {E : XK} {x y z : D}
theorem ev_Kept_covers {p l : Addr} {cols : List Int} {wish : List Tr} (ho : Ev J to ρ M (.ref p)) (hm : M p = some (.ins (He.ga J.K "Kept") (kf cols l))) (hb : Ev J tb ρ M x) (hx : IsL M x (wish.map tD)) :
    Ev J (tMeth (He.ga J.K "Kept") "covers" (spD J.K (pr_Kept_covers J.K)) [] E to (tCons tb tNil)) ρ M (.bl (coversM cols wish)) :=
  w_meth0 ho hm (kf_no _ _ (by decide +kernel) (by decide +kernel)) (ea_cons hb ea_nil) ⟨_, _, rfl, p, l, cols, wish, rfl, hm, hx, rfl, rfl⟩
end
abbrev nm_Kept_covers : List Str := ["self", "wish", "column", "low", "high"]
theorem sc_Kept_covers : FnScope nm_Kept_covers ["self", "wish"] (defScope s_Kept_covers) := ⟨rfl, rfl, rfl, by decide +kernel, rfl, by decide +kernel, by decide +kernel⟩
theorem ok_Kept_covers (hTx : Tx K mg) : OkM P w K mg base CX0 1  (He.ma K (He.ga K "Kept") "covers") ["self", "wish"] (pr_Kept_covers K) := by
  obtain ⟨_, F⟩ := hTx.fnM 16 s_Kept_covers "Kept" "covers" "Kept.covers" 45
  refine ⟨_, ?_, F.binds (ps := ["self", "wish"]) fun _ _ _ _ _ _ us hl => match us, hl with | [_, _], _ => rfl⟩
  refine fn_dl F sc_Kept_covers (fun _ _ _ _ h => q2_len h) (fun cdv A outer s H E hr => ⟨_, (pss_cons (ps_for PassesOwn.never rfl (kx_plist (K := K) rfl (pv 1)) (kx_gtup (K := K) (n := 3) rfl rfl (pgs_cons (pg_name (i := 2) sc_Kept_covers.nd rfl (Or.inl rfl)) (pgs_cons (pg_name (i := 3) sc_Kept_covers.nd rfl (Or.inl rfl)) (pgs_cons (pg_name (i := 4) sc_Kept_covers.nd rfl (Or.inl rfl)) pgs_nil))))
    (pss_one (ps_if (pt_cmpR (kx_notIn (K := K) rfl) (pv 2) (kx_fld (K := K) rfl (pv 0) rfl) (by rfl))
    (pss_one (ps_ret pe_bl))
    pss_nil)))
    (pss_one (ps_ret pe_bl))), ?_⟩)
  try dsimp only [cx_K, cx_nK]
  rintro _ M nx xe ⟨s, x, rfl, p, l, cols, wish, rfl, hp, hx, k⟩
  refine s_seq (s_for (src_L (ev_var rfl) hx) (fun i ρ' M' => M' = M ∧ (∃ a b c, ρ' = [some (.ref p), some x, a, b, c]) ∧ coversM cols wish = coversM cols (wish.drop i)) ⟨rfl, ⟨none, none, none, rfl⟩, rfl⟩ (fun i ρ' M' h => by rw [h.1]; exact hx) ?_ ?_)
  · rintro i d ρ' M' hd ⟨rfl, ⟨a, b, c, rfl⟩, e⟩
    obtain ⟨t, h1, rfl⟩ := get_map hd
    rw [drop_at h1] at e
    refine sg_tup rfl (sgs_cons (sg_name (sgs_cons (sg_name (sgs_cons (sg_name (sgs_nil ?_)))))))
    refine s_if (et_test (ev_notInI (ns := cols) (ev_var rfl) (ev_fld (ev_var rfl) hp (hTx.cl 13) (hTx.na 74) (kf_cols _ _)) .t)) (fun hb => ?_) (fun hb => s_next ⟨rfl, ⟨_, _, _, rfl⟩, ?_⟩)
    · refine s_retE ev_bl ?_
      have hn : decide (t.1 ∈ cols) = false := by simpa using hb
      have e2 : coversM cols wish = false := by
        rw [e]
        unfold coversM
        rw [List.all_cons, hn]
        rfl
      rw [← e2]
      exact k
    · have hn : decide (t.1 ∈ cols) = true := by simpa using hb
      rw [e]
      unfold coversM
      rw [List.all_cons, hn]
      rfl
  · rintro ρ' M' ⟨rfl, ⟨a, b, c, rfl⟩, e⟩
    refine s_retE ev_bl ?_
    have e2 : coversM cols wish = true := by
      rw [e, List.drop_eq_nil_of_le (by rw [List.length_map]; exact Nat.le_refl _)]
      rfl
    rw [← e2]
    exact k

/-- an entry begins with what is pinned and goes on between two ends -/
def inS : List Int → Option Int → Option Int → List Int → Bool
  | [], lo, hi, x :: _ => withinM x lo hi
  | [], _, _, [] => true
  | p :: ps, lo, hi, x :: e => decide (x = p) && inS ps lo hi e
  | _ :: _, _, _, [] => false
def fromKey (pinned : List Int) (lo : Option Int) : List Int := match lo with | none => pinned | some v => pinned ++ [v]
/-- the key behind the stretch, none: all that is left -/
def toKey (pinned : List Int) (hi : Option Int) : Option (List Int) := match hi with
  | some v => some (pinned ++ [v + 1])
  | none => if pinned = [] then none else some (pinned.dropLast ++ [pinned.getLastD 0 + 1])
theorem toKey_cons (q : Int) (qs : List Int) : toKey (q :: qs) none = some ((q :: qs).dropLast ++ [(q :: qs).getLastD 0 + 1]) := rfl
def atEnd (es : List (List Int)) (k : Option (List Int)) : Nat := match k with | none => es.length | some k => cntB es k
def betE (es : List (List Int)) (pinned : List Int) (lo hi : Option Int) : List (List Int) := es.filter (inS pinned lo hi)
/-- a stretch of a rising list, by two keys -/
theorem stretch_filter {es : List (List Int)} (hR : Rising es) (k1 k2 : List Int) : (es.drop (cntB es k1)).take (max (cntB es k1) (cntB es k2) - cntB es k1) = es.filter fun e => !lessM e k1 && lessM e k2 := by
  obtain ⟨a1, a2⟩ := cut_lt (e := k1) hR
  have hR2 : Rising (es.drop (cntB es k1)) := List.Pairwise.sublist (List.drop_sublist _ _) hR
  obtain ⟨b1, b2⟩ := cut_lt (e := k2) hR2
  obtain ⟨c1, c2⟩ := cut_lt (e := k2) hR
  have f1 : es.filter (fun e => !lessM e k1 && lessM e k2) = (es.drop (cntB es k1)).filter fun e => lessM e k2 := by
    conv => lhs; rw [← List.take_append_drop (cntB es k1) es]
    rw [List.filter_append]
    have g1 : (es.take (cntB es k1)).filter (fun e => !lessM e k1 && lessM e k2) = [] := List.filter_eq_nil_iff.mpr fun x hx => by rw [a1 x hx]; simp
    have g2 : (es.drop (cntB es k1)).filter (fun e => !lessM e k1 && lessM e k2) = (es.drop (cntB es k1)).filter fun e => lessM e k2 := List.filter_congr fun x hx => by rw [a2 x hx]; simp
    rw [g1, g2, List.nil_append]
  have f2 : (es.drop (cntB es k1)).filter (fun e => lessM e k2) = (es.drop (cntB es k1)).take (cntB (es.drop (cntB es k1)) k2) := by
    conv => lhs; rw [← List.take_append_drop (cntB (es.drop (cntB es k1)) k2) (es.drop (cntB es k1))]
    rw [List.filter_append]
    have g1 : ((es.drop (cntB es k1)).take (cntB (es.drop (cntB es k1)) k2)).filter (fun e => lessM e k2) = (es.drop (cntB es k1)).take (cntB (es.drop (cntB es k1)) k2) := List.filter_eq_self.mpr fun x hx => b1 x hx
    have g2 : ((es.drop (cntB es k1)).drop (cntB (es.drop (cntB es k1)) k2)).filter (fun e => lessM e k2) = [] := List.filter_eq_nil_iff.mpr fun x hx => by rw [b2 x hx]; exact Bool.false_ne_true
    rw [g1, g2, List.append_nil]
  rw [f1, f2]
  congr 1
  have hs : cntB es k2 = cntB (es.take (cntB es k1)) k2 + cntB (es.drop (cntB es k1)) k2 := by
    unfold cntB
    rw [← List.countP_append, List.take_append_drop]
  have hl1 : cntB es k1 ≤ es.length := List.countP_le_length
  rcases Nat.le_total (cntB es k1) (cntB es k2) with h | h
  · have g : cntB (es.take (cntB es k1)) k2 = cntB es k1 := by
      have : (es.take (cntB es k1)).countP (fun r => lessM r k2) = (es.take (cntB es k1)).length := List.countP_eq_length.mpr fun x hx => by
        refine c1 x ?_
        obtain ⟨i, hi⟩ := List.mem_iff_getElem?.mp hx
        have hl := lt_of_get hi
        rw [List.length_take] at hl
        rw [List.getElem?_take_of_lt (by omega)] at hi
        exact List.mem_iff_getElem?.mpr ⟨i, by rw [List.getElem?_take_of_lt (by omega)]; exact hi⟩
      unfold cntB at this ⊢
      rw [this, List.length_take]
      exact Nat.min_eq_left hl1
    omega
  · have g : cntB (es.drop (cntB es k1)) k2 = 0 := List.countP_eq_zero.mpr fun x hx => by
      have : x ∈ es.drop (cntB es k2) := by
        have e : cntB es k1 = cntB es k2 + (cntB es k1 - cntB es k2) := by omega
        rw [e, ← List.drop_drop] at hx
        exact List.mem_of_mem_drop hx
      rw [c2 x this]
      exact Bool.false_ne_true
    omega
theorem stretch_end {es : List (List Int)} (hR : Rising es) (k1 : List Int) : (es.drop (cntB es k1)).take (max (cntB es k1) es.length - cntB es k1) = es.filter fun e => !lessM e k1 := by
  obtain ⟨a1, a2⟩ := cut_lt (e := k1) hR
  have hl1 : cntB es k1 ≤ es.length := List.countP_le_length
  rw [List.take_of_length_le (by rw [List.length_drop]; omega)]
  conv => rhs; rw [← List.take_append_drop (cntB es k1) es]
  rw [List.filter_append]
  have g1 : (es.take (cntB es k1)).filter (fun e => !lessM e k1) = [] := List.filter_eq_nil_iff.mpr fun x hx => by rw [a1 x hx]; exact Bool.false_ne_true
  have g2 : (es.drop (cntB es k1)).filter (fun e => !lessM e k1) = es.drop (cntB es k1) := List.filter_eq_self.mpr fun x hx => by rw [a2 x hx]; rfl
  rw [g1, g2, List.nil_append]
theorem less_one {x v : Int} {e : List Int} : lessM (x :: e) [v] = decide (x < v) := by
  rw [lessM_cons]
  by_cases h : x = v
  · rw [if_pos h, lessM_nil]; exact (decide_eq_false (by omega)).symm
  · rw [if_neg h]
theorem inS_key : ∀ (pinned : List Int) (lo hi : Option Int) (e : List Int), pinned.length < e.length → (!lessM e (fromKey pinned lo) && (match toKey pinned hi with | none => true | some k => lessM e k)) = inS pinned lo hi e
  | _, _, _, [], h => absurd h (Nat.not_lt_zero _)
  | [], lo, hi, x :: e, _ => by
    have h1 : lessM (x :: e) (fromKey [] lo) = !(lo.all fun l => decide (l ≤ x)) := by
      cases lo with
      | none => show lessM (x :: e) [] = _; rw [lessM_nil]; rfl
      | some v =>
        show lessM (x :: e) [v] = _
        rw [less_one]
        show decide (x < v) = !decide (v ≤ x)
        rw [Bool.eq_iff_iff]; simp
    have h2 : (match toKey [] hi with | none => true | some k => lessM (x :: e) k) = hi.all fun h => decide (x ≤ h) := by
      cases hi with
      | none => rfl
      | some v =>
        show lessM (x :: e) [v + 1] = _
        rw [less_one]
        show decide (x < v + 1) = decide (x ≤ v)
        rw [Bool.eq_iff_iff, decide_eq_true_eq, decide_eq_true_eq]
        omega
    rw [h1, h2, Bool.not_not]
    rfl
  | p :: ps, lo, hi, x :: e, h => by
    have h' : ps.length < e.length := by simpa using h
    have ih := inS_key ps lo hi e h'
    have f1 : fromKey (p :: ps) lo = p :: fromKey ps lo := by cases lo <;> rfl
    rw [f1, lessM_cons]
    have key : ∀ ks : List Int, toKey (p :: ps) hi = some (p :: ks) → toKey ps hi = some ks → (!(if x = p then lessM e (fromKey ps lo) else decide (x < p)) && (match toKey (p :: ps) hi with | none => true | some k => lessM (x :: e) k)) = inS (p :: ps) lo hi (x :: e) := fun ks e1 e2 => by
      rw [e1]
      rw [e2] at ih
      show (!(if x = p then lessM e (fromKey ps lo) else decide (x < p)) && lessM (x :: e) (p :: ks)) = (decide (x = p) && inS ps lo hi e)
      rw [lessM_cons, ← ih]
      by_cases hx : x = p
      · rw [if_pos hx, if_pos hx, decide_eq_true hx, Bool.true_and]
      · rw [if_neg hx, if_neg hx, decide_eq_false hx, Bool.false_and]
        cases decide (x < p) <;> rfl
    cases hi with
    | some v => exact key (ps ++ [v + 1]) rfl rfl
    | none =>
      cases ps with
      | cons q qs =>
        refine key ((q :: qs).dropLast ++ [(q :: qs).getLastD 0 + 1]) ?_ ?_
        · rw [toKey_cons]
          rfl
        · exact toKey_cons q qs
      | nil =>
        have e1 : toKey [p] none = some [p + 1] := rfl
        have e2 : toKey [] none = none := rfl
        rw [e1]
        rw [e2] at ih
        show (!(if x = p then lessM e (fromKey [] lo) else decide (x < p)) && lessM (x :: e) [p + 1]) = (decide (x = p) && inS [] lo none e)
        have ih' : (!lessM e (fromKey [] lo)) = inS [] lo none e := by simpa using ih
        rw [less_one, ← ih']
        by_cases hx : x = p
        · rw [if_pos hx, decide_eq_true hx, Bool.true_and, decide_eq_true (show x < p + 1 by omega), Bool.and_true]
        · rw [if_neg hx, decide_eq_false hx, Bool.false_and]
          by_cases h3 : x < p
          · rw [decide_eq_true h3]; rfl
          · rw [decide_eq_false h3, decide_eq_false (show ¬ x < p + 1 by omega)]; rfl
theorem bet_slice {es : List (List Int)} (hR : Rising es) {pinned : List Int} {lo hi : Option Int} (hl : ∀ e ∈ es, pinned.length < e.length) : (es.drop (cntB es (fromKey pinned lo))).take (max (cntB es (fromKey pinned lo)) (atEnd es (toKey pinned hi)) - cntB es (fromKey pinned lo)) = betE es pinned lo hi := by
  unfold betE
  have hf : es.filter (inS pinned lo hi) = es.filter fun e => (!lessM e (fromKey pinned lo) && (match toKey pinned hi with | none => true | some k => lessM e k)) := List.filter_congr fun e he => (inS_key pinned lo hi e (hl e he)).symm
  rw [hf]
  cases q : toKey pinned hi with
  | none =>
    show (es.drop _).take (max _ es.length - _) = _
    rw [stretch_end hR]
    exact List.filter_congr fun e _ => (Bool.and_true _).symm
  | some k => exact stretch_filter hR _ k
def pr_Kept_between (K : PySem.W.Frag) : Pr := q4 fun s x y z M nx _ => ∃ (p l : Addr) (cols pinned : List Int) (lo hi : Option Int) (es : List (List Int)), s = .ref p ∧ KeptAt K M p l cols es ∧ IsM M x (pinned.map .int) ∧ y = oD lo ∧ z = oD hi ∧ Rising es ∧ es.length ≤ 1000 ∧ pinned.length ≤ 1000 ∧ (∀ e ∈ es, pinned.length < e.length) ∧ ∀ q, M q = none → nx (.ref q) (ud M q (.lst ((numsM (betE es pinned lo hi)).map .int)))
section
variable {J : Jx} {ta tb tc to : TE} {ρ : Ro} {M : Mp} {E : XK} {x y z : D}
theorem en_Kept_between {p l : Addr} {cols pinned : List Int} {lo hi : Option Int} {es : List (List Int)} (ho : Ev J to ρ M (.ref p)) (hk : KeptAt J.K M p l cols es) (ha : Ev J ta ρ M x) (hb : Ev J tb ρ M (oD lo)) (hc : Ev J tc ρ M (oD hi)) (hx : IsM M x (pinned.map .int)) (hR : Rising es) (hel : es.length ≤ 1000) (hpl : pinned.length ≤ 1000) (hl : ∀ e ∈ es, pinned.length < e.length) :
    EvN J (tMeth (He.ga J.K "Kept") "between" (spD J.K (pr_Kept_between J.K)) [] E to (tCons ta (tCons tb (tCons tc tNil)))) ρ M ((numsM (betE es pinned lo hi)).map .int) :=
  w_meth0 ho hk.ob (kf_no _ _ (by decide +kernel) (by decide +kernel)) (ea_cons ha (ea_cons hb (ea_cons hc ea_nil))) ⟨_, _, _, _, rfl, p, l, cols, pinned, lo, hi, es, rfl, hk, hx, rfl, rfl, hR, hel, hpl, hl, fun q hq => ⟨q, hq, rfl, rfl⟩⟩
theorem cut_two {α : Type} (f : α → D) (xs : List α) (a b : Nat) (ha : a ≤ xs.length) (hb : b ≤ xs.length) : cutD (xs.map f) (some (a : Int)) (some (b : Int)) = ((xs.drop a).take (b - a)).map f := by
  unfold cutD
  rw [HT.sIx_nat, HT.sIx_nat, List.length_map, Nat.min_eq_left ha, Nat.min_eq_left hb, List.map_take, List.map_drop]
theorem cut_last (xs : List Int) : cutD (xs.map D.int) none (some (-1)) = xs.dropLast.map D.int := by
  unfold cutD
  have e : HT.sIx (xs.map D.int).length (xs.map D.int).length (some (-1)) = xs.length - 1 := by
    show (if (-1 : Int) < 0 then ((-1 : Int) + ((xs.map D.int).length : Int)).toNat else min (-1 : Int).toNat (xs.map D.int).length) = _
    rw [if_pos (by decide), List.length_map]
    omega
  rw [e, HT.sIx_none, List.drop_zero, Nat.sub_zero, ← List.map_take, List.dropLast_eq_take]
end
abbrev nm_Kept_between : List Str := ["self", "pinned", "low", "high", "begin", "end", "entry"]
theorem sc_Kept_between : FnScope nm_Kept_between ["self", "pinned", "low", "high"] (defScope s_Kept_between) := ⟨rfl, rfl, rfl, by decide +kernel, rfl, by decide +kernel, by decide +kernel⟩
theorem ok_Kept_between (hTx : Tx K mg) : OkM P w K mg base CX0 3  (He.ma K (He.ga K "Kept") "between") ["self", "pinned", "low", "high"] (pr_Kept_between K) := by
  obtain ⟨_, G_below, b_below, k_below, g_below⟩ := ok_below (P := P) (w := w) (base := base) hTx
  obtain ⟨_, F⟩ := hTx.fnM 17 s_Kept_between "Kept" "between" "Kept.between" 15
  refine ⟨_, ?_, F.binds (ps := ["self", "pinned", "low", "high"]) fun _ _ _ _ _ _ us hl => match us, hl with | [_, _, _, _], _ => rfl⟩
  refine fn_dl F sc_Kept_between (fun _ _ _ _ h => q4_len h) (fun cdv A outer s H E hr => ⟨_, (pss_cons (ps_set (i := 4) sc_Kept_between.nd rfl (Or.inl rfl) (pe_call G_below (hr.mono (by decide)) rfl g_below k_below b_below .nil pass0 (pa_cons (kx_fld (K := K) rfl (pv 0) rfl) (pa_cons (pv 1) pa_nil))))
    (pss_cons (ps_if (pt_cmp (pc_notN (pv 2)))
    (pss_one (ps_set (i := 4) sc_Kept_between.nd rfl (Or.inl rfl) (pe_call G_below (hr.mono (by decide)) rfl g_below k_below b_below .nil pass0 (pa_cons (kx_fld (K := K) rfl (pv 0) rfl) (pa_cons (pe_op op_cat (pv 1) (pe_lst (pa_cons (pv 2) pa_nil))) pa_nil)))))
    pss_nil)
    (pss_cons (ps_set (i := 5) sc_Kept_between.nd rfl (Or.inl rfl) (pe_callB (kx_len (K := K) rfl) (by rfl) (hTx.fr 1) (by decide +kernel) (pa_cons (kx_fld (K := K) rfl (pv 0) rfl) pa_nil)))
    (pss_cons (ps_if (pt_cmp (pc_notN (pv 3)))
    (pss_one (ps_set (i := 5) sc_Kept_between.nd rfl (Or.inl rfl) (pe_call G_below (hr.mono (by decide)) rfl g_below k_below b_below .nil pass0 (pa_cons (kx_fld (K := K) rfl (pv 0) rfl) (pa_cons (pe_op op_cat (pv 1) (pe_lst (pa_cons (pe_op op_add (pv 3) pe_int) pa_nil))) pa_nil)))))
    (pss_one (ps_if (pt_truth (pv 1) (by intro _; rfl))
    (pss_one (ps_set (i := 5) sc_Kept_between.nd rfl (Or.inl rfl) (pe_call G_below (hr.mono (by decide)) rfl g_below k_below b_below .nil pass0 (pa_cons (kx_fld (K := K) rfl (pv 0) rfl) (pa_cons (pe_op op_cat (pe_slice (kx_sl (K := K) rfl) (pv 1) po_none (po_some (pe_un un_neg pe_int))) (pe_lst (pa_cons (pe_op op_add (pe_ix (kx_ixL (K := K) rfl) (pv 1) (pe_un un_neg pe_int) (fun _ _ => rfl)) pe_int) pa_nil))) pa_nil)))))
    pss_nil)))
    (pss_one (ps_ret (pe_lc (own := [("entry", 6)]) (g := gName 6) rfl sc_Kept_between.nd (kx_plist (K := K) rfl (pe_slice (kx_sl (K := K) rfl) (kx_fld (K := K) rfl (pv 0) rfl) (po_some (pv 4)) (po_some (pe_callB (call_max2 rfl) (by rfl) (hTx.fr 10) (by decide +kernel) (pa_cons (pv 4) (pa_cons (pv 5) pa_nil)))))) (blkOk_by (N := nm_Kept_between) (sc := defScope s_Kept_between) (own := [("entry", 6)]) (by decide +kernel)) (fun _ _ _ _ _ => pg_name (i := 6) sc_Kept_between.nd rfl (Or.inl rfl)) (fun _ _ _ _ _ => pts_nil) (fun _ _ _ _ _ => (pe_ix (kx_ixL (K := K) rfl) (pv 6) (pe_un un_neg pe_int) (fun _ _ => rfl)))))))))), ?_⟩)
  try dsimp only [cx_K, cx_nK]
  rintro _ M nx xe ⟨s, x, y, z, rfl, p, l, cols, pinned, lo, hi, es, rfl, hk, hx, rfl, rfl, hR, hel, hpl, hl, k⟩
  show S (J0 K) _ [some (.ref p), some x, some (oD lo), some (oD hi), none, none, none] M _
  have he : ∀ (M' : Mp) (ρ' : Ro), Sub M M' → ρ'[0]? = some (some (.ref p)) → Ev (J0 K) (tFld K (tVar 0) "entries") ρ' M' (.ref l) := fun M' ρ' sb h => ev_fld (ev_var h) (sb _ _ hk.ob) (hTx.cl 13) (hTx.na 75) (kf_ents _ _)
  refine s_seq (s_asgE (ev_below (rows := es) (key := pinned) (he M _ (Sub.refl M) rfl) (ev_var rfl) (.r hk.en) hx.il hR (by omega)) ?_)
  have c1 : ∀ key : List Int, cntB es key ≤ es.length := fun key => List.countP_le_length
  refine s_cut (fun ρ' M' => M' = M ∧ ρ' = [some (.ref p), some x, some (oD lo), some (oD hi), some (.int (cntB es (fromKey pinned lo))), none, none]) ?_ ?_
  · cases lo with
    | none => exact s_if (b := false) ((et_test (ev_notN (ev_var rfl))).is rfl) (fun z => nomatch z) (fun _ => s_next ⟨rfl, rfl⟩)
    | some v =>
      refine s_if (b := true) ((et_test (ev_notN (ev_var rfl))).is rfl) (fun _ => ?_) (fun z => nomatch z)
      refine s_asgE (ev_below (rows := es) (key := pinned ++ [v]) (he M _ (Sub.refl M) rfl) (Ev.is (EvN.ev (en_cat (ds := pinned.map .int) (es := [.int v]) (ev_var rfl) (en_lst (ds := [.int v]) (ea_cons (ev_var rfl) ea_nil) (sz (by simp))).ev hx .l (sz (by simp; omega)))) (x := .lst ((pinned ++ [v]).map .int)) (by rw [List.map_append]; rfl)) (.r hk.en) .l hR (by omega)) ⟨rfl, rfl⟩
  rintro ρ' M' ⟨rfl, rfl⟩
  refine s_seq (s_asgE (ev_len (he M' _ (Sub.refl M') rfl) (IsL.r hk.en).q) ?_)
  refine s_cut (fun ρ' M2 => M2 = M' ∧ ρ' = [some (.ref p), some x, some (oD lo), some (oD hi), some (.int (cntB es (fromKey pinned lo))), some (.int (atEnd es (toKey pinned hi))), none]) ?_ ?_
  · cases hi with
    | some v =>
      refine s_if (b := true) ((et_test (ev_notN (ev_var rfl))).is rfl) (fun _ => ?_) (fun z => nomatch z)
      refine s_asgE (ev_below (rows := es) (key := pinned ++ [v + 1]) (he M' _ (Sub.refl M') rfl) (Ev.is (EvN.ev (en_cat (ds := pinned.map .int) (es := [.int (v + 1)]) (ev_var rfl) (en_lst (ds := [.int (v + 1)]) (ea_cons (ev_I0 (ev_var rfl) ev_int) ea_nil) (sz (by simp))).ev hx .l (sz (by simp; omega)))) (x := .lst ((pinned ++ [v + 1]).map .int)) (by rw [List.map_append]; rfl)) (.r hk.en) .l hR (by omega)) ⟨rfl, rfl⟩
    | none =>
      refine s_if (b := false) ((et_test (ev_notN (ev_var rfl))).is rfl) (fun z => nomatch z) (fun _ => ?_)
      cases pinned with
      | nil =>
        refine s_if (b := false) (et_truthQ (ds := []) (ev_var rfl) hx.il.q) (fun z => nomatch z) (fun _ => s_next ⟨rfl, ?_⟩)
        rw [List.length_map]
        rfl
      | cons q qs =>
        refine s_if (b := true) (et_truthQ (ds := (q :: qs).map .int) (ev_var rfl) hx.il.q) (fun _ => ?_) (fun z => nomatch z)
        refine s_asgE (ev_below (rows := es) (key := (q :: qs).dropLast ++ [(q :: qs).getLastD 0 + 1]) (he M' _ (Sub.refl M') rfl) (Ev.is (EvN.ev (en_cat (ds := (q :: qs).dropLast.map .int) (es := [.int ((q :: qs).getLastD 0 + 1)]) ((en_sl (ev_var rfl) eo_no (eo_of (ev_U ev_int)) hx.il).is (cut_last _)).ev (en_lst (ds := [.int ((q :: qs).getLastD 0 + 1)]) (ea_cons (ev_I0 (ev_ixL (ev_var rfl) (ev_U ev_int) hx.il (atI_lastI (by simp))) ev_int) ea_nil) (sz (by simp))).ev .l .l (sz (by rw [List.length_map, List.length_dropLast]; simp at hpl ⊢; omega)))) (x := .lst (((q :: qs).dropLast ++ [(q :: qs).getLastD 0 + 1]).map .int)) (by rw [List.map_append]; rfl)) (.r hk.en) .l hR (by omega)) ⟨rfl, ?_⟩
        have e1 : toKey (q :: qs) none = some ((q :: qs).dropLast ++ [(q :: qs).getLastD 0 + 1]) := toKey_cons q qs
        rw [e1]
        rfl
  rintro ρ' M2 ⟨rfl, rfl⟩
  have hle : atEnd es (toKey pinned hi) ≤ es.length := by
    unfold atEnd
    cases toKey pinned hi with
    | none => exact Nat.le_refl _
    | some k => exact c1 k
  have emax : max ((cntB es (fromKey pinned lo) : Nat) : Int) ((atEnd es (toKey pinned hi) : Nat) : Int) = ((max (cntB es (fromKey pinned lo)) (atEnd es (toKey pinned hi)) : Nat) : Int) := by omega
  refine s_ret (EvN.w (EvN.is (en_lc1 (betE es pinned lo hi) dI (fun e => D.int (e.getLastD 0)) (src_l (Ev.is (EvN.ev (en_sl (he M2 _ (Sub.refl M2) rfl) (eo_of (ev_var rfl)) (eo_of (ev_max2 (ev_var rfl) (ev_var rfl))) (.r hk.en))) (x := .lst ((betE es pinned lo hi).map dI)) ?_) (.inl rfl)) (fun _ _ => trivial) (szl ?_) fun M1 e sb hm => ?_) (es := (numsM (betE es pinned lo hi)).map .int) (by unfold numsM; rw [List.map_map] <;> rfl)) k)
  · rw [emax, cut_two dI es _ _ (c1 _) (Nat.max_le.mpr ⟨c1 _, hle⟩), bet_slice hR hl]
  · have := List.length_filter_le (inS pinned lo hi) es
    unfold betE
    omega
  · have hne : e ≠ [] := fun z => by
      have := hl e (List.mem_filter.mp hm).1
      rw [z] at this
      exact absurd this (Nat.not_lt_zero _)
    exact ev_ixL (ev_var rfl) (ev_U ev_int) .l (atI_lastI hne)

/-- what a wish pins of an order's columns, and the ends behind that -/
def pinM (lo hi : Int → Option Int) : List Int → List Int × Option Int × Option Int
  | [] => ([], none, none)
  | c :: cs => if lo c = none ∨ lo c ≠ hi c then ([], lo c, hi c) else ((lo c).getD 0 :: (pinM lo hi cs).1, (pinM lo hi cs).2)
def inStr (lo hi : Int → Option Int) : List Int → List Int → Bool
  | [], _ => true
  | c :: cs, r => if lo c = none ∨ lo c ≠ hi c then withinM (r.getD c.toNat 0) (lo c) (hi c) else decide (r.getD c.toNat 0 = (lo c).getD 0) && inStr lo hi cs r
theorem pinM_cons (lo hi : Int → Option Int) (c : Int) (cs : List Int) : pinM lo hi (c :: cs) = if lo c = none ∨ lo c ≠ hi c then ([], lo c, hi c) else ((lo c).getD 0 :: (pinM lo hi cs).1, (pinM lo hi cs).2) := rfl
theorem pinM_len (lo hi : Int → Option Int) : ∀ cols : List Int, (pinM lo hi cols).1.length ≤ cols.length
  | [] => Nat.le_refl _
  | c :: cs => by
    unfold pinM
    split
    · exact Nat.zero_le _
    · exact Nat.succ_le_succ (pinM_len lo hi cs)
theorem inS_pin (lo hi : Int → Option Int) (n : Int) (r : List Int) : ∀ cols : List Int, inS (pinM lo hi cols).1 (pinM lo hi cols).2.1 (pinM lo hi cols).2.2 (entryM cols n r) = inStr lo hi cols r
  | [] => rfl
  | c :: cs => by
    have e : entryM (c :: cs) n r = r.getD c.toNat 0 :: entryM cs n r := rfl
    rw [e]
    unfold pinM inStr
    by_cases h : lo c = none ∨ lo c ≠ hi c
    · rw [if_pos h, if_pos h]; rfl
    · rw [if_neg h, if_neg h, ← inS_pin lo hi n r cs]; rfl
def strE (es : List (List Int)) (cols : List Int) (wish : List Tr) : List (List Int) := betE es (pinM (lowOf wish) (highOf wish) cols).1 (pinM (lowOf wish) (highOf wish) cols).2.1 (pinM (lowOf wish) (highOf wish) cols).2.2
def strM (es : List (List Int)) (cols : List Int) (wish : List Tr) : List Int := numsM (strE es cols wish)
theorem KOrd.str_perm {cols : List Int} {th : Th} {es : List (List Int)} (h : KOrd cols th es) (wish : List Tr) : (strM es cols wish).Perm ((th.filter fun p => inStr (lowOf wish) (highOf wish) cols p.2).map (·.1)) := by
  unfold strM strE betE numsM
  have p1 := (h.perm.filter (inS (pinM (lowOf wish) (highOf wish) cols).1 (pinM (lowOf wish) (highOf wish) cols).2.1 (pinM (lowOf wish) (highOf wish) cols).2.2)).map fun e => e.getLastD 0
  refine p1.trans (List.Perm.of_eq ?_)
  rw [List.filter_map, List.map_map]
  have e1 : th.filter ((inS (pinM (lowOf wish) (highOf wish) cols).1 (pinM (lowOf wish) (highOf wish) cols).2.1 (pinM (lowOf wish) (highOf wish) cols).2.2) ∘ fun p => entryM cols p.1 p.2) = th.filter fun p => inStr (lowOf wish) (highOf wish) cols p.2 := List.filter_congr fun p _ => inS_pin _ _ _ _ _
  rw [e1]
  exact List.map_congr_left fun p _ => entryM_last _ _ _
theorem KOrd.sub_ord {cols : List Int} {th : Th} {es : List (List Int)} (h : KOrd cols th es) (hd : (th.map (·.1)).Nodup) (f : List Int → Bool) : ((numsM (es.filter f)).Pairwise fun a b => lessM (entryM cols a ((thGet th a).getD [])) (entryM cols b ((thGet th b).getD [])) = true) ∧ ∀ n ∈ numsM (es.filter f), ∃ r, thGet th n = some r := by
  have hg : ∀ e ∈ es, ∃ n r, (n, r) ∈ th ∧ thGet th n = some r ∧ e = entryM cols n r ∧ e.getLastD 0 = n := fun e he => by
    obtain ⟨p, hp, rfl⟩ := List.mem_map.mp (h.perm.mem_iff.mp he)
    exact ⟨p.1, p.2, hp, thGet_of hd hp, rfl, entryM_last _ _ _⟩
  refine ⟨List.pairwise_map.mpr (List.Pairwise.imp_of_mem (fun {a b} ha hb hl => ?_) (h.ord.filter f)), fun n hn => ?_⟩
  · obtain ⟨n, r, _, a2, a3, a4⟩ := hg a (List.mem_filter.mp ha).1
    obtain ⟨m, t, _, b2, b3, b4⟩ := hg b (List.mem_filter.mp hb).1
    rw [a4, b4, a2, b2]
    show lessM (entryM cols n r) (entryM cols m t) = true
    rw [← a3, ← b3]
    exact hl
  · obtain ⟨e, he, rfl⟩ := List.mem_map.mp hn
    obtain ⟨n, r, _, h2, _, h4⟩ := hg e (List.mem_filter.mp he).1
    rw [h4]
    exact ⟨r, h2⟩
def pr_Kept_stretch (K : PySem.W.Frag) : Pr := q2 fun s x M nx _ => ∃ (p l : Addr) (cols : List Int) (wish : List Tr) (es : List (List Int)), s = .ref p ∧ KeptAt K M p l cols es ∧ IsL M x (wish.map tD) ∧ ColsOk 6 wish ∧ wish.length ≤ 1000 ∧ (∀ c ∈ cols, 0 ≤ c ∧ c < 6) ∧ cols.length ≤ 1000 ∧ Rising es ∧ es.length ≤ 1000 ∧ (∀ e ∈ es, cols.length < e.length) ∧ ∀ q, M q = none → nx (.ref q) (ud M q (.lst ((strM es cols wish).map .int)))
section
variable {J : Jx} {ta tb tc to : TE} {ρ : Ro} {M : Mp} {E : XK} {x y z : D}
theorem en_Kept_stretch {p l : Addr} {cols : List Int} {wish : List Tr} {es : List (List Int)} (ho : Ev J to ρ M (.ref p)) (hk : KeptAt J.K M p l cols es) (ha : Ev J ta ρ M x) (hx : IsL M x (wish.map tD)) (hc : ColsOk 6 wish) (hwl : wish.length ≤ 1000) (hci : ∀ c ∈ cols, 0 ≤ c ∧ c < 6) (hcl : cols.length ≤ 1000) (hR : Rising es) (hel : es.length ≤ 1000) (hl : ∀ e ∈ es, cols.length < e.length) :
    EvN J (tMeth (He.ga J.K "Kept") "stretch" (spD J.K (pr_Kept_stretch J.K)) [] E to (tCons ta tNil)) ρ M ((strM es cols wish).map .int) :=
  w_meth0 ho hk.ob (kf_no _ _ (by decide +kernel) (by decide +kernel)) (ea_cons ha ea_nil) ⟨_, _, rfl, p, l, cols, wish, es, rfl, hk, hx, hc, hwl, hci, hcl, hR, hel, hl, fun q hq => ⟨q, hq, rfl, rfl⟩⟩
end
abbrev nm_Kept_stretch : List Str := ["self", "wish", "ends", "column", "low", "high", "pinned", "pair"]
theorem sc_Kept_stretch : FnScope nm_Kept_stretch ["self", "wish"] (defScope s_Kept_stretch) := ⟨rfl, rfl, rfl, by decide +kernel, rfl, by decide +kernel, by decide +kernel⟩
theorem ok_Kept_stretch (hTx : Tx K mg) : OkM P w K mg base CX0 4  (He.ma K (He.ga K "Kept") "stretch") ["self", "wish"] (pr_Kept_stretch K) := by
  obtain ⟨_, G_merged, b_merged, k_merged, g_merged⟩ := ok_merged (P := P) (w := w) (base := base) hTx
  obtain ⟨_, G_Kept_between, b_Kept_between⟩ := ok_Kept_between (P := P) (w := w) (base := base) hTx
  obtain ⟨_, F⟩ := hTx.fnM 18 s_Kept_stretch "Kept" "stretch" "Kept.stretch" 44
  refine ⟨_, ?_, F.binds (ps := ["self", "wish"]) fun _ _ _ _ _ _ us hl => match us, hl with | [_, _], _ => rfl⟩
  refine fn_dl F sc_Kept_stretch (fun _ _ _ _ h => q2_len h) (fun cdv A outer s H E hr => ⟨_, (pss_cons (ps_set (i := 2) sc_Kept_stretch.nd rfl (Or.inl rfl) pe_dnewK)
    (pss_cons (ps_for PassesOwn.never rfl (kx_plist (K := K) rfl (pe_call G_merged (hr.mono (by decide)) rfl g_merged k_merged b_merged .nil pass0 (pa_cons (pv 1) pa_nil))) (kx_gtup (K := K) (n := 3) rfl rfl (pgs_cons (pg_name (i := 3) sc_Kept_stretch.nd rfl (Or.inl rfl)) (pgs_cons (pg_name (i := 4) sc_Kept_stretch.nd rfl (Or.inl rfl)) (pgs_cons (pg_name (i := 5) sc_Kept_stretch.nd rfl (Or.inl rfl)) pgs_nil))))
    (pss_one (ps_dput (hu_of hr) (pv 2) (pv 3) (pe_tup (pa_cons (pv 4) (pa_cons (pv 5) pa_nil))) rfl)))
    (pss_cons (ps_set (i := 6) sc_Kept_stretch.nd rfl (Or.inl rfl) (pe_lst pa_nil))
    (pss_cons (ps_for PassesOwn.never rfl (kx_ptup (K := K) rfl (kx_fld (K := K) rfl (pv 0) rfl)) (pg_name (i := 3) sc_Kept_stretch.nd rfl (Or.inl rfl))
    (pss_cons (ps_set (i := 7) sc_Kept_stretch.nd rfl (Or.inl rfl) (pe_dget2 (hu_of hr) (pv 2) (pv 3) (pe_tup (pa_cons pe_non (pa_cons pe_non pa_nil))) ⟨by rfl, by rfl, by rfl, by rfl⟩))
    (pss_cons (ps_if (PW.pt (pw_or (pt_cmp (pc_isN (pe_ix (kx_ixT (K := K) rfl) (pv 7) pe_int (fun _ _ => rfl)))) (pw_or1 (pt_cmpR op_ne (pe_ix (kx_ixT (K := K) rfl) (pv 7) pe_int (fun _ _ => rfl)) (pe_ix (kx_ixT (K := K) rfl) (pv 7) pe_int (fun _ _ => rfl)) (nomark _)))))
    (pss_one (ps_ret (pe_meth (pv 0) (hTx.cl 13) (hTx.me 15) G_Kept_between (hr.mono (by decide)) b_Kept_between .nil pass0 (pa_cons (pv 6) (pa_cons (pe_ix (kx_ixT (K := K) rfl) (pv 7) pe_int (fun _ _ => rfl)) (pa_cons (pe_ix (kx_ixT (K := K) rfl) (pv 7) pe_int (fun _ _ => rfl)) pa_nil))))))
    pss_nil)
    (pss_one (ps_expr (pe_bm PySem.F.plainAttrs_list PySem.F.slot_list_append PySem.F.type_list_append mt_append (pv 6) (pa_cons (pe_ix (kx_ixT (K := K) rfl) (pv 7) pe_int (fun _ _ => rfl)) pa_nil)))))))
    (pss_one (ps_ret (pe_meth (pv 0) (hTx.cl 13) (hTx.me 15) G_Kept_between (hr.mono (by decide)) b_Kept_between .nil pass0 (pa_cons (pv 6) (pa_cons pe_non (pa_cons pe_non pa_nil)))))))))), ?_⟩)
  try dsimp only [cx_K, cx_nK]
  rintro _ M nx xe ⟨s, x, rfl, p, l, cols, wish, es, rfl, hk, hx, hc, hwl, hci, hcl, hR, hel, hl, k⟩
  show S (J0 K) _ [some (.ref p), some x, none, none, none, none, none, none] M _
  refine S.rtweak (rt' := fun d M2 => ∃ M' t, Sub M M' ∧ M' t = none ∧ d = .ref t ∧ M2 = ud M' t (.lst ((strM es cols wish).map .int))) ?_ (fun d M2 ⟨M', t, sb, ht, ed, e2⟩ => ⟨ud M t (.lst ((strM es cols wish).map .int)), by rw [e2]; exact sub_ud sb, by rw [ed]; exact k t (sb.back ht)⟩)
  refine s_seq (s_asg (w_dnew fun e he => ?_))
  have sb := fun kvs => Sub.new (o := MO.dct kvs) he
  have hml : (colsM wish).length ≤ 6 := by
    unfold colsM
    have := List.length_filter_le (fun c => speaks wish c) ((List.range 6).map fun (c : Nat) => (c : Int))
    simpa using this
  refine s_seq (s_for (src_l (x := .lst ((mergeM wish).map tD)) (en_merged (wish := wish) (ev_var rfl) (hx.sub (sb _)) hc hwl).ev (.inl rfl)) (fun i ρ' M' => ∃ kvs, M' = ud M e (.dct kvs) ∧ (∃ a b c, ρ' = [some (.ref p), some x, some (.ref e), a, b, c, none, none]) ∧ kvs.length ≤ i ∧ ∀ c : Int, valA kvs (.inl c) = if c ∈ (colsM wish).take i then some (prD wish c) else none) ⟨[], rfl, ⟨none, none, none, rfl⟩, Nat.le_refl _, fun c => by simp [valA_nil]⟩ (fun _ _ _ _ => trivial) ?_ ?_)
  · rintro i d ρ' M' hd ⟨kvs, rfl, ⟨a, b, c, rfl⟩, hkl, hv⟩
    obtain ⟨t, h1, rfl⟩ := get_map hd
    obtain ⟨c', h2, rfl⟩ : ∃ c' : Int, (colsM wish)[i]? = some c' ∧ t = (c', lowOf wish c', highOf wish c') := by
      unfold mergeM at h1
      rw [List.getElem?_map] at h1
      cases q : (colsM wish)[i]? with
      | none => rw [q] at h1; cases h1
      | some c' => rw [q] at h1; exact ⟨c', rfl, (Option.some.inj h1).symm⟩
    have hi := lt_of_get h2
    refine sg_tup rfl (sgs_cons (sg_name (sgs_cons (sg_name (sgs_cons (sg_name (sgs_nil ?_)))))))
    refine s_dput (k := .inl c') (kvs := kvs) (ev_tup (ds := [oD (lowOf wish c'), oD (highOf wish c')]) (by walk_at "ev") (sz (by simp))) (ev_var rfl) (ev_var rfl) ud_same (szl (by omega)) ?_
    refine ⟨_, by rw [ud_ud], ⟨_, _, _, rfl⟩, Nat.le_trans putA_len (by omega), fun c => ?_⟩
    have tk : (colsM wish).take (i + 1) = (colsM wish).take i ++ [c'] := by
      obtain ⟨hl, e⟩ := List.getElem?_eq_some_iff.mp h2
      rw [← e]
      exact (List.take_append_getElem hl).symm
    rw [valA_put, hv, tk]
    by_cases ec : c = c'
    · subst ec
      rw [if_pos rfl, if_pos (List.mem_append_right _ List.mem_cons_self)]
    · rw [if_neg (fun z => ec (Sum.inl.inj z))]
      by_cases hm : c ∈ (colsM wish).take i
      · rw [if_pos hm, if_pos (List.mem_append_left _ hm)]
      · rw [if_neg hm, if_neg (fun z => by
          rcases List.mem_append.mp z with z | z
          · exact hm z
          · exact ec (List.mem_singleton.mp z))]
  rintro ρ' M' ⟨kvs, rfl, ⟨a, b, c, rfl⟩, hkl, hv⟩
  have hml2 : ((mergeM wish).map tD).length = (colsM wish).length := by unfold mergeM; rw [List.length_map, List.length_map]
  rw [hml2] at hv
  rw [List.take_length] at hv
  have hget : ∀ c : Int, 0 ≤ c → c < 6 → (valA kvs (.inl c)).getD (.tup [.non, .non]) = prD wish c := fun c c0 c1 => by
    rw [hv]
    by_cases hm : c ∈ colsM wish
    · rw [if_pos hm]; rfl
    · rw [if_neg hm]
      have hs : speaks wish c = false := by
        cases q : speaks wish c with
        | false => rfl
        | true => exact absurd (colsM_mem.mpr ⟨⟨c0, c1⟩, q⟩) hm
      obtain ⟨h1, h2⟩ := not_speaks hs
      unfold prD
      rw [h1, h2]
      rfl
  generalize hM1 : ud M e (.dct kvs) = M1
  have sb1 : Sub M M1 := by rw [← hM1]; exact sb kvs
  have hd1 : M1 e = some (.dct kvs) := by rw [← hM1]; exact ud_same
  refine s_seq (s_asg ((en_lst (ds := []) ea_nil (Nat.zero_le _)).w fun q hq => ?_))
  have sbq := fun ds => Sub.new (o := MO.lst ds) hq
  have hstr : ∀ pins lo hi, (pins, lo, hi) = pinM (lowOf wish) (highOf wish) cols → numsM (betE es pins lo hi) = strM es cols wish := fun pins lo hi h => by
    unfold strM strE
    rw [← h]
  refine s_seq (s_for (src_t (ds := cols.map .int) (ev_fld (ev_var rfl) (sbq _ _ _ (sb1 _ _ hk.ob)) (hTx.cl 13) (hTx.na 74) (kf_cols _ _))) (fun i ρ' M' => ∃ (pins : List Int) (a b c f : Option D), M' = ud M1 q (.lst (pins.map .int)) ∧ ρ' = [some (.ref p), some x, some (.ref e), a, b, c, some (.ref q), f] ∧ pins.length = i ∧ (pins ++ (pinM (lowOf wish) (highOf wish) (cols.drop i)).1, (pinM (lowOf wish) (highOf wish) (cols.drop i)).2) = pinM (lowOf wish) (highOf wish) cols) ⟨[], _, _, _, _, rfl, rfl, rfl, rfl⟩ (fun _ _ _ _ => trivial) ?_ ?_)
  · rintro i d ρ' M' hd ⟨pins, a, b, c, f, rfl, rfl, hpl, hpin⟩
    obtain ⟨col, h1, rfl⟩ := get_int hd
    have hi := lt_of_get h1
    obtain ⟨c0, c1⟩ := hci col (List.mem_of_getElem? h1)
    have hd2 : (ud M1 q (.lst (pins.map .int))) e = some (.dct kvs) := sbq _ _ _ hd1
    have sb2 : Sub M (ud M1 q (.lst (pins.map .int))) := sb1.trans (sbq _)
    rw [drop_at h1, pinM_cons] at hpin
    refine sg_name ?_
    refine s_seq (s_asgE ((ev_dget2 (k := .inl col) (ev_var rfl) (ev_var rfl) (ev_tup (ds := [.non, .non]) (by walk_at "ev") (sz (by simp))) hd2).is (hget col c0 c1)) ?_)
    have g0 : atI [oD (lowOf wish col), oD (highOf wish col)] 0 = some (oD (lowOf wish col)) := rfl
    have g1 : atI [oD (lowOf wish col), oD (highOf wish col)] 1 = some (oD (highOf wish col)) := rfl
    refine s_seq (s_if (b := decide (lowOf wish col = none ∨ lowOf wish col ≠ highOf wish col)) ?_ (fun hb => ?_) (fun hb => s_next ?_))
    · refine (et_or (b := (lowOf wish col).isNone) (c := !decide (lowOf wish col = highOf wish col)) (et_test (ev_isNb (ev_ixT (ds := [oD (lowOf wish col), oD (highOf wish col)]) (ev_var rfl) ev_int g0) (isNon_oD _))) fun _ => et_test (ev_neO (ev_ixT (ds := [oD (lowOf wish col), oD (highOf wish col)]) (ev_var rfl) ev_int g0) (ev_ixT (ds := [oD (lowOf wish col), oD (highOf wish col)]) (ev_var rfl) ev_int g1))).is ?_
      rw [Bool.eq_iff_iff, decide_eq_true_eq]
      simp
    · rw [if_pos (of_decide_eq_true hb)] at hpin
      rw [List.append_nil] at hpin
      refine s_ret (EvN.w (EvN.is (en_Kept_between (lo := lowOf wish col) (hi := highOf wish col) (pinned := pins) (es := es) (ev_var rfl) (hk.sub sb2) (ev_var rfl) (ev_ixT (ds := [oD (lowOf wish col), oD (highOf wish col)]) (ev_var rfl) ev_int g0) (ev_ixT (ds := [oD (lowOf wish col), oD (highOf wish col)]) (ev_var rfl) ev_int g1) (.r ud_same) hR hel (by omega) (fun e he => by have := hl e he; omega)) (es := (strM es cols wish).map .int) (by rw [hstr _ _ _ hpin])) fun t ht => ⟨_, t, sb2, ht, rfl, rfl⟩)
    · have hb := of_decide_eq_false hb
      rw [if_neg hb] at hpin
      have hsome : lowOf wish col = some ((lowOf wish col).getD 0) := by
        cases q : lowOf wish col with
        | none => exact absurd (.inl q) hb
        | some v => rfl
      refine s_drop (w_append (a := q) (ds := pins.map .int) (x := .int ((lowOf wish col).getD 0)) (ev_var rfl) ud_same (ev_ixT (ds := [oD (lowOf wish col), oD (highOf wish col)]) (ev_var rfl) ev_int (by rw [g0, hsome]; rfl)) (szl (by rw [List.length_map]; omega)) ?_)
      refine ⟨pins ++ [(lowOf wish col).getD 0], _, _, _, _, ?_, rfl, by rw [List.length_append, hpl]; rfl, ?_⟩
      · rw [ud_ud, List.map_append]; rfl
      · rw [List.append_assoc]
        exact hpin
  · rintro ρ' M' ⟨pins, a, b, c, f, rfl, rfl, hpl, hpin⟩
    rw [List.length_map] at hpin hpl
    rw [List.drop_length] at hpin
    have sb2 : Sub M (ud M1 q (.lst (pins.map .int))) := sb1.trans (sbq _)
    have hpin : (pins, none, none) = pinM (lowOf wish) (highOf wish) cols := by rw [← hpin]; unfold pinM; rw [List.append_nil]
    exact s_ret (EvN.w (EvN.is (en_Kept_between (lo := none) (hi := none) (pinned := pins) (es := es) (ev_var rfl) (hk.sub sb2) (ev_var rfl) ev_non ev_non (.r ud_same) hR hel (by omega) (fun e he => by have := hl e he; omega)) (es := (strM es cols wish).map .int) (by rw [hstr _ _ _ hpin])) fun t ht => ⟨_, t, sb2, ht, rfl, rfl⟩)

/-- an order that is kept, by its addresses -/
structure Kr where
  p : Addr
  l : Addr
  cols : List Int
  es : List (List Int)
/-- a table, by its addresses -/
structure Tb where
  p : Addr
  hd : Addr
  kl : Addr
  w : Int
  made : Int
  th : Th
  ks : List Kr
def Tb.adr (T : Tb) : List Addr := T.p :: T.hd :: T.kl :: T.ks.map (·.l)
def tf (w : Int) (hd : Addr) (made : Int) (kl : Addr) : List (Str × D) := [("width", .int w), ("held", .ref hd), ("made", .int made), ("kept", .ref kl)]
section
variable {w made : Int} {hd kl : Addr}
theorem tf_width : List.lookup ("width" : Str) (tf w hd made kl) = some (.int w) := look_eq
theorem tf_held : List.lookup ("held" : Str) (tf w hd made kl) = some (.ref hd) := by
  unfold tf; rw [look_ne (by decide +kernel)]; exact look_eq
theorem tf_made : List.lookup ("made" : Str) (tf w hd made kl) = some (.int made) := by
  unfold tf; rw [look_ne (by decide +kernel), look_ne (by decide +kernel)]; exact look_eq
theorem tf_kept : List.lookup ("kept" : Str) (tf w hd made kl) = some (.ref kl) := by
  unfold tf; rw [look_ne (by decide +kernel), look_ne (by decide +kernel), look_ne (by decide +kernel)]; exact look_eq
theorem tf_no {m : Str} (h1 : (m == ("width" : Str)) = false) (h2 : (m == ("held" : Str)) = false) (h3 : (m == ("made" : Str)) = false) (h4 : (m == ("kept" : Str)) = false) : List.lookup m (tf w hd made kl) = none := by
  unfold tf; rw [look_ne h1, look_ne h2, look_ne h3, look_ne h4]; rfl
end
structure KsAt (K : PySem.W.Frag) (M : Mp) (kl : Addr) (ks : List Kr) : Prop where
  li : M kl = some (.lst (ks.map fun k => .ref k.p))
  ke : ∀ k ∈ ks, KeptAt K M k.p k.l k.cols k.es
  nd : (ks.map (·.l)).Nodup
  ni : kl ∉ ks.map (·.l)
structure TabAt (K : PySem.W.Frag) (M : Mp) (T : Tb) : Prop where
  ob : M T.p = some (.ins (He.ga K "Table") (tf T.w T.hd T.made T.kl))
  dc : M T.hd = some (.dct (thD T.th))
  ka : KsAt K M T.kl T.ks
def ColOk (cols : List Int) (w : Int) : Prop := (∀ c ∈ cols, 0 ≤ c ∧ c < w) ∧ cols.Nodup ∧ cols ≠ []
structure TabOk (T : Tb) : Prop where
  nd : (T.th.map (·.1)).Nodup
  rg : ∀ n ∈ T.th.map (·.1), 0 ≤ n ∧ n < T.made
  wi : WideIn T.th T.w.toNat
  w0 : 0 < T.w
  w1 : T.w ≤ 6
  m0 : 0 ≤ T.made
  hl : T.th.length ≤ 200
  kk : ∀ k ∈ T.ks, KOrd k.cols T.th k.es ∧ ColOk k.cols T.w
  kn : (T.ks.map (·.cols)).Nodup
  kl : T.ks.length ≤ 8
def Frame (M M' : Mp) (A : List Addr) : Prop := ∀ a o, a ∉ A → M a = some o → M' a = some o
theorem Frame.refl (M : Mp) (A : List Addr) : Frame M M A := fun _ _ _ e => e
theorem Frame.of_sub {M M' : Mp} {A : List Addr} (s : Sub M M') : Frame M M' A := fun a o _ e => s a o e
theorem Frame.trans {M M1 M2 : Mp} {A : List Addr} (a : Frame M M1 A) (b : Frame M1 M2 A) : Frame M M2 A := fun x o n e => b x o n (a x o n e)
theorem Frame.ud {M : Mp} {A : List Addr} {h : Addr} {o : MO} (hm : h ∈ A) : Frame M (ud M h o) A := fun a u n e => by
  rw [ud_ne (fun z : a = h => n (by rw [z]; exact hm))]; exact e
theorem Frame.udn {M M' : Mp} {A : List Addr} {h : Addr} {o : MO} (f : Frame M M' A) (hm : M h = none) : Frame M (DL.ud M' h o) A := fun a u n e => by
  rw [ud_ne (ne_old e hm)]; exact f a u n e
/-- a step of a table -/
structure TStep (K : PySem.W.Frag) (M M' : Mp) (T T' : Tb) (th : Th) (made : Int) (os : List (List Int)) : Prop where
  at' : TabAt K M' T'
  ok : TabOk T'
  w : T'.w = T.w
  th : T'.th = th
  made : T'.made = made
  os : T'.ks.map (·.cols) = os
  p : T'.p = T.p
  fr : Frame M M' T.adr
  gr : ∀ x ∈ T'.adr, x ∈ T.adr ∨ M x = none
theorem WideIn.cols {th : Th} {w : Int} {cols : List Int} (hw : WideIn th w.toNat) (h : ColOk cols w) : ∀ p ∈ th, ColsIn cols p.2.length := fun p hp c hc => by
  have h1 := h.1 c hc
  have h2 := hw p hp
  omega
theorem ColOk.len {cols : List Int} {w : Int} (h : ColOk cols w) (hw : w ≤ 6) : cols.length ≤ 6 := by
  have h2 := keys_len cols ((List.range 6).map fun (k : Nat) => (k : Int)) h.2.1 fun c hc => by
    have := h.1 c hc
    exact List.mem_map.mpr ⟨c.toNat, List.mem_range.mpr (by omega), by omega⟩
  simpa using h2
/-- one of the orders gets other entries -/
theorem KsAt.set {K : PySem.W.Frag} {M : Mp} {kl : Addr} {as bs : List Kr} {k : Kr} {es : List (List Int)} (h : KsAt K M kl (as ++ k :: bs)) : KsAt K (ud M k.l (.lst (es.map dI))) kl (as ++ { k with es := es } :: bs) := by
  have hk := h.ke k (by simp)
  have hnd := h.nd
  rw [List.map_append, List.map_cons] at hnd
  have hni := h.ni
  rw [List.map_append, List.map_cons] at hni
  have hkl : kl ≠ k.l := fun z => hni (by rw [z]; simp)
  obtain ⟨n1, n2, n3⟩ := List.nodup_append.mp hnd
  have n2 := List.nodup_cons.mp n2
  have other : ∀ q : Kr, q ∈ as ∨ q ∈ bs → KeptAt K (ud M k.l (.lst (es.map dI))) q.p q.l q.cols q.es := fun q hq => by
    have hq' := h.ke q (by rcases hq with hq | hq <;> simp [hq])
    have d1 : q.l ≠ k.l := by
      rcases hq with hq | hq
      · exact n3 _ (List.mem_map_of_mem (f := (·.l)) hq) _ List.mem_cons_self
      · intro z
        exact n2.1 (by rw [← z]; exact List.mem_map_of_mem (f := (·.l)) hq)
    have d2 : q.p ≠ k.l := ne_mo hq'.ob hk.en (by intro z; cases z)
    exact ⟨by rw [ud_ne d2]; exact hq'.ob, by rw [ud_ne d1]; exact hq'.en⟩
  refine ⟨?_, fun q hq => ?_, ?_, ?_⟩
  · rw [ud_ne hkl, h.li]
    simp
  · rcases List.mem_append.mp hq with hq | hq
    · exact other q (.inl hq)
    · rcases List.mem_cons.mp hq with rfl | hq
      · exact ⟨by rw [ud_ne hk.ne]; exact hk.ob, ud_same⟩
      · exact other q (.inr hq)
  · rw [List.map_append, List.map_cons]; exact hnd
  · rw [List.map_append, List.map_cons]; exact hni
theorem KsAt.mono {K : PySem.W.Frag} {M M' : Mp} {kl : Addr} {ks : List Kr} (h : KsAt K M kl ks) (f : ∀ a o, (a = kl ∨ (∃ k ∈ ks, a = k.p ∨ a = k.l)) → M a = some o → M' a = some o) : KsAt K M' kl ks :=
  ⟨f _ _ (.inl rfl) h.li, fun k hk => ⟨f _ _ (.inr ⟨k, hk, .inl rfl⟩) (h.ke k hk).ob, f _ _ (.inr ⟨k, hk, .inr rfl⟩) (h.ke k hk).en⟩, h.nd, h.ni⟩
theorem KsAt.sub {K : PySem.W.Frag} {M M' : Mp} {kl : Addr} {ks : List Kr} (h : KsAt K M kl ks) (s : Sub M M') : KsAt K M' kl ks := h.mono fun a o _ e => s a o e
theorem TabAt.sub {K : PySem.W.Frag} {M M' : Mp} {T : Tb} (h : TabAt K M T) (s : Sub M M') : TabAt K M' T := ⟨s _ _ h.ob, s _ _ h.dc, h.ka.sub s⟩
/-- a table under a change elsewhere -/
theorem TabAt.frame {K : PySem.W.Frag} {M M' : Mp} {T : Tb} {A : List Addr} (h : TabAt K M T) (f : Frame M M' A) (d : ∀ x ∈ T.adr, x ∉ A) (dk : ∀ x ∈ A, ∀ fs, M x ≠ some (.ins (He.ga K "Kept") fs)) : TabAt K M' T :=
  ⟨f _ _ (d _ (by simp [Tb.adr])) h.ob, f _ _ (d _ (by simp [Tb.adr])) h.dc, h.ka.mono fun a o ha e => by
    rcases ha with rfl | ⟨k, hk, rfl | rfl⟩
    · exact f _ _ (d _ (by simp [Tb.adr])) e
    · exact f _ _ (fun z => dk _ z _ (h.ka.ke k hk).ob) e
    · exact f _ _ (d _ (by simp only [Tb.adr, List.mem_cons]; exact .inr (.inr (.inr (List.mem_map_of_mem (f := (·.l)) hk))))) e⟩
def pr_Table_init (K : PySem.W.Frag) : Pr := q2 fun s c M nx _ => ∃ (p : Addr) (w : Int), s = .ref p ∧ c = .int w ∧ 0 < w ∧ w ≤ 6 ∧ M p = some (.ins (He.ga K "Table") []) ∧ ∀ M' hd kl, M hd = none → M kl = none → hd ≠ kl → hd ≠ p → kl ≠ p → (∀ a o, a ≠ p → M a = some o → M' a = some o) → TabAt K M' ⟨p, hd, kl, w, 0, [], []⟩ → nx .non M'
abbrev nm_Table_init : List Str := ["self", "width"]
theorem sc_Table_init : FnScope nm_Table_init ["self", "width"] (defScope s_Table_init) := ⟨rfl, rfl, rfl, by decide +kernel, rfl, by decide +kernel, by decide +kernel⟩
theorem ok_Table_init (hTx : Tx K mg) : OkM P w K mg base CX0 2  (He.ma K (He.ga K "Table") "__init__") ["self", "width"] (pr_Table_init K) := by
  obtain ⟨_, G_is_whole, b_is_whole, k_is_whole, g_is_whole⟩ := ok_is_whole (P := P) (w := w) (base := base) hTx
  obtain ⟨_, F⟩ := hTx.fnM 19 s_Table_init "Table" "__init__" "Table.__init__" 81
  refine ⟨_, ?_, F.binds (ps := ["self", "width"]) fun _ _ _ _ _ _ us hl => match us, hl with | [_, _], _ => rfl⟩
  refine fn_dl F sc_Table_init (fun _ _ _ _ h => q2_len h) (fun cdv A outer s H E hr => ⟨_, (pss_cons (ps_if (PW.pt (pw_or (pt_not (pt_val (pe_call G_is_whole (hr.mono (by decide)) rfl g_is_whole k_is_whole b_is_whole .nil pass0 (pa_cons (pv 1) pa_nil)))) (pw_or1 (pt_not (pt_chain op_le op_le pe_int (pv 1) (pe_glob (v := .int 6) rfl (hTx.gi 16).choose_spec ⟨_, rfl⟩))))))
    (pss_one (ps_raise rfl takes0 (pmk_own PySem.F.excBase_ValueError (hTx.ex 17).1 (hTx.gl 18) (hTx.ex 17).2.1 (raises_own (hTx.ex 17).2.2.1 (hTx.ex 17).2.2.2) rfl)))
    pss_nil)
    (pss_cons (kx_sfld (K := K) rfl (pv 0) (pv 1) rfl)
    (pss_cons (kx_sfld (K := K) rfl (pv 0) pe_dnewK rfl)
    (pss_cons (kx_sfld (K := K) rfl (pv 0) pe_int rfl)
    (pss_one (kx_sfld (K := K) rfl (pv 0) (pe_lst pa_nil) rfl)))))), ?_⟩)
  try dsimp only [cx_K, cx_nK]
  rintro _ M nx xe ⟨s, c, rfl, p, w, rfl, rfl, w0, w1, hp, k⟩
  refine s_seq (s_if (b := false) ?_ (fun z => nomatch z) (fun _ => s_next ?_))
  · refine (et_or (b := false) (c := false) (et_not (et_B (ev_is_wholeI (ev_var rfl)))) fun _ => et_not (b := true) ((et_test (ev_chainB (f := fun i j => decide (i ≤ j)) (g := fun i j => decide (i ≤ j)) ev_int (ev_var rfl) ev_int)).is ?_))
    rw [decide_eq_true (show (1 : Int) ≤ w by omega), decide_eq_true (show w ≤ 6 from w1)]
    rfl
  have put1 : ∀ x : D, putD ("width" : Str) x [] = [(("width" : Str), x)] := fun _ => rfl
  have put2 : ∀ x y : D, putD ("held" : Str) y [(("width" : Str), x)] = [(("width" : Str), x), (("held" : Str), y)] := fun x y => by
    rw [putD_ne (by decide +kernel), putD_nil]
  have put3 : ∀ x y z : D, putD ("made" : Str) z [(("width" : Str), x), (("held" : Str), y)] = [(("width" : Str), x), (("held" : Str), y), (("made" : Str), z)] := fun x y z => by
    rw [putD_ne (by decide +kernel), putD_ne (by decide +kernel), putD_nil]
  have put4 : ∀ x y z u : D, putD ("kept" : Str) u [(("width" : Str), x), (("held" : Str), y), (("made" : Str), z)] = [(("width" : Str), x), (("held" : Str), y), (("made" : Str), z), (("kept" : Str), u)] := fun x y z u => by
    rw [putD_ne (by decide +kernel), putD_ne (by decide +kernel), putD_ne (by decide +kernel), putD_nil]
  refine s_seq (s_fld (ev_var rfl) (ev_var rfl) hp (hTx.cl 27) (hTx.na 77) (by show 0 < 1000; decide) ?_)
  refine s_seq (s_fldW (a := p) (w_dnew fun hd hhd => ?_) (hTx.cl 27) (hTx.na 78))
  have n1 : p ≠ hd := fun z => by rw [← z, ud_same] at hhd; cases hhd
  have hhd0 : M hd = none := by rw [ud_ne n1.symm] at hhd; exact hhd
  refine ⟨ev_var rfl, _, by rw [ud_ne n1]; exact ud_same, by show 1 < 1000; decide, ?_⟩
  refine s_seq (s_fld ev_int (ev_var rfl) ud_same (hTx.cl 27) (hTx.na 79) (by rw [put1, put2]; show 2 < 1000; decide) ?_)
  refine s_fldW (a := p) ((en_lst (ds := []) ea_nil (Nat.zero_le _)).w fun kl hkl => ?_) (hTx.cl 27) (hTx.na 80)
  have n2 : p ≠ kl := fun z => by rw [← z, ud_same] at hkl; cases hkl
  have n3 : hd ≠ kl := fun z => by rw [← z, ud_ne n1.symm, ud_ne n1.symm, ud_same] at hkl; cases hkl
  have hkl0 : M kl = none := by rw [ud_ne n2.symm, ud_ne n2.symm, ud_ne n3.symm, ud_ne n2.symm] at hkl; exact hkl
  refine ⟨ev_var rfl, _, by rw [ud_ne n2]; exact ud_same, by rw [put1, put2, put3]; show 3 < 1000; decide, ?_⟩
  rw [put1, put2, put3, put4]
  refine k _ hd kl hhd0 hkl0 n3 n1.symm n2.symm (fun a o ne e => ?_) ⟨ud_same, ?_, ⟨?_, fun q hq => (nomatch hq), List.nodup_nil, fun z => nomatch z⟩⟩
  · have m1 : a ≠ hd := ne_old e hhd0
    have m2 : a ≠ kl := ne_old e hkl0
    walk_at "led"
  · show (ud _ _ _) hd = _
    walk_at "led"
  · show (ud _ _ _) kl = _
    walk_at "led"

def pr_Table_init_x (K : PySem.W.Frag) : Pr := q2 fun s c M _ xe => ∃ (p : Addr), s = .ref p ∧ WidBad M c ∧ xe (He.ga K "BadWidth") M
theorem ok_Table_init_x (hTx : Tx K mg) : OkM P w K mg base (L2.CX P w) 2  (He.ma K (He.ga K "Table") "__init__") ["self", "width"] (pr_Table_init_x K) := by
  obtain ⟨_, G_is_whole, b_is_whole, k_is_whole, g_is_whole⟩ := ok_is_whole (P := P) (w := w) (base := base) hTx
  obtain ⟨_, F⟩ := hTx.fnM 19 s_Table_init "Table" "__init__" "Table.__init__" 81
  refine ⟨_, ?_, F.binds (ps := ["self", "width"]) fun _ _ _ _ _ _ us hl => match us, hl with | [_, _], _ => rfl⟩
  refine fn_dlX F sc_Table_init (fun _ _ _ _ h => q2_len h) (fun cdv A outer s H E hr => ⟨_, (pss_cons (ps_if (PW.pt (pw_or (pt_not (pt_val (pe_call G_is_whole (hr.mono (by decide)) rfl g_is_whole k_is_whole b_is_whole .nil pass0 (pa_cons (pv 1) pa_nil)))) (pw_or1 (pt_not (pt_chain op_le op_le pe_int (pv 1) (pe_glob (v := .int 6) rfl (hTx.gi 16).choose_spec ⟨_, rfl⟩))))))
    (pss_one (ps_raise rfl (takes_of rfl rfl rfl rfl) (pmk_own PySem.F.excBase_ValueError (hTx.ex 17).1 (hTx.gl 18) (hTx.ex 17).2.1 (raises_own (hTx.ex 17).2.2.1 (hTx.ex 17).2.2.2) rfl)))
    pss_nil)
    (pss_cons ps_never
    (pss_cons ps_never
    (pss_cons ps_never
    (pss_one ps_never))))), ?_⟩)
  try dsimp only [cx_K, cx_nK]
  rintro _ M nx xe ⟨s, c, rfl, p, rfl, ⟨ht, hw⟩, hx⟩
  show S (JX K E xe) _ [some (.ref p), some c] M _
  refine s_seq (s_if (b := true) ?_ (fun _ => s_raise hx (fun _ _ _ z => z)) (fun z => nomatch z))
  rcases whole_cases c with h | ⟨w, rfl⟩
  · exact (et_or (b := true) (c := false) (et_not (b := false) ((et_B (ev_is_whole (ev_var rfl) ht)).is h)) fun z => nomatch z)
  · refine (et_or (b := false) (c := true) (et_not (et_B (ev_is_wholeI (ev_var rfl)))) fun _ => et_not (b := false) ((et_test (ev_chainB (f := fun i j => decide (i ≤ j)) (g := fun i j => decide (i ≤ j)) ev_int (ev_var rfl) ev_int)).is ?_))
    have := hw w rfl
    rw [Bool.eq_false_iff]
    intro z
    rw [Bool.and_eq_true] at z
    exact this ⟨of_decide_eq_true z.1, of_decide_eq_true z.2⟩

def pr_Table_need_row (K : PySem.W.Frag) : Pr := q2 fun s c M nx _ => ∃ (T : Tb) (n : Int) (r : List Int), s = .ref T.p ∧ c = .int n ∧ TabAt K M T ∧ thGet T.th n = some r ∧ nx .non M
section
variable {J : Jx} {ta tb to : TE} {ρ : Ro} {M : Mp} {E : XK}
theorem ev_Table_need_row {T : Tb} {n : Int} {r : List Int} (ho : Ev J to ρ M (.ref T.p)) (hT : TabAt J.K M T) (hb : Ev J tb ρ M (.int n)) (hr : thGet T.th n = some r) :
    Ev J (tMeth (He.ga J.K "Table") "need_row" (spD J.K (pr_Table_need_row J.K)) [] E to (tCons tb tNil)) ρ M .non :=
  w_meth0 ho hT.ob (tf_no (by decide +kernel) (by decide +kernel) (by decide +kernel) (by decide +kernel)) (ea_cons hb ea_nil) ⟨_, _, rfl, T, n, r, rfl, rfl, hT, hr, rfl, rfl⟩
end
abbrev nm_Table_need_row : List Str := ["self", "number"]
theorem sc_Table_need_row : FnScope nm_Table_need_row ["self", "number"] (defScope s_Table_need_row) := ⟨rfl, rfl, rfl, by decide +kernel, rfl, by decide +kernel, by decide +kernel⟩
theorem ok_Table_need_row (hTx : Tx K mg) : OkM P w K mg base CX0 2  (He.ma K (He.ga K "Table") "need_row") ["self", "number"] (pr_Table_need_row K) := by
  obtain ⟨_, G_is_whole, b_is_whole, k_is_whole, g_is_whole⟩ := ok_is_whole (P := P) (w := w) (base := base) hTx
  obtain ⟨_, F⟩ := hTx.fnM 20 s_Table_need_row "Table" "need_row" "Table.need_row" 28
  refine ⟨_, ?_, F.binds (ps := ["self", "number"]) fun _ _ _ _ _ _ us hl => match us, hl with | [_, _], _ => rfl⟩
  refine fn_dl F sc_Table_need_row (fun _ _ _ _ h => q2_len h) (fun cdv A outer s H E hr => ⟨_, (pss_one (ps_if (PW.pt (pw_or (pt_not (pt_val (pe_call G_is_whole (hr.mono (by decide)) rfl g_is_whole k_is_whole b_is_whole .nil pass0 (pa_cons (pv 1) pa_nil)))) (pw_or1 (pt_cmp (pc_dnotin (hu_of hr) (pv 1) (kx_fld (K := K) rfl (pv 0) rfl))))))
    (pss_one (ps_raise rfl takes0 (pmk_own PySem.F.excBase_ValueError (hTx.ex 19).1 (hTx.gl 20) (hTx.ex 19).2.1 (raises_own (hTx.ex 19).2.2.1 (hTx.ex 19).2.2.2) rfl)))
    pss_nil)), ?_⟩)
  try dsimp only [cx_K, cx_nK]
  rintro _ M nx xe ⟨s, c, rfl, T, n, r, rfl, rfl, hT, hr, k⟩
  refine s_if (b := false) ?_ (fun z => nomatch z) (fun _ => s_next k)
  refine (et_or (b := false) (c := false) (et_not (et_B (ev_is_wholeI (ev_var rfl)))) fun _ => ?_)
  refine (et_test (ev_dnotin (k := .inl n) (ev_var rfl) (ev_fld (ev_var rfl) hT.ob (hTx.cl 27) (hTx.na 78) tf_held) hT.dc)).is ?_
  rw [thD_val, hr]
  rfl

/-- no row of that number is there -/
def RowNo (T : Tb) (c : D) : Prop := ∀ n, c = .int n → thGet T.th n = none
theorem row_cases (T : Tb) (c : D) : RowNo T c ∨ ∃ n r, c = .int n ∧ thGet T.th n = some r := by
  rcases whole_cases c with h | ⟨n, rfl⟩
  · exact .inl fun n e => by rw [e] at h; cases h
  · cases q : thGet T.th n with
    | none => exact .inl fun m e => by cases e; exact q
    | some r => exact .inr ⟨n, r, rfl, q⟩
def pr_Table_need_row_x (K : PySem.W.Frag) : Pr := q2 fun s c M _ xe => ∃ (T : Tb), s = .ref T.p ∧ TabAt K M T ∧ tyN M c ≠ "" ∧ RowNo T c ∧ xe (He.ga K "NoRow") M
section
variable {K : PySem.W.Frag} {ta tb to : TE} {ρ : Ro} {M : Mp} {E : XK} {xe : Addr → Mp → Prop} {R : D → Mp → Prop} {c : D}
theorem w_Table_need_row_x {T : Tb} (ho : Ev (JX K E xe) to ρ M (.ref T.p)) (hT : TabAt K M T) (hb : Ev (JX K E xe) tb ρ M c) (ht : tyN M c ≠ "") (hn : RowNo T c) (hx : xe (He.ga K "NoRow") M) :
    W (JX K E xe) (tMeth (He.ga K "Table") "need_row" (spD K (pr_Table_need_row_x K)) [] E to (tCons tb tNil)) ρ M R :=
  w_methX ho hT.ob (tf_no (by decide +kernel) (by decide +kernel) (by decide +kernel) (by decide +kernel)) (ea_cons hb ea_nil) ⟨_, _, rfl, T, rfl, hT, ht, hn, hx⟩
end
theorem ok_Table_need_row_x (hTx : Tx K mg) : OkM P w K mg base (L2.CX P w) 2  (He.ma K (He.ga K "Table") "need_row") ["self", "number"] (pr_Table_need_row_x K) := by
  obtain ⟨_, G_is_whole, b_is_whole, k_is_whole, g_is_whole⟩ := ok_is_whole (P := P) (w := w) (base := base) hTx
  obtain ⟨_, F⟩ := hTx.fnM 20 s_Table_need_row "Table" "need_row" "Table.need_row" 28
  refine ⟨_, ?_, F.binds (ps := ["self", "number"]) fun _ _ _ _ _ _ us hl => match us, hl with | [_, _], _ => rfl⟩
  refine fn_dlX F sc_Table_need_row (fun _ _ _ _ h => q2_len h) (fun cdv A outer s H E hr => ⟨_, (pss_one (ps_if (PW.pt (pw_or (pt_not (pt_val (pe_call G_is_whole (hr.mono (by decide)) rfl g_is_whole k_is_whole b_is_whole .nil pass0 (pa_cons (pv 1) pa_nil)))) (pw_or1 (pt_cmp (pc_dnotin (hu_of hr) (pv 1) (kx_fld (K := K) rfl (pv 0) rfl))))))
    (pss_one (ps_raise rfl (takes_of rfl rfl rfl rfl) (pmk_own PySem.F.excBase_ValueError (hTx.ex 19).1 (hTx.gl 20) (hTx.ex 19).2.1 (raises_own (hTx.ex 19).2.2.1 (hTx.ex 19).2.2.2) rfl)))
    pss_nil)), ?_⟩)
  try dsimp only [cx_K, cx_nK]
  rintro _ M nx xe ⟨s, c, rfl, T, rfl, hT, ht, hn, hx⟩
  show S (JX K E xe) _ [some (.ref T.p), some c] M _
  refine s_if (b := true) ?_ (fun _ => s_raise hx (fun _ _ _ z => z)) (fun z => nomatch z)
  rcases whole_cases c with h | ⟨n, rfl⟩
  · exact (et_or (b := true) (c := false) (et_not (b := false) ((et_B (ev_is_whole (ev_var rfl) ht)).is h)) fun z => nomatch z)
  · refine (et_or (b := false) (c := true) (et_not (et_B (ev_is_wholeI (ev_var rfl)))) fun _ => ?_)
    refine (et_test (ev_dnotin (k := .inl n) (ev_var rfl) (ev_fld (ev_var rfl) hT.ob (hTx.cl 27) (hTx.na 78) tf_held) hT.dc)).is ?_
    rw [thD_val, hn n rfl]
    rfl

/-- an order with a row more -/
def Kr.put (n : Int) (r : List Int) (k : Kr) : Kr := { k with es := insE k.es (entryM k.cols n r) }
def Tb.put (T : Tb) (r : List Int) : Tb := { T with made := T.made + 1, th := T.th ++ [(T.made, r)], ks := T.ks.map (Kr.put T.made r) }
theorem Tb.put_adr (T : Tb) (r : List Int) : (T.put r).adr = T.adr := by
  unfold Tb.adr Tb.put
  rw [List.map_map]
  rfl
theorem Tb.put_ok {T : Tb} (h : TabOk T) {r : List Int} (hr : (r.length : Int) = T.w) (hl : T.th.length < 200) : TabOk (T.put r) := by
  have hnew : T.made ∉ T.th.map (·.1) := fun z => by have := h.rg _ z; omega
  have h0 := h.m0
  refine ⟨?_, fun n hn => ?_, fun p hp => ?_, h.w0, h.w1, ?_, ?_, fun k hk => ?_, ?_, ?_⟩
  · show ((T.th ++ [(T.made, r)]).map (·.1)).Nodup
    rw [List.map_append]
    refine List.nodup_append.mpr ⟨h.nd, List.pairwise_singleton _ _, fun x hx y hy z => ?_⟩
    rw [List.map_singleton, List.mem_singleton] at hy
    have e : T.made = x := (z.trans hy).symm
    exact hnew (e ▸ hx)
  · have hn' : n ∈ (T.th ++ [(T.made, r)]).map (·.1) := hn
    rw [List.map_append] at hn'
    show 0 ≤ n ∧ n < T.made + 1
    rcases List.mem_append.mp hn' with z | z
    · have := h.rg _ z; omega
    · rw [List.map_singleton, List.mem_singleton] at z
      have e : n = T.made := z
      omega
  · have hp' : p ∈ T.th ++ [(T.made, r)] := hp
    show p.2.length = T.w.toNat
    rcases List.mem_append.mp hp' with z | z
    · exact h.wi p z
    · rw [List.mem_singleton.mp z]
      show r.length = _
      omega
  · show 0 ≤ T.made + 1
    omega
  · show (T.th ++ [(T.made, r)]).length ≤ 200
    rw [List.length_append]
    simp
    omega
  · have hk' : k ∈ T.ks.map (Kr.put T.made r) := hk
    obtain ⟨k0, hk0, rfl⟩ := List.mem_map.mp hk'
    obtain ⟨g1, g2⟩ := h.kk k0 hk0
    exact ⟨g1.put T.made r hnew, g2⟩
  · show ((T.ks.map (Kr.put T.made r)).map (·.cols)).Nodup
    rw [List.map_map]
    exact h.kn
  · show (T.ks.map (Kr.put T.made r)).length ≤ 8
    rw [List.length_map]
    exact h.kl
def pr_Table_put (K : PySem.W.Frag) : Pr := q2 fun s c M nx _ => ∃ (T : Tb) (r : List Int), s = .ref T.p ∧ IsQ M c (r.map .int) ∧ (∀ x ∈ T.adr, c ≠ .ref x) ∧ TabAt K M T ∧ TabOk T ∧ (r.length : Int) = T.w ∧ T.th.length < 200 ∧ ∀ M', TStep K M M' T (T.put r) (T.th ++ [(T.made, r)]) (T.made + 1) (T.ks.map (·.cols)) → nx (.int T.made) M'
section
variable {J : Jx} {ta tb to : TE} {ρ : Ro} {M : Mp} {E : XK} {R : D → Mp → Prop} {x : D}
theorem w_Table_put {T : Tb} {r : List Int} (ho : Ev J to ρ M (.ref T.p)) (hb : Ev J tb ρ M x) (hx : IsQ M x (r.map .int)) (hd : ∀ y ∈ T.adr, x ≠ .ref y) (hT : TabAt J.K M T) (hO : TabOk T) (hr : (r.length : Int) = T.w) (hl : T.th.length < 200) (k : ∀ M', TStep J.K M M' T (T.put r) (T.th ++ [(T.made, r)]) (T.made + 1) (T.ks.map (·.cols)) → R (.int T.made) M') :
    W J (tMeth (He.ga J.K "Table") "put" (spD J.K (pr_Table_put J.K)) [] E to (tCons tb tNil)) ρ M R :=
  w_meth0 ho hT.ob (tf_no (by decide +kernel) (by decide +kernel) (by decide +kernel) (by decide +kernel)) (ea_cons hb ea_nil) ⟨_, _, rfl, T, r, rfl, hx, hd, hT, hO, hr, hl, k⟩
end
theorem tyN_Q {M : Mp} {x : D} {ds : List D} (h : IsQ M x ds) : tyN M x = "list" ∨ tyN M x = "tuple" := by
  rcases h with rfl | rfl | rfl | ⟨a, rfl, h⟩
  · exact .inr rfl
  · exact .inl rfl
  · exact .inl rfl
  · exact .inl (by simp only [tyN, h])
theorem isQ_frame {M M' : Mp} {x : D} {ds : List D} {A : List Addr} (h : IsQ M x ds) (f : Frame M M' A) (hd : ∀ y ∈ A, x ≠ .ref y) : IsQ M' x ds := by
  rcases h with h | h | h | ⟨a, rfl, h⟩
  · exact .inl h
  · exact .inr (.inl h)
  · exact .inr (.inr (.inl h))
  · exact .inr (.inr (.inr ⟨a, rfl, f a _ (fun z => hd a z rfl) h⟩))
abbrev nm_Table_put : List Str := ["self", "row", "value", "number", "one"]
theorem sc_Table_put : FnScope nm_Table_put ["self", "row"] (defScope s_Table_put) := ⟨rfl, rfl, rfl, by decide +kernel, rfl, by decide +kernel, by decide +kernel⟩
theorem ok_Table_put (hTx : Tx K mg) : OkM P w K mg base CX0 4  (He.ma K (He.ga K "Table") "put") ["self", "row"] (pr_Table_put K) := by
  obtain ⟨_, G_is_whole, b_is_whole, k_is_whole, g_is_whole⟩ := ok_is_whole (P := P) (w := w) (base := base) hTx
  obtain ⟨_, G_Kept_put, b_Kept_put⟩ := ok_Kept_put (P := P) (w := w) (base := base) hTx
  obtain ⟨_, F⟩ := hTx.fnM 21 s_Table_put "Table" "put" "Table.put" 52
  refine ⟨_, ?_, F.binds (ps := ["self", "row"]) fun _ _ _ _ _ _ us hl => match us, hl with | [_, _], _ => rfl⟩
  refine fn_dl F sc_Table_put (fun _ _ _ _ h => q2_len h) (fun cdv A outer s H E hr => ⟨_, (pss_cons (ps_if (PW.pt (pw_or (pt_not (pt_val (pe_callB (kx_isiT (K := K) rfl) (by rfl) (hTx.fr 3) (by decide +kernel) (pa_cons (pv 1) (pa_cons (pe_tup (pa_cons (pe_bltn (v := .ty "list") (by rfl) (hTx.fr 6) (by decide +kernel) rfl) (pa_cons (pe_bltn (v := .ty "tuple") (by rfl) (hTx.fr 5) (by decide +kernel) rfl) pa_nil))) pa_nil))))) (pw_or1 (pt_cmpR op_ne (pe_callB (kx_len (K := K) rfl) (by rfl) (hTx.fr 1) (by decide +kernel) (pa_cons (pv 1) pa_nil)) (kx_fld (K := K) rfl (pv 0) rfl) (nomark _)))))
    (pss_one (ps_raise rfl takes0 (pmk_own PySem.F.excBase_ValueError (hTx.ex 21).1 (hTx.gl 22) (hTx.ex 21).2.1 (raises_own (hTx.ex 21).2.2.1 (hTx.ex 21).2.2.2) rfl)))
    pss_nil)
    (pss_cons (ps_for PassesOwn.never rfl (pi_or (kx_plist (K := K) rfl (pv 1)) (kx_ptup (K := K) rfl (pv 1))) (pg_name (i := 2) sc_Table_put.nd rfl (Or.inl rfl))
    (pss_one (ps_if (pt_not (pt_val (pe_call G_is_whole (hr.mono (by decide)) rfl g_is_whole k_is_whole b_is_whole .nil pass0 (pa_cons (pv 2) pa_nil))))
    (pss_one (ps_raise rfl takes0 (pmk_own PySem.F.excBase_ValueError (hTx.ex 21).1 (hTx.gl 22) (hTx.ex 21).2.1 (raises_own (hTx.ex 21).2.2.1 (hTx.ex 21).2.2.2) rfl)))
    pss_nil)))
    (pss_cons (ps_if (pt_cmpR op_eq (pe_callB call_lenD (by rfl) (hTx.fr 1) (by decide +kernel) (pa_cons (kx_fld (K := K) rfl (pv 0) rfl) pa_nil)) (pe_glob (v := .int 200) rfl (hTx.gi 23).choose_spec ⟨_, rfl⟩) (nomark _))
    (pss_one (ps_raise rfl takes0 (pmk_own PySem.F.excBase_ValueError (hTx.ex 24).1 (hTx.gl 25) (hTx.ex 24).2.1 (raises_own (hTx.ex 24).2.2.1 (hTx.ex 24).2.2.2) rfl)))
    pss_nil)
    (pss_cons (ps_set (i := 3) sc_Table_put.nd rfl (Or.inl rfl) (kx_fld (K := K) rfl (pv 0) rfl))
    (pss_cons (kx_sfld (K := K) rfl (pv 0) (pe_op op_add (pv 3) pe_int) rfl)
    (pss_cons (ps_dput (hu_of hr) (kx_fld (K := K) rfl (pv 0) rfl) (pv 3) (pe_callTy (kx_list (K := K) rfl) (by rfl) (hTx.fr 6) (by decide +kernel) (pa_cons (pv 1) pa_nil)) rfl)
    (pss_cons (ps_for PassesOwn.never rfl (kx_plist (K := K) rfl (kx_fld (K := K) rfl (pv 0) rfl)) (pg_name (i := 4) sc_Table_put.nd rfl (Or.inl rfl))
    (pss_one (ps_expr (pe_meth (pv 4) (hTx.cl 13) (hTx.me 26) G_Kept_put (hr.mono (by decide)) b_Kept_put .nil pass0 (pa_cons (pv 3) (pa_cons (pv 1) pa_nil))))))
    (pss_one (ps_ret (pv 3)))))))))), ?_⟩)
  try dsimp only [cx_K, cx_nK]
  rintro _ M nx xe ⟨s, c, rfl, T, r, rfl, hx, hd, hT, hO, hr, hl, k⟩
  show S (J0 K) _ [some (.ref T.p), some c, none, none, none] M _
  have hw : ∀ (M' : Mp) (ρ' : Ro), M' T.p = some (.ins (He.ga K "Table") (tf T.w T.hd T.made T.kl)) → ρ'[0]? = some (some (.ref T.p)) → Ev (J0 K) (tFld K (tVar 0) "width") ρ' M' (.int T.w) := fun M' ρ' e h => ev_fld (ev_var h) e (hTx.cl 27) (hTx.na 77) tf_width
  refine s_seq (s_if (b := false) ?_ (fun z => nomatch z) (fun _ => s_next ?_))
  · refine (et_or (b := false) (c := false) ?_ fun _ => ?_)
    · rcases tyN_Q hx with e | e
      · exact et_not (et_B (ev_isi2 (b := true) "list" (ev_var rfl) e (by decide +kernel) (by decide)))
      · exact et_not (et_B (ev_isi2 (b := true) "tuple" (ev_var rfl) e (by decide +kernel) (by decide)))
    · refine (et_test (ev_neI (ev_len (ev_var rfl) hx) (hw M _ hT.ob rfl))).is ?_
      rw [List.length_map, hr]
      simp
  refine s_seq (s_for (src_Q (ev_var rfl) hx) (fun i ρ' M' => M' = M ∧ ∃ a, ρ' = [some (.ref T.p), some c, a, none, none]) ⟨rfl, none, rfl⟩ (fun i ρ' M' h => by rw [h.1]; exact hx) ?_ ?_)
  · rintro i d ρ' M' hdd ⟨rfl, a, rfl⟩
    obtain ⟨v, _, rfl⟩ := get_int hdd
    refine sg_name ?_
    exact s_if (b := false) (et_not (et_B (ev_is_wholeI (ev_var rfl)))) (fun z => nomatch z) (fun _ => s_next ⟨rfl, _, rfl⟩)
  rintro ρ' M' ⟨rfl, a, rfl⟩
  refine s_seq (s_if (b := false) ?_ (fun z => nomatch z) (fun _ => s_next ?_))
  · refine (et_test (ev_eqI (ev_lenD (ev_fld (ev_var rfl) hT.ob (hTx.cl 27) (hTx.na 78) tf_held) hT.dc) ev_int)).is ?_
    rw [thD_len]
    exact decide_eq_false (by omega)
  refine s_seq (s_asgE (ev_fld (ev_var rfl) hT.ob (hTx.cl 27) (hTx.na 79) tf_made) ?_)
  refine s_seq (s_fld (ev_I0 (ev_var rfl) ev_int) (ev_var rfl) hT.ob (hTx.cl 27) (hTx.na 79) (by show 4 < 1000; decide) ?_)
  have epm : putD ("made" : Str) (.int (T.made + 1)) (tf T.w T.hd T.made T.kl) = tf T.w T.hd (T.made + 1) T.kl := by
    unfold tf
    rw [putD_ne (by decide +kernel), putD_ne (by decide +kernel), putD_eq]
  rw [epm]
  have B1 := hT.ob
  have B2 := hT.dc
  have B3 := hT.ka.li
  have hph : T.p ≠ T.hd := ne_mo B1 B2 (by intro z; cases z)
  have hpk : T.p ≠ T.kl := ne_mo B1 B3 (by intro z; cases z)
  have hhk : T.hd ≠ T.kl := ne_mo B2 B3 (by intro z; cases z)
  have hnew : T.made ∉ T.th.map (·.1) := fun z => by have := hO.rg _ z; omega
  have hg : thGet T.th T.made = none := thGet_none.mpr hnew
  have f1 : Frame M' (ud M' T.p (.ins (He.ga K "Table") (tf T.w T.hd (T.made + 1) T.kl))) T.adr := Frame.ud (by simp [Tb.adr])
  refine s_seq (s_dput (k := .inl T.made) (a := T.hd) (kvs := thD T.th) (x := rowD r) (en_list (ds := r.map .int) (ev_var rfl) (isQ_frame hx f1 hd)).ev (ev_fld (ev_var rfl) ud_same (hTx.cl 27) (hTx.na 78) tf_held) (ev_var rfl) (by walk_at "led") (szl (by rw [thD_len]; omega)) ?_)
  have ep : putA (thD T.th) (Sum.inl T.made) (rowD r) = thD (T.th ++ [(T.made, r)]) := by
    rw [thD_put]
    unfold thPut
    rw [hg]
    rfl
  rw [ep]
  have f2 : Frame M' (ud (ud M' T.p (.ins (He.ga K "Table") (tf T.w T.hd (T.made + 1) T.kl))) T.hd (.dct (thD (T.th ++ [(T.made, r)])))) T.adr := f1.trans (Frame.ud (by simp [Tb.adr]))
  have g1 : (ud (ud M' T.p (.ins (He.ga K "Table") (tf T.w T.hd (T.made + 1) T.kl))) T.hd (.dct (thD (T.th ++ [(T.made, r)])))) T.p = some (.ins (He.ga K "Table") (tf T.w T.hd (T.made + 1) T.kl)) := by walk_at "led"
  have g2 : (ud (ud M' T.p (.ins (He.ga K "Table") (tf T.w T.hd (T.made + 1) T.kl))) T.hd (.dct (thD (T.th ++ [(T.made, r)])))) T.hd = some (.dct (thD (T.th ++ [(T.made, r)]))) := ud_same
  have g3 : KsAt K (ud (ud M' T.p (.ins (He.ga K "Table") (tf T.w T.hd (T.made + 1) T.kl))) T.hd (.dct (thD (T.th ++ [(T.made, r)])))) T.kl T.ks := hT.ka.mono fun b o hb e => by
    have e1 : b ≠ T.p := by
      rcases hb with rfl | ⟨k, hk, rfl | rfl⟩
      · exact hpk.symm
      · intro z
        have := (hT.ka.ke k hk).ob
        rw [z, B1] at this
        have := congrArg (fun o => match o with | some (MO.ins _ fs) => fs.length | _ => 0) this
        exact absurd this (by show ¬ (4 = 2); decide)
      · exact ne_mo (hT.ka.ke k hk).en B1 (by intro z; cases z)
    have e2 : b ≠ T.hd := by
      rcases hb with rfl | ⟨k, hk, rfl | rfl⟩
      · exact hhk.symm
      · exact ne_mo (hT.ka.ke k hk).ob B2 (by intro z; cases z)
      · exact ne_mo (hT.ka.ke k hk).en B2 (by intro z; cases z)
    rw [ud_ne e2, ud_ne e1]
    exact e
  revert f2 g1 g2 g3
  generalize (ud (ud M' T.p (.ins (He.ga K "Table") (tf T.w T.hd (T.made + 1) T.kl))) T.hd (.dct (thD (T.th ++ [(T.made, r)])))) = M2
  intro f2 g1 g2 g3
  refine s_seq (s_for (src_r (ev_fld (ev_var rfl) g1 (hTx.cl 27) (hTx.na 80) tf_kept) g3.li) (fun i ρ' M3 => Frame M' M3 T.adr ∧ M3 T.p = some (.ins (He.ga K "Table") (tf T.w T.hd (T.made + 1) T.kl)) ∧ M3 T.hd = some (.dct (thD (T.th ++ [(T.made, r)]))) ∧ KsAt K M3 T.kl ((T.ks.take i).map (Kr.put T.made r) ++ T.ks.drop i) ∧ ∃ b, ρ' = [some (.ref T.p), some c, a, some (.int T.made), b]) ⟨f2, g1, g2, g3, _, rfl⟩ (fun i ρ' M3 h => by
    rw [h.2.2.2.1.li, List.map_append, List.map_map]
    show some (MO.lst ((T.ks.take i).map (fun k => D.ref k.p) ++ (T.ks.drop i).map fun k => D.ref k.p)) = _
    rw [← List.map_append, List.take_append_drop]) ?_ ?_)
  · rintro i d ρ' M3 hdd ⟨q1, q2, q3, q4, b, rfl⟩
    obtain ⟨kr, hkr, rfl⟩ := get_map hdd
    have hkm := List.mem_of_getElem? hkr
    obtain ⟨o1, o2⟩ := hO.kk kr hkm
    refine sg_name ?_
    rw [drop_at hkr] at q4
    have hka := q4.ke kr (by simp)
    have hrn : r.length = T.w.toNat := by omega
    have hcl := o2.len hO.w1
    have hnl : kr.l ≠ T.p := ne_mo hka.en q2 (by intro z; cases z)
    have hnh : kr.l ≠ T.hd := ne_mo hka.en q3 (by intro z; cases z)
    refine s_drop (w_Kept_put (p := kr.p) (l := kr.l) (cols := kr.cols) (row := r) (es := kr.es) (num := T.made) (ev_var rfl) hka (ev_var rfl) (ev_var rfl) (isQ_frame hx q1 hd) (fun c hc => by have := o2.1 c hc; omega) (by omega) o1.rising (by rw [o1.len]; omega) ?_)
    refine ⟨q1.trans (Frame.ud (by simp only [Tb.adr, List.mem_cons]; exact .inr (.inr (.inr (List.mem_map_of_mem (f := (·.l)) hkm))))), by walk_at "led", by walk_at "led", ?_, _, rfl⟩
    have tk : T.ks.take (i + 1) = T.ks.take i ++ [kr] := by
      obtain ⟨hl, e⟩ := List.getElem?_eq_some_iff.mp hkr
      rw [← e]
      exact (List.take_append_getElem hl).symm
    rw [tk, List.map_append, List.append_assoc]
    exact q4.set
  · rintro ρ' M3 ⟨q1, q2, q3, q4, b, rfl⟩
    rw [List.length_map, List.take_length, List.drop_length, List.append_nil] at q4
    refine s_retE (ev_var rfl) (k M3 ⟨⟨q2, q3, q4⟩, Tb.put_ok hO hr hl, rfl, rfl, rfl, ?_, rfl, q1, fun x hx => .inl (by rw [Tb.put_adr] at hx; exact hx)⟩)
    show (T.ks.map (Kr.put T.made r)).map (·.cols) = _
    rw [List.map_map]
    rfl

theorem rowTy {M : Mp} {x : D} {ds : List D} (h : IsQ M x ds) : (decide (tyN M x = "list") || decide (tyN M x = "tuple")) = true ∧ tyN M x ≠ "" := by
  rcases tyN_Q h with e | e
  · rw [e]; exact ⟨rfl, by decide⟩
  · rw [e]; exact ⟨rfl, by decide⟩
def pr_Table_put_x (K : PySem.W.Frag) : Pr := q2 fun s c M _ xe => ∃ (T : Tb), s = .ref T.p ∧ TabAt K M T ∧ ((RowBad M T.w c ∧ xe (He.ga K "BadRow") M) ∨ ∃ r : List Int, IsQ M c (r.map .int) ∧ (r.length : Int) = T.w ∧ T.th.length = 200 ∧ xe (He.ga K "Full") M)
theorem ok_Table_put_x (hTx : Tx K mg) : OkM P w K mg base (L2.CX P w) 2  (He.ma K (He.ga K "Table") "put") ["self", "row"] (pr_Table_put_x K) := by
  obtain ⟨_, G_is_whole, b_is_whole, k_is_whole, g_is_whole⟩ := ok_is_whole (P := P) (w := w) (base := base) hTx
  obtain ⟨_, F⟩ := hTx.fnM 21 s_Table_put "Table" "put" "Table.put" 52
  refine ⟨_, ?_, F.binds (ps := ["self", "row"]) fun _ _ _ _ _ _ us hl => match us, hl with | [_, _], _ => rfl⟩
  refine fn_dlX F sc_Table_put (fun _ _ _ _ h => q2_len h) (fun cdv A outer s H E hr => ⟨_, (pss_cons (ps_if (PW.pt (pw_or (pt_not (pt_val (pe_callB (kx_isiT (K := K) rfl) (by rfl) (hTx.fr 3) (by decide +kernel) (pa_cons (pv 1) (pa_cons (pe_tup (pa_cons (pe_bltn (v := .ty "list") (by rfl) (hTx.fr 6) (by decide +kernel) rfl) (pa_cons (pe_bltn (v := .ty "tuple") (by rfl) (hTx.fr 5) (by decide +kernel) rfl) pa_nil))) pa_nil))))) (pw_or1 (pt_cmpR op_ne (pe_callB (kx_len (K := K) rfl) (by rfl) (hTx.fr 1) (by decide +kernel) (pa_cons (pv 1) pa_nil)) (kx_fld (K := K) rfl (pv 0) rfl) (nomark _)))))
    (pss_one (ps_raise rfl (takes_of rfl rfl rfl rfl) (pmk_own PySem.F.excBase_ValueError (hTx.ex 21).1 (hTx.gl 22) (hTx.ex 21).2.1 (raises_own (hTx.ex 21).2.2.1 (hTx.ex 21).2.2.2) rfl)))
    pss_nil)
    (pss_cons (ps_for (passes_of rfl) rfl (pi_or (kx_plist (K := K) rfl (pv 1)) (kx_ptup (K := K) rfl (pv 1))) (pg_name (i := 2) sc_Table_put.nd rfl (Or.inl rfl))
    (pss_one (ps_if (pt_not (pt_val (pe_call G_is_whole (hr.mono (by decide)) rfl g_is_whole k_is_whole b_is_whole .nil pass0 (pa_cons (pv 2) pa_nil))))
    (pss_one (ps_raise rfl (takes_of rfl rfl rfl rfl) (pmk_own PySem.F.excBase_ValueError (hTx.ex 21).1 (hTx.gl 22) (hTx.ex 21).2.1 (raises_own (hTx.ex 21).2.2.1 (hTx.ex 21).2.2.2) rfl)))
    pss_nil)))
    (pss_cons (ps_if (pt_cmpR op_eq (pe_callB call_lenD (by rfl) (hTx.fr 1) (by decide +kernel) (pa_cons (kx_fld (K := K) rfl (pv 0) rfl) pa_nil)) (pe_glob (v := .int 200) rfl (hTx.gi 23).choose_spec ⟨_, rfl⟩) (nomark _))
    (pss_one (ps_raise rfl (takes_of rfl rfl rfl rfl) (pmk_own PySem.F.excBase_ValueError (hTx.ex 24).1 (hTx.gl 25) (hTx.ex 24).2.1 (raises_own (hTx.ex 24).2.2.1 (hTx.ex 24).2.2.2) rfl)))
    pss_nil)
    (pss_cons ps_never
    (pss_cons ps_never
    (pss_cons ps_never
    (pss_cons ps_never
    (pss_one ps_never)))))))), ?_⟩)
  try dsimp only [cx_K, cx_nK]
  rintro _ M nx xe ⟨s, c, rfl, T, rfl, hT, hx⟩
  show S (JX K E xe) _ [some (.ref T.p), some c, none, none, none] M _
  have hwd : ∀ ρ' : Ro, ρ'[0]? = some (some (.ref T.p)) → Ev (JX K E xe) (tFld K (tVar 0) "width") ρ' M (.int T.w) := fun ρ' h => ev_fld (ev_var h) hT.ob (hTx.cl 27) (hTx.na 77) tf_width
  have isi : ∀ ρ' : Ro, ρ'[1]? = some (some c) → tyN M c ≠ "" → Ev (JX K E xe) (tCB (rIsiT K) (tCons (tVar 1) (tCons (tTup (tCons (tC (.ty "list")) (tCons (tC (.ty "tuple")) tNil))) tNil))) ρ' M (.bl (decide (tyN M c = "list") || decide (tyN M c = "tuple"))) := fun ρ' h1 ht => ev_isi2 (tyN M c) (ev_var h1) rfl (kit_tl M c ht).2.2 ht
  have good : ∀ ds : List D, IsQ M c ds → ET (JX K E xe) (tOr (tNot (tB (tCB (rIsiT K) (tCons (tVar 1) (tCons (tTup (tCons (tC (.ty "list")) (tCons (tC (.ty "tuple")) tNil))) tNil))))) (tTest (tOp rNe (tCB (fun xs H Q => ∃ p ys, xs = [V.ref p] ∧ (SqL K H p ys ∨ SqT K H p ys) ∧ Q (.int ys.length) H) (tCons (tVar 1) tNil)) (tFld K (tVar 0) "width")))) [some (.ref T.p), some c, none, none, none] M (!decide ((ds.length : Int) = T.w)) := fun ds hq => by
    obtain ⟨h1, h2⟩ := rowTy hq
    exact (et_or (b := false) (c := !decide ((ds.length : Int) = T.w)) (et_not (b := true) ((et_B (isi _ rfl h2)).is h1)) fun _ => et_test (ev_neI (ev_len (ev_var rfl) hq) (hwd _ rfl))).is (by simp)
  have whl : ∀ (ρ' : Ro) (d : D), tyN M d ≠ "" → ρ'[2]? = some (some d) → ET (JX K E xe) (tNot (tB (tCall (spD K (pr_is_whole K)) [] E0 (tCons (tVar 2) tNil)))) ρ' M (!wholeD d) := fun ρ' d ht h2 => et_not (et_B (ev_is_whole (ev_var h2) ht))
  rcases hx with ⟨hb, hx⟩ | ⟨r, hq, hl, hf, hx⟩
  · rcases hb with ⟨t1, t2, t3⟩ | ⟨ds, hq, hty, hb⟩
    · refine s_seq (s_if (b := true) ?_ (fun _ => s_raise hx (fun _ _ _ z => z)) (fun z => nomatch z))
      exact (et_or (b := true) (c := false) (et_not (b := false) ((et_B (isi _ rfl t1)).is (by rw [decide_eq_false t2, decide_eq_false t3]; rfl))) fun z => nomatch z)
    rcases hb with hb | ⟨hl, d0, hd0, hb⟩
    · exact s_seq (s_if (b := true) ((good ds hq).is (by rw [decide_eq_false hb]; rfl)) (fun _ => s_raise hx (fun _ _ _ z => z)) (fun z => nomatch z))
    refine s_seq (s_if (b := false) ((good ds hq).is (by rw [decide_eq_true hl]; rfl)) (fun z => nomatch z) (fun _ => s_next ?_))
    refine s_seq (s_for (src_Q (ev_var rfl) hq) (fun i ρ' M' => M' = M ∧ (∃ a, ρ' = [some (.ref T.p), some c, a, none, none]) ∧ ∀ j, j < i → ∀ d, ds[j]? = some d → wholeD d = true) ⟨rfl, ⟨_, rfl⟩, fun j hj => absurd hj (Nat.not_lt_zero _)⟩ (fun i ρ' M' h => by rw [h.1]; exact hq) ?_ ?_)
    · rintro i d ρ' M' hdd ⟨rfl, ⟨a, rfl⟩, hg⟩
      refine sg_name ?_
      refine s_if (whl _ d (hty d (List.mem_of_getElem? hdd)) rfl) (fun _ => s_raise hx (fun _ _ _ z => z)) (fun hw => s_next ⟨rfl, ⟨_, rfl⟩, fun j hj e he => ?_⟩)
      rcases Nat.lt_or_eq_of_le (Nat.le_of_lt_succ hj) with z | z
      · exact hg j z e he
      · rw [z, hdd] at he
        cases he
        simpa using hw
    · rintro ρ' M' ⟨rfl, ⟨a, rfl⟩, hg⟩
      obtain ⟨j, hj⟩ := List.mem_iff_getElem?.mp hd0
      have := hg j (lt_of_get hj) d0 hj
      rw [hb] at this
      cases this
  · refine s_seq (s_if (b := false) ((good _ hq).is (by rw [List.length_map, decide_eq_true hl]; rfl)) (fun z => nomatch z) (fun _ => s_next ?_))
    refine s_seq (s_for (src_Q (ev_var rfl) hq) (fun i ρ' M' => M' = M ∧ (∃ a, ρ' = [some (.ref T.p), some c, a, none, none])) ⟨rfl, ⟨_, rfl⟩⟩ (fun i ρ' M' h => by rw [h.1]; exact hq) ?_ ?_)
    · rintro i d ρ' M' hdd ⟨rfl, ⟨a, rfl⟩⟩
      obtain ⟨n, hn, rfl⟩ := get_int hdd
      refine sg_name ?_
      exact s_if (b := false) ((whl _ (.int n) (tyN_fl rfl) rfl).is rfl) (fun z => nomatch z) (fun _ => s_next ⟨rfl, ⟨_, rfl⟩⟩)
    · rintro ρ' M' ⟨rfl, ⟨a, rfl⟩⟩
      refine s_seq (s_if (b := true) ?_ (fun _ => s_raise hx (fun _ _ _ z => z)) (fun z => nomatch z))
      exact (et_test (ev_eqI (ev_lenD (ev_fld (ev_var rfl) hT.ob (hTx.cl 27) (hTx.na 78) tf_held) hT.dc) ev_int)).is (by rw [thD_len, hf]; rfl)

def Kr.drop (n : Int) (r : List Int) (k : Kr) : Kr := { k with es := remE k.es (entryM k.cols n r) }
def Tb.drop (T : Tb) (n : Int) (r : List Int) : Tb := { T with th := thDrop T.th n, ks := T.ks.map (Kr.drop n r) }
theorem Tb.drop_adr (T : Tb) (n : Int) (r : List Int) : (T.drop n r).adr = T.adr := by
  unfold Tb.adr Tb.drop
  rw [List.map_map]
  rfl
theorem Tb.drop_ok {T : Tb} (h : TabOk T) {n : Int} {r : List Int} (hr : thGet T.th n = some r) : TabOk (T.drop n r) := by
  refine ⟨thDrop_nodup h.nd, fun m hm => ?_, fun p hp => h.wi p (thDrop_mem.mp hp).1, h.w0, h.w1, h.m0, ?_, fun k hk => ?_, ?_, ?_⟩
  · obtain ⟨q, hq, rfl⟩ := List.mem_map.mp hm
    exact h.rg _ (List.mem_map_of_mem (thDrop_mem.mp hq).1)
  · exact Nat.le_trans (List.length_filter_le _ _) h.hl
  · have hk' : k ∈ T.ks.map (Kr.drop n r) := hk
    obtain ⟨k0, hk0, rfl⟩ := List.mem_map.mp hk'
    obtain ⟨g1, g2⟩ := h.kk k0 hk0
    exact ⟨(g1.drop h.nd (thGet_mem hr)).2, g2⟩
  · show ((T.ks.map (Kr.drop n r)).map (·.cols)).Nodup
    rw [List.map_map]
    exact h.kn
  · show (T.ks.map (Kr.drop n r)).length ≤ 8
    rw [List.length_map]
    exact h.kl
def pr_Table_drop (K : PySem.W.Frag) : Pr := q2 fun s c M nx _ => ∃ (T : Tb) (n : Int) (r : List Int), s = .ref T.p ∧ c = .int n ∧ TabAt K M T ∧ TabOk T ∧ thGet T.th n = some r ∧ ∀ M', TStep K M M' T (T.drop n r) (thDrop T.th n) T.made (T.ks.map (·.cols)) → nx .non M'
section
variable {J : Jx} {ta tb to : TE} {ρ : Ro} {M : Mp} {E : XK} {R : D → Mp → Prop} {x : D}
theorem w_Table_drop {T : Tb} {n : Int} {r : List Int} (ho : Ev J to ρ M (.ref T.p)) (hb : Ev J tb ρ M (.int n)) (hT : TabAt J.K M T) (hO : TabOk T) (hr : thGet T.th n = some r) (k : ∀ M', TStep J.K M M' T (T.drop n r) (thDrop T.th n) T.made (T.ks.map (·.cols)) → R .non M') :
    W J (tMeth (He.ga J.K "Table") "drop" (spD J.K (pr_Table_drop J.K)) [] E to (tCons tb tNil)) ρ M R :=
  w_meth0 ho hT.ob (tf_no (by decide +kernel) (by decide +kernel) (by decide +kernel) (by decide +kernel)) (ea_cons hb ea_nil) ⟨_, _, rfl, T, n, r, rfl, rfl, hT, hO, hr, k⟩
end
/-- the orders under a change of the rows -/
theorem KsAt.hd {K : PySem.W.Frag} {M : Mp} {T : Tb} {o : MO} (h : TabAt K M T) : KsAt K (ud M T.hd o) T.kl T.ks := h.ka.mono fun b u hb e => by
  have e2 : b ≠ T.hd := by
    rcases hb with rfl | ⟨k, hk, rfl | rfl⟩
    · exact ne_mo h.ka.li h.dc (by intro z; cases z)
    · exact ne_mo (h.ka.ke k hk).ob h.dc (by intro z; cases z)
    · exact ne_mo (h.ka.ke k hk).en h.dc (by intro z; cases z)
  rw [ud_ne e2]
  exact e
abbrev nm_Table_drop : List Str := ["self", "number", "row", "one"]
theorem sc_Table_drop : FnScope nm_Table_drop ["self", "number"] (defScope s_Table_drop) := ⟨rfl, rfl, rfl, by decide +kernel, rfl, by decide +kernel, by decide +kernel⟩
theorem ok_Table_drop (hTx : Tx K mg) : OkM P w K mg base CX0 4  (He.ma K (He.ga K "Table") "drop") ["self", "number"] (pr_Table_drop K) := by
  obtain ⟨_, G_Table_need_row, b_Table_need_row⟩ := ok_Table_need_row (P := P) (w := w) (base := base) hTx
  obtain ⟨_, G_Kept_drop, b_Kept_drop⟩ := ok_Kept_drop (P := P) (w := w) (base := base) hTx
  obtain ⟨_, F⟩ := hTx.fnM 22 s_Table_drop "Table" "drop" "Table.drop" 58
  refine ⟨_, ?_, F.binds (ps := ["self", "number"]) fun _ _ _ _ _ _ us hl => match us, hl with | [_, _], _ => rfl⟩
  refine fn_dl F sc_Table_drop (fun _ _ _ _ h => q2_len h) (fun cdv A outer s H E hr => ⟨_, (pss_cons (ps_expr (pe_meth (pv 0) (hTx.cl 27) (hTx.me 28) G_Table_need_row (hr.mono (by decide)) b_Table_need_row .nil pass0 (pa_cons (pv 1) pa_nil)))
    (pss_cons (ps_set (i := 2) sc_Table_drop.nd rfl (Or.inl rfl) (pe_dpop1 (kx_fld (K := K) rfl (pv 0) rfl) (pv 1) ⟨by rfl, by rfl, by rfl, by rfl⟩))
    (pss_one (ps_for PassesOwn.never rfl (kx_plist (K := K) rfl (kx_fld (K := K) rfl (pv 0) rfl)) (pg_name (i := 3) sc_Table_drop.nd rfl (Or.inl rfl))
    (pss_one (ps_expr (pe_meth (pv 3) (hTx.cl 13) (hTx.me 29) G_Kept_drop (hr.mono (by decide)) b_Kept_drop .nil pass0 (pa_cons (pv 1) (pa_cons (pv 2) pa_nil))))))))), ?_⟩)
  try dsimp only [cx_K, cx_nK]
  rintro _ M nx xe ⟨s, c, rfl, T, n, r, rfl, rfl, hT, hO, hr, k⟩
  show S (J0 K) _ [some (.ref T.p), some (.int n), none, none] M _
  refine s_seq (s_drop ((ev_Table_need_row (T := T) (n := n) (r := r) (ev_var rfl) hT (ev_var rfl) hr).w ?_))
  have B1 := hT.ob
  have B2 := hT.dc
  have B3 := hT.ka.li
  have hph : T.p ≠ T.hd := ne_mo B1 B2 (by intro z; cases z)
  have hhk : T.hd ≠ T.kl := ne_mo B2 B3 (by intro z; cases z)
  refine s_seq (s_asg (w_dpop1 (k := .inl n) (a := T.hd) (z := rowD r) (ev_fld (ev_var rfl) hT.ob (hTx.cl 27) (hTx.na 78) tf_held) (ev_var rfl) hT.dc (by rw [thD_val, hr]; rfl) ?_))
  rw [thD_drop]
  have f2 : Frame M (ud M T.hd (.dct (thD (thDrop T.th n)))) T.adr := Frame.ud (by simp [Tb.adr])
  have g1 : (ud M T.hd (.dct (thD (thDrop T.th n)))) T.p = some (.ins (He.ga K "Table") (tf T.w T.hd T.made T.kl)) := by walk_at "led"
  have g2 : (ud M T.hd (.dct (thD (thDrop T.th n)))) T.hd = some (.dct (thD (thDrop T.th n))) := ud_same
  have g3 : KsAt K (ud M T.hd (.dct (thD (thDrop T.th n)))) T.kl T.ks := KsAt.hd hT
  revert f2 g1 g2 g3
  generalize (ud M T.hd (.dct (thD (thDrop T.th n)))) = M2
  intro f2 g1 g2 g3
  have hrm := thGet_mem hr
  have hrl : r.length = T.w.toNat := hO.wi _ hrm
  refine s_for (src_r (ev_fld (ev_var rfl) g1 (hTx.cl 27) (hTx.na 80) tf_kept) g3.li) (fun i ρ' M3 => Frame M M3 T.adr ∧ M3 T.p = some (.ins (He.ga K "Table") (tf T.w T.hd T.made T.kl)) ∧ M3 T.hd = some (.dct (thD (thDrop T.th n))) ∧ KsAt K M3 T.kl ((T.ks.take i).map (Kr.drop n r) ++ T.ks.drop i) ∧ ∃ b, ρ' = [some (.ref T.p), some (.int n), some (rowD r), b]) ⟨f2, g1, g2, g3, _, rfl⟩ (fun i ρ' M3 h => by
    rw [h.2.2.2.1.li, List.map_append, List.map_map]
    show some (MO.lst ((T.ks.take i).map (fun k => D.ref k.p) ++ (T.ks.drop i).map fun k => D.ref k.p)) = _
    rw [← List.map_append, List.take_append_drop]) ?_ ?_
  · rintro i d ρ' M3 hdd ⟨q1, q2, q3, q4, b, rfl⟩
    obtain ⟨kr, hkr, rfl⟩ := get_map hdd
    have hkm := List.mem_of_getElem? hkr
    obtain ⟨o1, o2⟩ := hO.kk kr hkm
    refine sg_name ?_
    rw [drop_at hkr] at q4
    have hka := q4.ke kr (by simp)
    have hcl := o2.len hO.w1
    have hnl : kr.l ≠ T.p := ne_mo hka.en q2 (by intro z; cases z)
    have hnh : kr.l ≠ T.hd := ne_mo hka.en q3 (by intro z; cases z)
    refine s_drop (w_Kept_drop (p := kr.p) (l := kr.l) (cols := kr.cols) (row := r) (es := kr.es) (num := n) (ev_var rfl) hka (ev_var rfl) (ev_var rfl) .l (fun c hc => by have := o2.1 c hc; omega) (by omega) o1.rising (by rw [o1.len]; have := hO.hl; omega) (o1.drop hO.nd hrm).1 ?_)
    refine ⟨q1.trans (Frame.ud (by simp only [Tb.adr, List.mem_cons]; exact .inr (.inr (.inr (List.mem_map_of_mem (f := (·.l)) hkm))))), by walk_at "led", by walk_at "led", ?_, _, rfl⟩
    have tk : T.ks.take (i + 1) = T.ks.take i ++ [kr] := by
      obtain ⟨hl, e⟩ := List.getElem?_eq_some_iff.mp hkr
      rw [← e]
      exact (List.take_append_getElem hl).symm
    rw [tk, List.map_append, List.append_assoc]
    exact q4.set
  · rintro ρ' M3 ⟨q1, q2, q3, q4, b, rfl⟩
    rw [List.length_map, List.take_length, List.drop_length, List.append_nil] at q4
    refine k M3 ⟨⟨q2, q3, q4⟩, Tb.drop_ok hO hr, rfl, rfl, rfl, ?_, rfl, q1, fun x hx => .inl (by rw [Tb.drop_adr] at hx; exact hx)⟩
    show (T.ks.map (Kr.drop n r)).map (·.cols) = _
    rw [List.map_map]
    rfl

def pr_Table_drop_x (K : PySem.W.Frag) : Pr := q2 fun s c M _ xe => ∃ (T : Tb), s = .ref T.p ∧ TabAt K M T ∧ tyN M c ≠ "" ∧ RowNo T c ∧ xe (He.ga K "NoRow") M
theorem ok_Table_drop_x (hTx : Tx K mg) : OkM P w K mg base (L2.CX P w) 3  (He.ma K (He.ga K "Table") "drop") ["self", "number"] (pr_Table_drop_x K) := by
  obtain ⟨_, G_Table_need_row, b_Table_need_row⟩ := ok_Table_need_row (P := P) (w := w) (base := base) hTx
  obtain ⟨_, G_Table_need_row_x, b_Table_need_row_x⟩ := ok_Table_need_row_x (P := P) (w := w) (base := base) hTx
  obtain ⟨_, F⟩ := hTx.fnM 22 s_Table_drop "Table" "drop" "Table.drop" 58
  refine ⟨_, ?_, F.binds (ps := ["self", "number"]) fun _ _ _ _ _ _ us hl => match us, hl with | [_, _], _ => rfl⟩
  refine fn_dlX F sc_Table_drop (fun _ _ _ _ h => q2_len h) (fun cdv A outer s H E hr => ⟨_, (pss_cons (ps_expr (pe_ei (pe_meth (pv 0) (hTx.cl 27) (hTx.me 28) G_Table_need_row (hr.mono (by decide)) b_Table_need_row .nil pass0 (pa_cons (pv 1) pa_nil)) (pe_meth (pv 0) (hTx.cl 27) (hTx.me 28) G_Table_need_row_x (hr.mono (by decide)) b_Table_need_row_x .nil (passes_call (takes_of rfl rfl rfl rfl) (fun _ _ _ _ z => z)) (pa_cons (pv 1) pa_nil))))
    (pss_cons ps_never
    (pss_one ps_never))), ?_⟩)
  try dsimp only [cx_K, cx_nK]
  rintro _ M nx xe ⟨s, c, rfl, T, rfl, hT, ht, hn, hx⟩
  show S (JX K E xe) _ [some (.ref T.p), some c, none, none] M _
  exact s_seq (s_drop (w_ei2 (w_Table_need_row_x (T := T) (ev_var rfl) hT (ev_var rfl) ht hn hx)))

def Kr.change (n : Int) (r f : List Int) (k : Kr) : Kr := Kr.put n f (Kr.drop n r k)
def Tb.change (T : Tb) (n : Int) (r f : List Int) : Tb := { T with th := thPut T.th n f, ks := T.ks.map (Kr.change n r f) }
theorem Tb.change_adr (T : Tb) (n : Int) (r f : List Int) : (T.change n r f).adr = T.adr := by
  unfold Tb.adr Tb.change
  rw [List.map_map]
  rfl
theorem thPut_keys {th : Th} {n : Int} {r f : List Int} (h : thGet th n = some r) : (thPut th n f).map (·.1) = th.map (·.1) := by
  unfold thPut
  rw [if_pos (by rw [h]; rfl), List.map_map]
  refine List.map_congr_left fun p _ => ?_
  show (if p.1 = n then (p.1, f) else p).1 = p.1
  split <;> rfl
theorem thPut_mem {th : Th} {n : Int} {r f : List Int} (h : thGet th n = some r) {p : Int × List Int} (hp : p ∈ thPut th n f) : (p ∈ th ∧ p.1 ≠ n) ∨ p = (n, f) := by
  unfold thPut at hp
  rw [if_pos (by rw [h]; rfl)] at hp
  obtain ⟨q, hq, rfl⟩ := List.mem_map.mp hp
  by_cases e : q.1 = n
  · rw [if_pos e, e]; exact .inr rfl
  · rw [if_neg e]; exact .inl ⟨hq, e⟩
theorem thPut_perm {n : Int} {f : List Int} : ∀ {th : Th} {r : List Int}, (th.map (·.1)).Nodup → thGet th n = some r → (thPut th n f).Perm (thDrop th n ++ [(n, f)])
  | [], r, _, h => by cases h
  | p :: th, r, hn, h => by
    have hs : (thGet (p :: th) n).isSome = true := by rw [h]; rfl
    rw [List.map_cons, List.nodup_cons] at hn
    unfold thPut
    rw [if_pos hs, List.map_cons]
    unfold thDrop
    by_cases e : p.1 = n
    · rw [if_pos e, List.filter_cons_of_neg (by simp [e])]
      have hno : ∀ q ∈ th, q.1 ≠ n := fun q hq z => hn.1 (by rw [e, ← z]; exact List.mem_map_of_mem (f := (·.1)) hq)
      have e1 : th.map (fun q => if q.1 = n then (q.1, f) else q) = th := by
        conv => rhs; rw [← List.map_id th]
        exact List.map_congr_left fun q hq => if_neg (hno q hq)
      have e2 : th.filter (fun q => decide (q.1 ≠ n)) = th := List.filter_eq_self.mpr fun q hq => decide_eq_true (hno q hq)
      rw [e1, e2, e]
      exact (List.perm_append_singleton _ _).symm
    · rw [if_neg e, List.filter_cons_of_pos (by simpa using e), List.cons_append]
      have h2 : thGet th n = some r := by
        unfold thGet at h ⊢
        rw [List.find?_cons, decide_eq_false e] at h
        exact h
      have ih := thPut_perm (f := f) hn.2 h2
      unfold thPut thDrop at ih
      rw [if_pos (by rw [h2]; rfl)] at ih
      exact ih.cons p
theorem KOrd.perm_th {cols : List Int} {th th' : Th} {es : List (List Int)} (h : KOrd cols th es) (p : th.Perm th') : KOrd cols th' es := ⟨h.perm.trans (p.map _), h.ord⟩
theorem Tb.change_ok {T : Tb} (h : TabOk T) {n : Int} {r f : List Int} (hr : thGet T.th n = some r) (hf : (f.length : Int) = T.w) : TabOk (T.change n r f) := by
  have hkeys := thPut_keys (f := f) hr
  refine ⟨?_, ?_, fun p hp => ?_, h.w0, h.w1, h.m0, ?_, fun k hk => ?_, ?_, ?_⟩
  · show ((thPut T.th n f).map (·.1)).Nodup
    rw [hkeys]; exact h.nd
  · show ∀ m ∈ (thPut T.th n f).map (·.1), _
    rw [hkeys]; exact h.rg
  · show p.2.length = T.w.toNat
    rcases thPut_mem hr hp with ⟨z, _⟩ | z
    · exact h.wi p z
    · rw [z]; show f.length = _; omega
  · show (thPut T.th n f).length ≤ 200
    have e := congrArg List.length hkeys
    rw [List.length_map, List.length_map] at e
    rw [e]; exact h.hl
  · have hk' : k ∈ T.ks.map (Kr.change n r f) := hk
    obtain ⟨k0, hk0, rfl⟩ := List.mem_map.mp hk'
    obtain ⟨g1, g2⟩ := h.kk k0 hk0
    refine ⟨?_, g2⟩
    have d := (g1.drop h.nd (thGet_mem hr)).2
    have hnew : n ∉ (thDrop T.th n).map (·.1) := fun z => by
      obtain ⟨q, hq, e⟩ := List.mem_map.mp z
      exact (thDrop_mem.mp hq).2 e
    exact (d.put n f hnew).perm_th (thPut_perm h.nd hr).symm
  · show ((T.ks.map (Kr.change n r f)).map (·.cols)).Nodup
    rw [List.map_map]
    exact h.kn
  · show (T.ks.map (Kr.change n r f)).length ≤ 8
    rw [List.length_map]
    exact h.kl
def pr_Table_change (K : PySem.W.Frag) : Pr := q4 fun s c d e M nx _ => ∃ (T : Tb) (n col v : Int) (r : List Int), s = .ref T.p ∧ c = .int n ∧ d = .int col ∧ e = .int v ∧ TabAt K M T ∧ TabOk T ∧ thGet T.th n = some r ∧ 0 ≤ col ∧ col < T.w ∧ ∀ M', TStep K M M' T (T.change n r (r.set col.toNat v)) (thPut T.th n (r.set col.toNat v)) T.made (T.ks.map (·.cols)) → nx .non M'
section
variable {J : Jx} {ta tb tc td to : TE} {ρ : Ro} {M : Mp} {E : XK} {R : D → Mp → Prop} {x : D}
theorem w_Table_change {T : Tb} {n col v : Int} {r : List Int} (ho : Ev J to ρ M (.ref T.p)) (hb : Ev J tb ρ M (.int n)) (hc : Ev J tc ρ M (.int col)) (hd : Ev J td ρ M (.int v)) (hT : TabAt J.K M T) (hO : TabOk T) (hr : thGet T.th n = some r) (c0 : 0 ≤ col) (c1 : col < T.w) (k : ∀ M', TStep J.K M M' T (T.change n r (r.set col.toNat v)) (thPut T.th n (r.set col.toNat v)) T.made (T.ks.map (·.cols)) → R .non M') :
    W J (tMeth (He.ga J.K "Table") "change" (spD J.K (pr_Table_change J.K)) [] E to (tCons tb (tCons tc (tCons td tNil)))) ρ M R :=
  w_meth0 ho hT.ob (tf_no (by decide +kernel) (by decide +kernel) (by decide +kernel) (by decide +kernel)) (ea_cons hb (ea_cons hc (ea_cons hd ea_nil))) ⟨_, _, _, _, rfl, T, n, col, v, r, rfl, rfl, rfl, rfl, hT, hO, hr, c0, c1, k⟩
end
abbrev nm_Table_change : List Str := ["self", "number", "column", "value", "old", "fresh", "one"]
theorem sc_Table_change : FnScope nm_Table_change ["self", "number", "column", "value"] (defScope s_Table_change) := ⟨rfl, rfl, rfl, by decide +kernel, rfl, by decide +kernel, by decide +kernel⟩
theorem ok_Table_change (hTx : Tx K mg) : OkM P w K mg base CX0 4  (He.ma K (He.ga K "Table") "change") ["self", "number", "column", "value"] (pr_Table_change K) := by
  obtain ⟨_, G_Table_need_row, b_Table_need_row⟩ := ok_Table_need_row (P := P) (w := w) (base := base) hTx
  obtain ⟨_, G_is_whole, b_is_whole, k_is_whole, g_is_whole⟩ := ok_is_whole (P := P) (w := w) (base := base) hTx
  obtain ⟨_, G_Kept_drop, b_Kept_drop⟩ := ok_Kept_drop (P := P) (w := w) (base := base) hTx
  obtain ⟨_, G_Kept_put, b_Kept_put⟩ := ok_Kept_put (P := P) (w := w) (base := base) hTx
  obtain ⟨_, F⟩ := hTx.fnM 23 s_Table_change "Table" "change" "Table.change" 57
  refine ⟨_, ?_, F.binds (ps := ["self", "number", "column", "value"]) fun _ _ _ _ _ _ us hl => match us, hl with | [_, _, _, _], _ => rfl⟩
  refine fn_dl F sc_Table_change (fun _ _ _ _ h => q4_len h) (fun cdv A outer s H E hr => ⟨_, (pss_cons (ps_expr (pe_meth (pv 0) (hTx.cl 27) (hTx.me 28) G_Table_need_row (hr.mono (by decide)) b_Table_need_row .nil pass0 (pa_cons (pv 1) pa_nil)))
    (pss_cons (ps_if (PW.pt (pw_or (pt_not (pt_val (pe_call G_is_whole (hr.mono (by decide)) rfl g_is_whole k_is_whole b_is_whole .nil pass0 (pa_cons (pv 2) pa_nil)))) (pw_or1 (pt_not (pt_chain op_le op_lt pe_int (pv 2) (kx_fld (K := K) rfl (pv 0) rfl))))))
    (pss_one (ps_raise rfl takes0 (pmk_own PySem.F.excBase_ValueError (hTx.ex 30).1 (hTx.gl 31) (hTx.ex 30).2.1 (raises_own (hTx.ex 30).2.2.1 (hTx.ex 30).2.2.2) rfl)))
    pss_nil)
    (pss_cons (ps_if (pt_not (pt_val (pe_call G_is_whole (hr.mono (by decide)) rfl g_is_whole k_is_whole b_is_whole .nil pass0 (pa_cons (pv 3) pa_nil))))
    (pss_one (ps_raise rfl takes0 (pmk_own PySem.F.excBase_ValueError (hTx.ex 21).1 (hTx.gl 22) (hTx.ex 21).2.1 (raises_own (hTx.ex 21).2.2.1 (hTx.ex 21).2.2.2) rfl)))
    pss_nil)
    (pss_cons (ps_set (i := 4) sc_Table_change.nd rfl (Or.inl rfl) (pe_dget (hu_of hr) (kx_fld (K := K) rfl (pv 0) rfl) (pv 1) (fun _ _ => rfl)))
    (pss_cons (ps_set (i := 5) sc_Table_change.nd rfl (Or.inl rfl) (pe_callTy (kx_list (K := K) rfl) (by rfl) (hTx.fr 6) (by decide +kernel) (pa_cons (pv 4) pa_nil)))
    (pss_cons (ps_asg (pv 3) (pg_sub (pv 5) (pv 2) set_list))
    (pss_cons (ps_dput (hu_of hr) (kx_fld (K := K) rfl (pv 0) rfl) (pv 1) (pv 5) rfl)
    (pss_one (ps_for PassesOwn.never rfl (kx_plist (K := K) rfl (kx_fld (K := K) rfl (pv 0) rfl)) (pg_name (i := 6) sc_Table_change.nd rfl (Or.inl rfl))
    (pss_cons (ps_expr (pe_meth (pv 6) (hTx.cl 13) (hTx.me 29) G_Kept_drop (hr.mono (by decide)) b_Kept_drop .nil pass0 (pa_cons (pv 1) (pa_cons (pv 4) pa_nil))))
    (pss_one (ps_expr (pe_meth (pv 6) (hTx.cl 13) (hTx.me 26) G_Kept_put (hr.mono (by decide)) b_Kept_put .nil pass0 (pa_cons (pv 1) (pa_cons (pv 5) pa_nil))))))))))))))), ?_⟩)
  try dsimp only [cx_K, cx_nK]
  rintro _ M nx xe ⟨s, c, d, e, rfl, T, n, col, v, r, rfl, rfl, rfl, rfl, hT, hO, hr, c0, c1, k⟩
  show S (J0 K) _ [some (.ref T.p), some (.int n), some (.int col), some (.int v), none, none, none] M _
  refine s_seq (s_drop ((ev_Table_need_row (T := T) (n := n) (r := r) (ev_var rfl) hT (ev_var rfl) hr).w ?_))
  have B1 := hT.ob
  have B2 := hT.dc
  have B3 := hT.ka.li
  have hph : T.p ≠ T.hd := ne_mo B1 B2 (by intro z; cases z)
  refine s_seq (s_if (b := false) ?_ (fun z => nomatch z) (fun _ => s_next ?_))
  · refine (et_or (b := false) (c := false) (et_not (et_B (ev_is_wholeI (ev_var rfl)))) fun _ => et_not (b := true) ((et_test (ev_chainB (f := fun i j => decide (i ≤ j)) (g := fun i j => decide (i < j)) ev_int (ev_var rfl) (ev_fld (ev_var rfl) hT.ob (hTx.cl 27) (hTx.na 77) tf_width))).is ?_))
    rw [decide_eq_true c0, decide_eq_true c1]
    rfl
  refine s_seq (s_if (b := false) (et_not (et_B (ev_is_wholeI (ev_var rfl)))) (fun z => nomatch z) (fun _ => s_next ?_))
  have hrm := thGet_mem hr
  have hrl : r.length = T.w.toNat := hO.wi _ hrm
  refine s_seq (s_asgE (ev_dget (k := .inl n) (z := rowD r) (ev_fld (ev_var rfl) hT.ob (hTx.cl 27) (hTx.na 78) tf_held) (ev_var rfl) hT.dc (by rw [thD_val, hr]; rfl)) ?_)
  refine s_seq (s_asg ((en_list (ds := r.map .int) (ev_var rfl) .l).w fun h hh => ?_))
  have n1 : T.p ≠ h := ne_old B1 hh
  have n2 : T.hd ≠ h := ne_old B2 hh
  have ec : ((col.toNat : Nat) : Int) = col := Int.toNat_of_nonneg c0
  refine s_seq (s_setL (a := h) (k := col) (j := col.toNat) (ds := r.map .int) (x := .int v) (ev_var rfl) (ev_var rfl) (ev_var rfl) ud_same (by unfold ixN; rw [if_pos c0, if_pos (by rw [List.length_map]; omega)]) ?_)
  rw [ud_ud]
  refine s_freeze (a := h) (i := 5) ud_same rfl ?_
  rw [del_ud hh]
  have es : (r.map D.int).set col.toNat (.int v) = (r.set col.toNat v).map .int := List.map_set.symm
  rw [es]
  have hfl : ((r.set col.toNat v).length : Int) = T.w := by rw [List.length_set]; have := hO.w0; omega
  revert hfl k
  generalize r.set col.toNat v = f
  intro k hfl
  refine s_seq (s_dput (k := .inl n) (a := T.hd) (kvs := thD T.th) (x := rowD f) (ev_var rfl) (ev_fld (ev_var rfl) hT.ob (hTx.cl 27) (hTx.na 78) tf_held) (ev_var rfl) hT.dc (szl (by rw [thD_len]; have := hO.hl; omega)) ?_)
  show S _ _ _ (ud M T.hd (.dct (putA (thD T.th) (Sum.inl n) (rowD f)))) _
  rw [thD_put]
  have f2 : Frame M (ud M T.hd (.dct (thD (thPut T.th n f)))) T.adr := Frame.ud (by simp [Tb.adr])
  have g1 : (ud M T.hd (.dct (thD (thPut T.th n f)))) T.p = some (.ins (He.ga K "Table") (tf T.w T.hd T.made T.kl)) := by walk_at "led"
  have g2 : (ud M T.hd (.dct (thD (thPut T.th n f)))) T.hd = some (.dct (thD (thPut T.th n f))) := ud_same
  have g3 : KsAt K (ud M T.hd (.dct (thD (thPut T.th n f)))) T.kl T.ks := KsAt.hd hT
  revert f2 g1 g2 g3
  generalize (ud M T.hd (.dct (thD (thPut T.th n f)))) = M2
  intro f2 g1 g2 g3
  refine s_for (src_r (ev_fld (ev_var rfl) g1 (hTx.cl 27) (hTx.na 80) tf_kept) g3.li) (fun i ρ' M3 => Frame M M3 T.adr ∧ M3 T.p = some (.ins (He.ga K "Table") (tf T.w T.hd T.made T.kl)) ∧ M3 T.hd = some (.dct (thD (thPut T.th n f))) ∧ KsAt K M3 T.kl ((T.ks.take i).map (Kr.change n r f) ++ T.ks.drop i) ∧ ∃ b, ρ' = [some (.ref T.p), some (.int n), some (.int col), some (.int v), some (rowD r), some (rowD f), b]) ⟨f2, g1, g2, g3, _, rfl⟩ (fun i ρ' M3 h => by
    rw [h.2.2.2.1.li, List.map_append, List.map_map]
    show some (MO.lst ((T.ks.take i).map (fun k => D.ref k.p) ++ (T.ks.drop i).map fun k => D.ref k.p)) = _
    rw [← List.map_append, List.take_append_drop]) ?_ ?_
  · rintro i d ρ' M3 hdd ⟨q1, q2, q3, q4, b, rfl⟩
    obtain ⟨kr, hkr, rfl⟩ := get_map hdd
    have hkm := List.mem_of_getElem? hkr
    obtain ⟨o1, o2⟩ := hO.kk kr hkm
    refine sg_name ?_
    rw [drop_at hkr] at q4
    have hka := q4.ke kr (by simp)
    have hcl := o2.len hO.w1
    have hnl : kr.l ≠ T.p := ne_mo hka.en q2 (by intro z; cases z)
    have hnh : kr.l ≠ T.hd := ne_mo hka.en q3 (by intro z; cases z)
    have hmem : kr.l ∈ T.adr := by simp only [Tb.adr, List.mem_cons]; exact .inr (.inr (.inr (List.mem_map_of_mem (f := (·.l)) hkm)))
    have hes : kr.es.length ≤ 200 := by rw [o1.len]; exact hO.hl
    refine s_seq (s_drop (w_Kept_drop (p := kr.p) (l := kr.l) (cols := kr.cols) (row := r) (es := kr.es) (num := n) (ev_var rfl) hka (ev_var rfl) (ev_var rfl) .l (fun c hc => by have := o2.1 c hc; omega) (by omega) o1.rising (by omega) (o1.drop hO.nd hrm).1 ?_))
    have q4' := q4.set (es := remE kr.es (entryM kr.cols n r))
    have hka' := q4'.ke { kr with es := remE kr.es (entryM kr.cols n r) } (by simp)
    have od := (o1.drop hO.nd hrm).2
    have hdl : (thDrop T.th n).length ≤ 200 := Nat.le_trans (List.length_filter_le _ _) hO.hl
    refine s_drop (w_Kept_put (p := kr.p) (l := kr.l) (cols := kr.cols) (row := f) (es := remE kr.es (entryM kr.cols n r)) (num := n) (ev_var rfl) hka' (ev_var rfl) (ev_var rfl) .l (fun c hc => by have := o2.1 c hc; omega) (by omega) od.rising (by rw [od.len]; omega) ?_)
    refine ⟨(q1.trans (Frame.ud hmem)).trans (Frame.ud hmem), by walk_at "led", by walk_at "led", ?_, _, rfl⟩
    have tk : T.ks.take (i + 1) = T.ks.take i ++ [kr] := by
      obtain ⟨hl, e⟩ := List.getElem?_eq_some_iff.mp hkr
      rw [← e]
      exact (List.take_append_getElem hl).symm
    rw [tk, List.map_append, List.append_assoc]
    exact q4'.set
  · rintro ρ' M3 ⟨q1, q2, q3, q4, b, rfl⟩
    rw [List.length_map, List.take_length, List.drop_length, List.append_nil] at q4
    refine k M3 ⟨⟨q2, q3, q4⟩, Tb.change_ok hO hr hfl, rfl, rfl, rfl, ?_, rfl, q1, fun x hx => .inl (by rw [Tb.change_adr] at hx; exact hx)⟩
    show (T.ks.map (Kr.change n r f)).map (·.cols) = _
    rw [List.map_map]
    rfl

/-- no column of that number -/
def ColNo (T : Tb) (c : D) : Prop := ∀ n, c = .int n → ¬ (0 ≤ n ∧ n < T.w)
theorem col_cases (T : Tb) (c : D) : ColNo T c ∨ ∃ n, c = .int n ∧ 0 ≤ n ∧ n < T.w := by
  rcases whole_cases c with h | ⟨n, rfl⟩
  · exact .inl fun n e => by rw [e] at h; cases h
  · by_cases q : 0 ≤ n ∧ n < T.w
    · exact .inr ⟨n, rfl, q.1, q.2⟩
    · exact .inl fun m e => by cases e; exact q
/-- why a change is refused -/
def ChNo (K : PySem.W.Frag) (M : Mp) (T : Tb) (c d e : D) (xe : Addr → Mp → Prop) : Prop :=
  (tyN M c ≠ "" ∧ RowNo T c ∧ xe (He.ga K "NoRow") M) ∨ ∃ n r, c = .int n ∧ thGet T.th n = some r ∧ ((tyN M d ≠ "" ∧ ColNo T d ∧ xe (He.ga K "BadColumn") M) ∨ ∃ m, d = .int m ∧ 0 ≤ m ∧ m < T.w ∧ tyN M e ≠ "" ∧ wholeD e = false ∧ xe (He.ga K "BadRow") M)
def pr_Table_change_x (K : PySem.W.Frag) : Pr := q4 fun s c d e M _ xe => ∃ (T : Tb), s = .ref T.p ∧ TabAt K M T ∧ ChNo K M T c d e xe
theorem ok_Table_change_x (hTx : Tx K mg) : OkM P w K mg base (L2.CX P w) 3  (He.ma K (He.ga K "Table") "change") ["self", "number", "column", "value"] (pr_Table_change_x K) := by
  obtain ⟨_, G_Table_need_row, b_Table_need_row⟩ := ok_Table_need_row (P := P) (w := w) (base := base) hTx
  obtain ⟨_, G_Table_need_row_x, b_Table_need_row_x⟩ := ok_Table_need_row_x (P := P) (w := w) (base := base) hTx
  obtain ⟨_, G_is_whole, b_is_whole, k_is_whole, g_is_whole⟩ := ok_is_whole (P := P) (w := w) (base := base) hTx
  obtain ⟨_, F⟩ := hTx.fnM 23 s_Table_change "Table" "change" "Table.change" 57
  refine ⟨_, ?_, F.binds (ps := ["self", "number", "column", "value"]) fun _ _ _ _ _ _ us hl => match us, hl with | [_, _, _, _], _ => rfl⟩
  refine fn_dlX F sc_Table_change (fun _ _ _ _ h => q4_len h) (fun cdv A outer s H E hr => ⟨_, (pss_cons (ps_expr (pe_ei (pe_meth (pv 0) (hTx.cl 27) (hTx.me 28) G_Table_need_row (hr.mono (by decide)) b_Table_need_row .nil pass0 (pa_cons (pv 1) pa_nil)) (pe_meth (pv 0) (hTx.cl 27) (hTx.me 28) G_Table_need_row_x (hr.mono (by decide)) b_Table_need_row_x .nil (passes_call (takes_of rfl rfl rfl rfl) (fun _ _ _ _ z => z)) (pa_cons (pv 1) pa_nil))))
    (pss_cons (ps_if (PW.pt (pw_or (pt_not (pt_val (pe_call G_is_whole (hr.mono (by decide)) rfl g_is_whole k_is_whole b_is_whole .nil pass0 (pa_cons (pv 2) pa_nil)))) (pw_or1 (pt_not (pt_chain op_le op_lt pe_int (pv 2) (kx_fld (K := K) rfl (pv 0) rfl))))))
    (pss_one (ps_raise rfl (takes_of rfl rfl rfl rfl) (pmk_own PySem.F.excBase_ValueError (hTx.ex 30).1 (hTx.gl 31) (hTx.ex 30).2.1 (raises_own (hTx.ex 30).2.2.1 (hTx.ex 30).2.2.2) rfl)))
    pss_nil)
    (pss_cons (ps_if (pt_not (pt_val (pe_call G_is_whole (hr.mono (by decide)) rfl g_is_whole k_is_whole b_is_whole .nil pass0 (pa_cons (pv 3) pa_nil))))
    (pss_one (ps_raise rfl (takes_of rfl rfl rfl rfl) (pmk_own PySem.F.excBase_ValueError (hTx.ex 21).1 (hTx.gl 22) (hTx.ex 21).2.1 (raises_own (hTx.ex 21).2.2.1 (hTx.ex 21).2.2.2) rfl)))
    pss_nil)
    (pss_cons ps_never
    (pss_cons ps_never
    (pss_cons ps_never
    (pss_cons ps_never
    (pss_one ps_never)))))))), ?_⟩)
  try dsimp only [cx_K, cx_nK]
  rintro _ M nx xe ⟨s, c, d, e, rfl, T, rfl, hT, hx⟩
  show S (JX K E xe) _ [some (.ref T.p), some c, some d, some e, none, none, none] M _
  have hwd : ∀ ρ' : Ro, ρ'[0]? = some (some (.ref T.p)) → Ev (JX K E xe) (tFld K (tVar 0) "width") ρ' M (.int T.w) := fun ρ' h => ev_fld (ev_var h) hT.ob (hTx.cl 27) (hTx.na 77) tf_width
  rcases hx with ⟨ht, hn, hx⟩ | ⟨n, r, rfl, hr, hx⟩
  · exact s_seq (s_drop (w_ei2 (w_Table_need_row_x (T := T) (ev_var rfl) hT (ev_var rfl) ht hn hx)))
  refine s_seq (s_drop (w_ei1 ((ev_Table_need_row (T := T) (n := n) (r := r) (ev_var rfl) hT (ev_var rfl) hr).w ?_)))
  rcases hx with ⟨ht, hn, hx⟩ | ⟨m, rfl, m0, m1, ht, hv, hx⟩
  · refine s_seq (s_if (b := true) ?_ (fun _ => s_raise hx (fun _ _ _ z => z)) (fun z => nomatch z))
    rcases whole_cases d with h | ⟨m, rfl⟩
    · exact (et_or (b := true) (c := false) (et_not (b := false) ((et_B (ev_is_whole (ev_var rfl) ht)).is h)) fun z => nomatch z)
    · refine (et_or (b := false) (c := true) (et_not (et_B (ev_is_wholeI (ev_var rfl)))) fun _ => et_not (b := false) ((et_test (ev_chainB (f := fun i j => decide (i ≤ j)) (g := fun i j => decide (i < j)) ev_int (ev_var rfl) (hwd _ rfl))).is ?_))
      have := hn m rfl
      rw [Bool.eq_false_iff]
      intro z
      rw [Bool.and_eq_true] at z
      exact this ⟨of_decide_eq_true z.1, of_decide_eq_true z.2⟩
  · refine s_seq (s_if (b := false) ?_ (fun z => nomatch z) (fun _ => s_next ?_))
    · refine (et_or (b := false) (c := false) (et_not (et_B (ev_is_wholeI (ev_var rfl)))) fun _ => et_not (b := true) ((et_test (ev_chainB (f := fun i j => decide (i ≤ j)) (g := fun i j => decide (i < j)) ev_int (ev_var rfl) (hwd _ rfl))).is ?_))
      rw [decide_eq_true m0, decide_eq_true m1]
      rfl
    · refine s_seq (s_if (b := true) ?_ (fun _ => s_raise hx (fun _ _ _ z => z)) (fun z => nomatch z))
      exact et_not (b := false) ((et_B (ev_is_whole (ev_var rfl) ht)).is hv)

def pr_Table_row (K : PySem.W.Frag) : Pr := q2 fun s c M nx _ => ∃ (T : Tb) (n : Int) (r : List Int), s = .ref T.p ∧ c = .int n ∧ TabAt K M T ∧ thGet T.th n = some r ∧ nx (.tup (r.map .int)) M
section
variable {J : Jx} {ta tb to : TE} {ρ : Ro} {M : Mp} {E : XK}
theorem ev_Table_row {T : Tb} {n : Int} {r : List Int} (ho : Ev J to ρ M (.ref T.p)) (hT : TabAt J.K M T) (hb : Ev J tb ρ M (.int n)) (hr : thGet T.th n = some r) :
    Ev J (tMeth (He.ga J.K "Table") "row" (spD J.K (pr_Table_row J.K)) [] E to (tCons tb tNil)) ρ M (.tup (r.map .int)) :=
  w_meth0 ho hT.ob (tf_no (by decide +kernel) (by decide +kernel) (by decide +kernel) (by decide +kernel)) (ea_cons hb ea_nil) ⟨_, _, rfl, T, n, r, rfl, rfl, hT, hr, rfl, rfl⟩
end
abbrev nm_Table_row : List Str := ["self", "number"]
theorem sc_Table_row : FnScope nm_Table_row ["self", "number"] (defScope s_Table_row) := ⟨rfl, rfl, rfl, by decide +kernel, rfl, by decide +kernel, by decide +kernel⟩
theorem ok_Table_row (hTx : Tx K mg) : OkM P w K mg base CX0 3  (He.ma K (He.ga K "Table") "row") ["self", "number"] (pr_Table_row K) := by
  obtain ⟨_, G_Table_need_row, b_Table_need_row⟩ := ok_Table_need_row (P := P) (w := w) (base := base) hTx
  obtain ⟨_, F⟩ := hTx.fnM 24 s_Table_row "Table" "row" "Table.row" 62
  refine ⟨_, ?_, F.binds (ps := ["self", "number"]) fun _ _ _ _ _ _ us hl => match us, hl with | [_, _], _ => rfl⟩
  refine fn_dl F sc_Table_row (fun _ _ _ _ h => q2_len h) (fun cdv A outer s H E hr => ⟨_, (pss_cons (ps_expr (pe_meth (pv 0) (hTx.cl 27) (hTx.me 28) G_Table_need_row (hr.mono (by decide)) b_Table_need_row .nil pass0 (pa_cons (pv 1) pa_nil)))
    (pss_one (ps_ret (pe_callTy (kx_tuple (K := K) rfl) (by rfl) (hTx.fr 5) (by decide +kernel) (pa_cons (pe_dget (hu_of hr) (kx_fld (K := K) rfl (pv 0) rfl) (pv 1) (fun _ _ => rfl)) pa_nil))))), ?_⟩)
  try dsimp only [cx_K, cx_nK]
  rintro _ M nx xe ⟨s, c, rfl, T, n, r, rfl, rfl, hT, hr, k⟩
  refine s_seq (s_drop ((ev_Table_need_row (T := T) (n := n) (r := r) (ev_var rfl) hT (ev_var rfl) hr).w ?_))
  exact s_retE (ev_tuple (ds := r.map .int) (ev_dget (k := .inl n) (z := rowD r) (ev_fld (ev_var rfl) hT.ob (hTx.cl 27) (hTx.na 78) tf_held) (ev_var rfl) hT.dc (by rw [thD_val, hr]; rfl)) IsL.l.q) k

def pr_Table_numbers (K : PySem.W.Frag) : Pr := q1 fun s M nx _ => ∃ (T : Tb), s = .ref T.p ∧ TabAt K M T ∧ ∀ q, M q = none → nx (.ref q) (ud M q (.lst ((srtI (T.th.map (·.1))).map .int)))
section
variable {J : Jx} {ta tb to : TE} {ρ : Ro} {M : Mp} {E : XK}
theorem en_Table_numbers {T : Tb} (ho : Ev J to ρ M (.ref T.p)) (hT : TabAt J.K M T) :
    EvN J (tMeth (He.ga J.K "Table") "numbers" (spD J.K (pr_Table_numbers J.K)) [] E to tNil) ρ M ((srtI (T.th.map (·.1))).map .int) :=
  w_meth0 ho hT.ob (tf_no (by decide +kernel) (by decide +kernel) (by decide +kernel) (by decide +kernel)) ea_nil ⟨_, rfl, T, rfl, hT, fun q hq => ⟨q, hq, rfl, rfl⟩⟩
end
abbrev nm_Table_numbers : List Str := ["self"]
theorem sc_Table_numbers : FnScope nm_Table_numbers ["self"] (defScope s_Table_numbers) := ⟨rfl, rfl, rfl, by decide +kernel, rfl, by decide +kernel, by decide +kernel⟩
theorem ok_Table_numbers (hTx : Tx K mg) : OkM P w K mg base CX0 1  (He.ma K (He.ga K "Table") "numbers") ["self"] (pr_Table_numbers K) := by
  obtain ⟨_, F⟩ := hTx.fnM 25 s_Table_numbers "Table" "numbers" "Table.numbers" 41
  refine ⟨_, ?_, F.binds (ps := ["self"]) fun _ _ _ _ _ _ us hl => match us, hl with | [_], _ => rfl⟩
  refine fn_dl F sc_Table_numbers (fun _ _ _ _ h => q1_len h) (fun cdv A outer s H E hr => ⟨_, (pss_one (ps_ret (pe_sortedKeys rfl (kx_fld (K := K) rfl (pv 0) rfl) (by rfl) (hTx.fr 12) (by decide +kernel)))), ?_⟩)
  try dsimp only [cx_K, cx_nK]
  rintro _ M nx xe ⟨s, rfl, T, rfl, hT, k⟩
  exact s_ret ((en_thKeys (ev_fld (ev_var rfl) hT.ob (hTx.cl 27) (hTx.na 78) tf_held) hT.dc).w k)

def pr_Table_need_order (K : PySem.W.Frag) : Pr := q2 fun s c M nx _ => ∃ (T : Tb) (cols : List Int), s = .ref T.p ∧ c = .tup (cols.map .int) ∧ TabAt K M T ∧ T.w ≤ 6 ∧ ColOk cols T.w ∧ nx .non M
section
variable {J : Jx} {ta tb to : TE} {ρ : Ro} {M : Mp} {E : XK}
theorem ev_Table_need_order {T : Tb} {cols : List Int} (ho : Ev J to ρ M (.ref T.p)) (hT : TabAt J.K M T) (hb : Ev J tb ρ M (.tup (cols.map .int))) (hw : T.w ≤ 6) (hc : ColOk cols T.w) :
    Ev J (tMeth (He.ga J.K "Table") "need_order" (spD J.K (pr_Table_need_order J.K)) [] E to (tCons tb tNil)) ρ M .non :=
  w_meth0 ho hT.ob (tf_no (by decide +kernel) (by decide +kernel) (by decide +kernel) (by decide +kernel)) (ea_cons hb ea_nil) ⟨_, _, rfl, T, cols, rfl, rfl, hT, hw, hc, rfl, rfl⟩
end
abbrev nm_Table_need_order : List Str := ["self", "order", "column"]
theorem sc_Table_need_order : FnScope nm_Table_need_order ["self", "order"] (defScope s_Table_need_order) := ⟨rfl, rfl, rfl, by decide +kernel, rfl, by decide +kernel, by decide +kernel⟩
theorem ok_Table_need_order (hTx : Tx K mg) : OkM P w K mg base CX0 2  (He.ma K (He.ga K "Table") "need_order") ["self", "order"] (pr_Table_need_order K) := by
  obtain ⟨_, G_is_whole, b_is_whole, k_is_whole, g_is_whole⟩ := ok_is_whole (P := P) (w := w) (base := base) hTx
  obtain ⟨_, F⟩ := hTx.fnM 26 s_Table_need_order "Table" "need_order" "Table.need_order" 35
  refine ⟨_, ?_, F.binds (ps := ["self", "order"]) fun _ _ _ _ _ _ us hl => match us, hl with | [_, _], _ => rfl⟩
  refine fn_dl F sc_Table_need_order (fun _ _ _ _ h => q2_len h) (fun cdv A outer s H E hr => ⟨_, (pss_cons (ps_if (PW.pt (pw_or (pt_not (pt_val (pe_callB (kx_isi (K := K) rfl) (by rfl) (hTx.fr 3) (by decide +kernel) (pa_cons (pv 1) (pa_cons (pe_bltn (v := .ty "tuple") (by rfl) (hTx.fr 5) (by decide +kernel) rfl) pa_nil))))) (pw_or1 (pt_cmpR op_eq (pe_callB (kx_len (K := K) rfl) (by rfl) (hTx.fr 1) (by decide +kernel) (pa_cons (pv 1) pa_nil)) pe_int (nomark _)))))
    (pss_one (ps_raise rfl takes0 (pmk_own PySem.F.excBase_ValueError (hTx.ex 32).1 (hTx.gl 33) (hTx.ex 32).2.1 (raises_own (hTx.ex 32).2.2.1 (hTx.ex 32).2.2.2) rfl)))
    pss_nil)
    (pss_cons (ps_for PassesOwn.never rfl (kx_ptup (K := K) rfl (pv 1)) (pg_name (i := 2) sc_Table_need_order.nd rfl (Or.inl rfl))
    (pss_one (ps_if (PW.pt (pw_or (pt_not (pt_val (pe_call G_is_whole (hr.mono (by decide)) rfl g_is_whole k_is_whole b_is_whole .nil pass0 (pa_cons (pv 2) pa_nil)))) (pw_or1 (pt_not (pt_chain op_le op_lt pe_int (pv 2) (kx_fld (K := K) rfl (pv 0) rfl))))))
    (pss_one (ps_raise rfl takes0 (pmk_own PySem.F.excBase_ValueError (hTx.ex 32).1 (hTx.gl 33) (hTx.ex 32).2.1 (raises_own (hTx.ex 32).2.2.1 (hTx.ex 32).2.2.2) rfl)))
    pss_nil)))
    (pss_one (ps_if (pt_cmpR op_ne (pe_lenSetT rfl (by rfl) (hTx.fr 1) (by rfl) (hTx.fr 34) (pv 1)) (pe_callB (kx_len (K := K) rfl) (by rfl) (hTx.fr 1) (by decide +kernel) (pa_cons (pv 1) pa_nil)) (nomark _))
    (pss_one (ps_raise rfl takes0 (pmk_own PySem.F.excBase_ValueError (hTx.ex 32).1 (hTx.gl 33) (hTx.ex 32).2.1 (raises_own (hTx.ex 32).2.2.1 (hTx.ex 32).2.2.2) rfl)))
    pss_nil)))), ?_⟩)
  try dsimp only [cx_K, cx_nK]
  rintro _ M nx xe ⟨s, c, rfl, T, cols, rfl, rfl, hT, hw, hc, k⟩
  refine s_seq (s_if (b := false) ?_ (fun z => nomatch z) (fun _ => s_next ?_))
  · refine (et_or (b := false) (c := false) ?_ fun _ => ?_)
    · exact (et_not (et_B (ev_isiT (b := true) "tuple" (ev_var rfl) ev_ty rfl (by decide +kernel) (by decide))))
    · refine (et_test (ev_eqI (ev_len (ev_var rfl) .t) ev_int)).is ?_
      rw [List.length_map]
      have := List.length_pos_iff.mpr hc.2.2
      exact decide_eq_false (by omega)
  refine s_seq (s_for (src_t (ev_var rfl)) (fun i ρ' M' => M' = M ∧ ∃ a, ρ' = [some (.ref T.p), some (.tup (cols.map .int)), a]) ⟨rfl, none, rfl⟩ (fun _ _ _ _ => trivial) ?_ ?_)
  · rintro i d ρ' M' hdd ⟨rfl, a, rfl⟩
    obtain ⟨col, hcol, rfl⟩ := get_int hdd
    obtain ⟨c0, c1⟩ := hc.1 col (List.mem_of_getElem? hcol)
    refine sg_name ?_
    refine s_if (b := false) ?_ (fun z => nomatch z) (fun _ => s_next ⟨rfl, _, rfl⟩)
    refine (et_or (b := false) (c := false) (et_not (et_B (ev_is_wholeI (ev_var rfl)))) fun _ => et_not (b := true) ((et_test (ev_chainB (f := fun i j => decide (i ≤ j)) (g := fun i j => decide (i < j)) ev_int (ev_var rfl) (ev_fld (ev_var rfl) hT.ob (hTx.cl 27) (hTx.na 77) tf_width))).is ?_))
    rw [decide_eq_true c0, decide_eq_true c1]
    rfl
  rintro ρ' M' ⟨rfl, a, rfl⟩
  refine s_if (b := false) ?_ (fun z => nomatch z) (fun _ => s_next k)
  refine (et_test (ev_neI (ev_lenSet (ev_var rfl) (by have := hc.len hw; omega) hc.2.1) (ev_len (ev_var rfl) .t))).is ?_
  rw [List.length_map]
  simp

def pr_Table_need_order_x (K : PySem.W.Frag) : Pr := q2 fun s c M _ xe => ∃ (T : Tb), s = .ref T.p ∧ TabAt K M T ∧ OrdBad M T.w c ∧ xe (He.ga K "BadOrder") M
section
variable {K : PySem.W.Frag} {ta tb to : TE} {ρ : Ro} {M : Mp} {E : XK} {xe : Addr → Mp → Prop} {R : D → Mp → Prop} {c : D}
theorem w_Table_need_order_x {T : Tb} (ho : Ev (JX K E xe) to ρ M (.ref T.p)) (hT : TabAt K M T) (hb : Ev (JX K E xe) tb ρ M c) (hn : OrdBad M T.w c) (hx : xe (He.ga K "BadOrder") M) :
    W (JX K E xe) (tMeth (He.ga K "Table") "need_order" (spD K (pr_Table_need_order_x K)) [] E to (tCons tb tNil)) ρ M R :=
  w_methX ho hT.ob (tf_no (by decide +kernel) (by decide +kernel) (by decide +kernel) (by decide +kernel)) (ea_cons hb ea_nil) ⟨_, _, rfl, T, rfl, hT, hn, hx⟩
end
theorem ok_Table_need_order_x (hTx : Tx K mg) : OkM P w K mg base (L2.CX P w) 2  (He.ma K (He.ga K "Table") "need_order") ["self", "order"] (pr_Table_need_order_x K) := by
  obtain ⟨_, G_is_whole, b_is_whole, k_is_whole, g_is_whole⟩ := ok_is_whole (P := P) (w := w) (base := base) hTx
  obtain ⟨_, F⟩ := hTx.fnM 26 s_Table_need_order "Table" "need_order" "Table.need_order" 35
  refine ⟨_, ?_, F.binds (ps := ["self", "order"]) fun _ _ _ _ _ _ us hl => match us, hl with | [_, _], _ => rfl⟩
  refine fn_dlX F sc_Table_need_order (fun _ _ _ _ h => q2_len h) (fun cdv A outer s H E hr => ⟨_, (pss_cons (ps_if (PW.pt (pw_or (pt_not (pt_val (pe_callB (kx_isi (K := K) rfl) (by rfl) (hTx.fr 3) (by decide +kernel) (pa_cons (pv 1) (pa_cons (pe_bltn (v := .ty "tuple") (by rfl) (hTx.fr 5) (by decide +kernel) rfl) pa_nil))))) (pw_or1 (pt_cmpR op_eq (pe_callB (kx_len (K := K) rfl) (by rfl) (hTx.fr 1) (by decide +kernel) (pa_cons (pv 1) pa_nil)) pe_int (nomark _)))))
    (pss_one (ps_raise rfl (takes_of rfl rfl rfl rfl) (pmk_own PySem.F.excBase_ValueError (hTx.ex 32).1 (hTx.gl 33) (hTx.ex 32).2.1 (raises_own (hTx.ex 32).2.2.1 (hTx.ex 32).2.2.2) rfl)))
    pss_nil)
    (pss_cons (ps_for (passes_of rfl) rfl (kx_ptup (K := K) rfl (pv 1)) (pg_name (i := 2) sc_Table_need_order.nd rfl (Or.inl rfl))
    (pss_one (ps_if (PW.pt (pw_or (pt_not (pt_val (pe_call G_is_whole (hr.mono (by decide)) rfl g_is_whole k_is_whole b_is_whole .nil pass0 (pa_cons (pv 2) pa_nil)))) (pw_or1 (pt_not (pt_chain op_le op_lt pe_int (pv 2) (kx_fld (K := K) rfl (pv 0) rfl))))))
    (pss_one (ps_raise rfl (takes_of rfl rfl rfl rfl) (pmk_own PySem.F.excBase_ValueError (hTx.ex 32).1 (hTx.gl 33) (hTx.ex 32).2.1 (raises_own (hTx.ex 32).2.2.1 (hTx.ex 32).2.2.2) rfl)))
    pss_nil)))
    (pss_one (ps_if (pt_cmpR op_ne (pe_lenSetT rfl (by rfl) (hTx.fr 1) (by rfl) (hTx.fr 34) (pv 1)) (pe_callB (kx_len (K := K) rfl) (by rfl) (hTx.fr 1) (by decide +kernel) (pa_cons (pv 1) pa_nil)) (nomark _))
    (pss_one (ps_raise rfl (takes_of rfl rfl rfl rfl) (pmk_own PySem.F.excBase_ValueError (hTx.ex 32).1 (hTx.gl 33) (hTx.ex 32).2.1 (raises_own (hTx.ex 32).2.2.1 (hTx.ex 32).2.2.2) rfl)))
    pss_nil)))), ?_⟩)
  try dsimp only [cx_K, cx_nK]
  rintro _ M nx xe ⟨s, c, rfl, T, rfl, hT, hb, hx⟩
  show S (JX K E xe) _ [some (.ref T.p), some c, none] M _
  rcases hb with ⟨t1, t2⟩ | ⟨ds, rfl, hty, hb⟩
  · refine s_seq (s_if (b := true) ?_ (fun _ => s_raise hx (fun _ _ _ z => z)) (fun z => nomatch z))
    exact (et_or (b := true) (c := false) (et_not (b := false) ((et_B (ev_isi (ev_var rfl) ev_ty (kit_tl M c t1).1 t1)).is (decide_eq_false t2))) fun z => nomatch z)
  have first : ET (JX K E xe) _ [some (.ref T.p), some (.tup ds), none] M (decide ((ds.length : Int) = 0)) := (et_or (b := false) (c := decide ((ds.length : Int) = 0)) (et_not (b := true) (et_B (ev_isiT (b := true) "tuple" (ev_var (i := 1) rfl) (ev_ty (i := "tuple")) rfl (by decide +kernel) (by decide)))) fun _ => et_test (ev_eqI (ev_len (ev_var (i := 1) rfl) .t) (ev_int (i := 0)))).is (by simp)
  rcases hb with rfl | hb
  · exact s_seq (s_if (b := true) (first.is rfl) (fun _ => s_raise hx (fun _ _ _ z => z)) (fun z => nomatch z))
  by_cases h0 : ds = []
  · subst h0
    exact s_seq (s_if (b := true) (first.is rfl) (fun _ => s_raise hx (fun _ _ _ z => z)) (fun z => nomatch z))
  have hpos := List.length_pos_iff.mpr h0
  refine s_seq (s_if (b := false) (first.is (decide_eq_false (by omega))) (fun z => nomatch z) (fun _ => s_next ?_))
  clear first
  have step : ∀ (ρ' : Ro) (d : D), tyN M d ≠ "" → ρ'[0]? = some (some (.ref T.p)) → ρ'[2]? = some (some d) → ET (JX K E xe) (tOr (tNot (tB (tCall (spD K (pr_is_whole K)) [] E0 (tCons (tVar 2) tNil)))) (tNot (tTest (tChain (rI0 fun i j => .bl (decide (i ≤ j))) (rI0 fun i j => .bl (decide (i < j))) (tC (.int 0)) (tVar 2) (tFld K (tVar 0) "width"))))) ρ' M (!colB T.w d) := fun ρ' d ht g0 g2 => by
    rcases whole_cases d with h | ⟨n, rfl⟩
    · refine ET.is (et_or (b := true) (c := false) (et_not (b := false) ((et_B (ev_is_whole (ev_var g2) ht)).is h)) fun z => nomatch z) ?_
      rcases colB_cases T.w d with e | ⟨n, rfl, _⟩
      · rw [e]; rfl
      · cases h
    · exact (et_or (b := false) (c := !colB T.w (.int n)) (et_not (et_B (ev_is_wholeI (ev_var g2)))) fun _ => et_not (b := colB T.w (.int n)) (et_test (ev_chainB (f := fun i j => decide (i ≤ j)) (g := fun i j => decide (i < j)) ev_int (ev_var g2) (ev_fld (ev_var g0) hT.ob (hTx.cl 27) (hTx.na 77) tf_width)))).is (by simp)
  refine s_seq (s_for (src_t (ev_var rfl)) (fun i ρ' M' => M' = M ∧ (∃ a, ρ' = [some (.ref T.p), some (.tup ds), a]) ∧ ∀ j, j < i → ∀ d, ds[j]? = some d → colB T.w d = true) ⟨rfl, ⟨_, rfl⟩, fun j hj => absurd hj (Nat.not_lt_zero _)⟩ (fun _ _ _ _ => trivial) ?_ ?_)
  · rintro i d ρ' M' hdd ⟨rfl, ⟨a, rfl⟩, hg⟩
    refine sg_name ?_
    refine s_if (step _ d (hty d (List.mem_of_getElem? hdd)) rfl rfl) (fun _ => s_raise hx (fun _ _ _ z => z)) (fun hw => s_next ⟨rfl, ⟨_, rfl⟩, fun j hj e he => ?_⟩)
    rcases Nat.lt_or_eq_of_le (Nat.le_of_lt_succ hj) with z | z
    · exact hg j z e he
    · rw [z, hdd] at he
      cases he
      simpa using hw
  rintro ρ' M' ⟨rfl, ⟨a, rfl⟩, hg⟩
  rcases hb with ⟨d0, hd0, hb⟩ | ⟨cols, rfl, hc, hl, hnd⟩
  · obtain ⟨j, hj⟩ := List.mem_iff_getElem?.mp hd0
    have := hg j (lt_of_get hj) d0 hj
    rw [hb] at this
    cases this
  refine s_ifW (wt_test (w_op (w_lenSet (ev_var rfl) hl fun n hn he => Ev.w (ev_len (ev_var rfl) .t) (op2_neI ⟨_, rfl, fun _ => s_raise hx (fun _ _ _ z => z), fun z => ?_⟩))))
  rw [List.length_map] at z
  have e : (n : Int) = (cols.length : Int) := by simpa using z
  exact absurd (he.mp (by omega)) hnd

def pr_Table_place_of (K : PySem.W.Frag) : Pr := q2 fun s c M nx _ => ∃ (T : Tb) (i : Nat) (k : Kr), s = .ref T.p ∧ c = .tup (k.cols.map .int) ∧ TabAt K M T ∧ TabOk T ∧ T.ks[i]? = some k ∧ nx (.int i) M
section
variable {J : Jx} {ta tb to : TE} {ρ : Ro} {M : Mp} {E : XK}
theorem ev_Table_place_of {T : Tb} {i : Nat} {k : Kr} (ho : Ev J to ρ M (.ref T.p)) (hT : TabAt J.K M T) (hO : TabOk T) (hb : Ev J tb ρ M (.tup (k.cols.map .int))) (hk : T.ks[i]? = some k) :
    Ev J (tMeth (He.ga J.K "Table") "place_of" (spD J.K (pr_Table_place_of J.K)) [] E to (tCons tb tNil)) ρ M (.int i) :=
  w_meth0 ho hT.ob (tf_no (by decide +kernel) (by decide +kernel) (by decide +kernel) (by decide +kernel)) (ea_cons hb ea_nil) ⟨_, _, rfl, T, i, k, rfl, rfl, hT, hO, hk, rfl, rfl⟩
end
theorem KOrd.ne_nil {cols : List Int} {th : Th} {es : List (List Int)} (h : KOrd cols th es) : ∀ e ∈ es, cols.length < e.length := fun e he => by
  obtain ⟨q, _, rfl⟩ := List.mem_map.mp (h.perm.mem_iff.mp he)
  unfold entryM
  rw [List.length_append, List.length_map]
  simp
theorem kn_at {T : Tb} (h : TabOk T) {i j : Nat} {k q : Kr} (hk : T.ks[i]? = some k) (hq : T.ks[j]? = some q) (e : q.cols = k.cols) : j = i := by
  obtain ⟨l1, e1⟩ := List.getElem?_eq_some_iff.mp hk
  obtain ⟨l2, e2⟩ := List.getElem?_eq_some_iff.mp hq
  rcases Nat.lt_trichotomy j i with z | z | z
  · have := List.pairwise_iff_getElem.mp h.kn j i (by rw [List.length_map]; exact l2) (by rw [List.length_map]; exact l1) z
    rw [List.getElem_map, List.getElem_map, e1, e2] at this
    exact absurd e this
  · exact z
  · have := List.pairwise_iff_getElem.mp h.kn i j (by rw [List.length_map]; exact l1) (by rw [List.length_map]; exact l2) z
    rw [List.getElem_map, List.getElem_map, e1, e2] at this
    exact absurd e.symm this
abbrev nm_Table_place_of : List Str := ["self", "order", "place", "one"]
theorem sc_Table_place_of : FnScope nm_Table_place_of ["self", "order"] (defScope s_Table_place_of) := ⟨rfl, rfl, rfl, by decide +kernel, rfl, by decide +kernel, by decide +kernel⟩
theorem ok_Table_place_of (hTx : Tx K mg) : OkM P w K mg base CX0 3  (He.ma K (He.ga K "Table") "place_of") ["self", "order"] (pr_Table_place_of K) := by
  obtain ⟨_, G_Table_need_order, b_Table_need_order⟩ := ok_Table_need_order (P := P) (w := w) (base := base) hTx
  obtain ⟨_, F⟩ := hTx.fnM 27 s_Table_place_of "Table" "place_of" "Table.place_of" 42
  refine ⟨_, ?_, F.binds (ps := ["self", "order"]) fun _ _ _ _ _ _ us hl => match us, hl with | [_, _], _ => rfl⟩
  refine fn_dl F sc_Table_place_of (fun _ _ _ _ h => q2_len h) (fun cdv A outer s H E hr => ⟨_, (pss_cons (ps_expr (pe_meth (pv 0) (hTx.cl 27) (hTx.me 35) G_Table_need_order (hr.mono (by decide)) b_Table_need_order .nil pass0 (pa_cons (pv 1) pa_nil)))
    (pss_cons (ps_for PassesOwn.never rfl (pi_enum (by rfl) (hTx.fr 36) (pa_cons (kx_fld (K := K) rfl (pv 0) rfl) pa_nil)) (kx_gtup (K := K) (n := 2) rfl rfl (pgs_cons (pg_name (i := 2) sc_Table_place_of.nd rfl (Or.inl rfl)) (pgs_cons (pg_name (i := 3) sc_Table_place_of.nd rfl (Or.inl rfl)) pgs_nil)))
    (pss_one (ps_if (pt_cmpR (kx_eqD (K := K) rfl (hu64 hr)) (kx_fld (K := K) rfl (pv 3) rfl) (pv 1) (nomark _))
    (pss_one (ps_ret (pv 2)))
    pss_nil)))
    (pss_one (ps_raise rfl takes0 (pmk_own PySem.F.excBase_ValueError (hTx.ex 32).1 (hTx.gl 33) (hTx.ex 32).2.1 (raises_own (hTx.ex 32).2.2.1 (hTx.ex 32).2.2.2) rfl))))), ?_⟩)
  try dsimp only [cx_K, cx_nK]
  rintro _ M nx xe ⟨s, c, rfl, T, i, k, rfl, rfl, hT, hO, hk, kk⟩
  have hkm := List.mem_of_getElem? hk
  refine s_seq (s_drop ((ev_Table_need_order (T := T) (cols := k.cols) (ev_var rfl) hT (ev_var rfl) hO.w1 (hO.kk k hkm).2).w ?_))
  have hsrc : DL.IsL M (.ref T.kl) (T.ks.map fun k => D.ref k.p) := .r hT.ka.li
  refine s_seq (s_for (src_enum (ev_fld (ev_var rfl) hT.ob (hTx.cl 27) (hTx.na 80) tf_kept) hsrc) (fun j ρ' M' => M' = M ∧ j ≤ i ∧ ∃ a b, ρ' = [some (.ref T.p), some (.tup (k.cols.map .int)), a, b]) ⟨rfl, Nat.zero_le _, none, none, rfl⟩ (fun i ρ' M' h => by rw [h.1]; exact hsrc) ?_ ?_)
  · rintro j d ρ' M' hdd ⟨rfl, hj, a, b, rfl⟩
    obtain ⟨x, hx, rfl⟩ := enumD_get hdd
    obtain ⟨q, hq, rfl⟩ := get_map hx
    refine sg_tup rfl (sgs_cons (sg_name (sgs_cons (sg_name (sgs_nil ?_)))))
    have hqa := hT.ka.ke q (List.mem_of_getElem? hq)
    refine s_if (et_test (ev_eqC (cU cI) (a := q.cols) (a' := k.cols) (ev_fld (ev_var rfl) hqa.ob (hTx.cl 13) (hTx.na 74) (kf_cols _ _)) (ev_var rfl) .i .i (by decide))) (fun hb => ?_) (fun hb => s_next ⟨rfl, ?_, _, _, rfl⟩)
    · have e := kn_at hO hk hq (of_decide_eq_true hb)
      subst e
      exact s_retE (ev_var rfl) kk
    · have hne := of_decide_eq_false hb
      have : j ≠ i := fun z => by
        subst z
        rw [hk] at hq
        cases hq
        exact hne rfl
      omega
  · rintro ρ' M' ⟨rfl, hj, a, b, rfl⟩
    have := lt_of_get hk
    rw [enumD_len, List.length_map] at hj
    omega

/-- what names no order that is kept -/
def WayBad (M : Mp) (T : Tb) (x : D) : Prop := OrdBad M T.w x ∨ ∃ cols : List Int, x = .tup (cols.map .int) ∧ ColOk cols T.w ∧ cols ∉ T.ks.map (·.cols)
def pr_Table_place_of_x (K : PySem.W.Frag) : Pr := q2 fun s c M _ xe => ∃ (T : Tb), s = .ref T.p ∧ TabAt K M T ∧ TabOk T ∧ WayBad M T c ∧ xe (He.ga K "BadOrder") M
section
variable {K : PySem.W.Frag} {ta tb to : TE} {ρ : Ro} {M : Mp} {E : XK} {xe : Addr → Mp → Prop} {R : D → Mp → Prop} {c : D}
theorem w_Table_place_of_x {T : Tb} (ho : Ev (JX K E xe) to ρ M (.ref T.p)) (hT : TabAt K M T) (hO : TabOk T) (hb : Ev (JX K E xe) tb ρ M c) (hn : WayBad M T c) (hx : xe (He.ga K "BadOrder") M) :
    W (JX K E xe) (tMeth (He.ga K "Table") "place_of" (spD K (pr_Table_place_of_x K)) [] E to (tCons tb tNil)) ρ M R :=
  w_methX ho hT.ob (tf_no (by decide +kernel) (by decide +kernel) (by decide +kernel) (by decide +kernel)) (ea_cons hb ea_nil) ⟨_, _, rfl, T, rfl, hT, hO, hn, hx⟩
end
theorem ok_Table_place_of_x (hTx : Tx K mg) : OkM P w K mg base (L2.CX P w) 3  (He.ma K (He.ga K "Table") "place_of") ["self", "order"] (pr_Table_place_of_x K) := by
  obtain ⟨_, G_Table_need_order, b_Table_need_order⟩ := ok_Table_need_order (P := P) (w := w) (base := base) hTx
  obtain ⟨_, G_Table_need_order_x, b_Table_need_order_x⟩ := ok_Table_need_order_x (P := P) (w := w) (base := base) hTx
  obtain ⟨_, F⟩ := hTx.fnM 27 s_Table_place_of "Table" "place_of" "Table.place_of" 42
  refine ⟨_, ?_, F.binds (ps := ["self", "order"]) fun _ _ _ _ _ _ us hl => match us, hl with | [_, _], _ => rfl⟩
  refine fn_dlX F sc_Table_place_of (fun _ _ _ _ h => q2_len h) (fun cdv A outer s H E hr => ⟨_, (pss_cons (ps_expr (pe_ei (pe_meth (pv 0) (hTx.cl 27) (hTx.me 35) G_Table_need_order (hr.mono (by decide)) b_Table_need_order .nil pass0 (pa_cons (pv 1) pa_nil)) (pe_meth (pv 0) (hTx.cl 27) (hTx.me 35) G_Table_need_order_x (hr.mono (by decide)) b_Table_need_order_x .nil (passes_call (takes_of rfl rfl rfl rfl) (fun _ _ _ _ z => z)) (pa_cons (pv 1) pa_nil))))
    (pss_cons (ps_for (passes_of rfl) rfl (pi_enum (by rfl) (hTx.fr 36) (pa_cons (kx_fld (K := K) rfl (pv 0) rfl) pa_nil)) (kx_gtup (K := K) (n := 2) rfl rfl (pgs_cons (pg_name (i := 2) sc_Table_place_of.nd rfl (Or.inl rfl)) (pgs_cons (pg_name (i := 3) sc_Table_place_of.nd rfl (Or.inl rfl)) pgs_nil)))
    (pss_one (ps_if (pt_cmpR (kx_eqD (K := K) rfl (hu64 hr)) (kx_fld (K := K) rfl (pv 3) rfl) (pv 1) (nomark _))
    (pss_one (ps_ret (pv 2)))
    pss_nil)))
    (pss_one (ps_raise rfl (takes_of rfl rfl rfl rfl) (pmk_own PySem.F.excBase_ValueError (hTx.ex 32).1 (hTx.gl 33) (hTx.ex 32).2.1 (raises_own (hTx.ex 32).2.2.1 (hTx.ex 32).2.2.2) rfl))))), ?_⟩)
  try dsimp only [cx_K, cx_nK]
  rintro _ M nx xe ⟨s, c, rfl, T, rfl, hT, hO, hb, hx⟩
  show S (JX K E xe) _ [some (.ref T.p), some c, none, none] M _
  rcases hb with hb | ⟨cols, rfl, hc, hn⟩
  · exact s_seq (s_drop (w_ei2 (w_Table_need_order_x (T := T) (ev_var rfl) hT (ev_var rfl) hb hx)))
  refine s_seq (s_drop (w_ei1 ((ev_Table_need_order (T := T) (cols := cols) (ev_var rfl) hT (ev_var rfl) hO.w1 hc).w ?_)))
  have hsrc : DL.IsL M (.ref T.kl) (T.ks.map fun k => D.ref k.p) := .r hT.ka.li
  refine s_seq (s_for (src_enum (ev_fld (ev_var rfl) hT.ob (hTx.cl 27) (hTx.na 80) tf_kept) hsrc) (fun j ρ' M' => M' = M ∧ ∃ a b, ρ' = [some (.ref T.p), some (.tup (cols.map .int)), a, b]) ⟨rfl, none, none, rfl⟩ (fun i ρ' M' h => by rw [h.1]; exact hsrc) ?_ ?_)
  · rintro j d ρ' M' hdd ⟨rfl, a, b, rfl⟩
    obtain ⟨x, hx, rfl⟩ := enumD_get hdd
    obtain ⟨q, hq, rfl⟩ := get_map hx
    refine sg_tup rfl (sgs_cons (sg_name (sgs_cons (sg_name (sgs_nil ?_)))))
    have hqm := List.mem_of_getElem? hq
    have hqa := hT.ka.ke q hqm
    refine s_if (b := false) ((et_test (ev_eqC (cU cI) (a := q.cols) (a' := cols) (ev_fld (ev_var rfl) hqa.ob (hTx.cl 13) (hTx.na 74) (kf_cols _ _)) (ev_var rfl) .i .i (by decide))).is ?_) (fun z => nomatch z) (fun _ => s_next ⟨rfl, _, _, rfl⟩)
    exact decide_eq_false fun z => hn (by rw [← z]; exact List.mem_map_of_mem (f := (·.cols)) hqm)
  · rintro ρ' M' ⟨rfl, a, b, rfl⟩
    exact s_raise hx (fun _ _ _ z => z)

abbrev ordD (cols : List Int) : D := .tup (cols.map .int)
def pr_Table_orders (K : PySem.W.Frag) : Pr := q1 fun s M nx _ => ∃ (T : Tb), s = .ref T.p ∧ TabAt K M T ∧ T.ks.length ≤ 1000 ∧ ∀ q, M q = none → nx (.ref q) (ud M q (.lst ((T.ks.map (·.cols)).map ordD)))
section
variable {J : Jx} {ta tb to : TE} {ρ : Ro} {M : Mp} {E : XK}
theorem en_Table_orders {T : Tb} (ho : Ev J to ρ M (.ref T.p)) (hT : TabAt J.K M T) (hl : T.ks.length ≤ 1000) :
    EvN J (tMeth (He.ga J.K "Table") "orders" (spD J.K (pr_Table_orders J.K)) [] E to tNil) ρ M ((T.ks.map (·.cols)).map ordD) :=
  w_meth0 ho hT.ob (tf_no (by decide +kernel) (by decide +kernel) (by decide +kernel) (by decide +kernel)) ea_nil ⟨_, rfl, T, rfl, hT, hl, fun q hq => ⟨q, hq, rfl, rfl⟩⟩
end
abbrev nm_Table_orders : List Str := ["self", "one"]
theorem sc_Table_orders : FnScope nm_Table_orders ["self"] (defScope s_Table_orders) := ⟨rfl, rfl, rfl, by decide +kernel, rfl, by decide +kernel, by decide +kernel⟩
theorem ok_Table_orders (hTx : Tx K mg) : OkM P w K mg base CX0 1  (He.ma K (He.ga K "Table") "orders") ["self"] (pr_Table_orders K) := by
  obtain ⟨_, F⟩ := hTx.fnM 28 s_Table_orders "Table" "orders" "Table.orders" 37
  refine ⟨_, ?_, F.binds (ps := ["self"]) fun _ _ _ _ _ _ us hl => match us, hl with | [_], _ => rfl⟩
  refine fn_dl F sc_Table_orders (fun _ _ _ _ h => q1_len h) (fun cdv A outer s H E hr => ⟨_, (pss_one (ps_ret (pe_lc (own := [("one", 1)]) (g := gName 1) rfl sc_Table_orders.nd (kx_plist (K := K) rfl (kx_fld (K := K) rfl (pv 0) rfl)) (blkOk_by (N := nm_Table_orders) (sc := defScope s_Table_orders) (own := [("one", 1)]) (by decide +kernel)) (fun _ _ _ _ _ => pg_name (i := 1) sc_Table_orders.nd rfl (Or.inl rfl)) (fun _ _ _ _ _ => pts_nil) (fun _ _ _ _ _ => (kx_fld (K := K) rfl (pv 1) rfl))))), ?_⟩)
  try dsimp only [cx_K, cx_nK]
  rintro _ M nx xe ⟨s, rfl, T, rfl, hT, hl, k⟩
  refine s_ret (EvN.w (EvN.is (en_lc1 T.ks (fun k => D.ref k.p) (fun k => ordD k.cols) (src_r (ev_fld (ev_var rfl) hT.ob (hTx.cl 27) (hTx.na 80) tf_kept) hT.ka.li) (fun M' sb => sb _ _ hT.ka.li) (szl (by omega)) fun M1 q sb hq => ?_) (by rw [List.map_map] <;> rfl)) k)
  exact ev_fld (ev_var rfl) (sb _ _ (hT.ka.ke q hq).ob) (hTx.cl 13) (hTx.na 74) (kf_cols _ _)

def pr_Table_tell (K : PySem.W.Frag) : Pr := q2 fun s c M nx _ => ∃ (T : Tb) (cols : List Int), s = .ref T.p ∧ c = .tup (cols.map .int) ∧ TabAt K M T ∧ TabOk T ∧ ColOk cols T.w ∧ cols ∉ T.ks.map (·.cols) ∧ T.ks.length < 8 ∧ ∀ M' T', TStep K M M' T T' T.th T.made (T.ks.map (·.cols) ++ [cols]) → nx .non M'
section
variable {J : Jx} {ta tb to : TE} {ρ : Ro} {M : Mp} {E : XK} {R : D → Mp → Prop}
theorem w_Table_tell {T : Tb} {cols : List Int} (ho : Ev J to ρ M (.ref T.p)) (hb : Ev J tb ρ M (.tup (cols.map .int))) (hT : TabAt J.K M T) (hO : TabOk T) (hc : ColOk cols T.w) (hn : cols ∉ T.ks.map (·.cols)) (hl : T.ks.length < 8) (k : ∀ M' T', TStep J.K M M' T T' T.th T.made (T.ks.map (·.cols) ++ [cols]) → R .non M') :
    W J (tMeth (He.ga J.K "Table") "tell" (spD J.K (pr_Table_tell J.K)) [] E to (tCons tb tNil)) ρ M R :=
  w_meth0 ho hT.ob (tf_no (by decide +kernel) (by decide +kernel) (by decide +kernel) (by decide +kernel)) (ea_cons hb ea_nil) ⟨_, _, rfl, T, cols, rfl, rfl, hT, hO, hc, hn, hl, k⟩
end
def thOf (th : Th) (ns : List Int) : Th := ns.map fun n => (n, (thGet th n).getD [])
theorem thOf_perm {th : Th} (h : (th.map (·.1)).Nodup) {ns : List Int} (hp : ns.Perm (th.map (·.1))) : (thOf th ns).Perm th := by
  have p1 := hp.map fun n => (n, (thGet th n).getD [])
  refine p1.trans (List.Perm.of_eq ?_)
  rw [List.map_map]
  conv => rhs; rw [← List.map_id th]
  refine List.map_congr_left fun p hpm => ?_
  show (p.1, (thGet th p.1).getD []) = p
  rw [thGet_of h (show (p.1, p.2) ∈ th from hpm)]
  rfl
abbrev nm_Table_tell : List Str := ["self", "order", "made", "number"]
theorem sc_Table_tell : FnScope nm_Table_tell ["self", "order"] (defScope s_Table_tell) := ⟨rfl, rfl, rfl, by decide +kernel, rfl, by decide +kernel, by decide +kernel⟩
theorem ok_Table_tell (hTx : Tx K mg) : OkM P w K mg base CX0 4  (He.ma K (He.ga K "Table") "tell") ["self", "order"] (pr_Table_tell K) := by
  obtain ⟨_, G_Table_need_order, b_Table_need_order⟩ := ok_Table_need_order (P := P) (w := w) (base := base) hTx
  obtain ⟨_, G_Table_orders, b_Table_orders⟩ := ok_Table_orders (P := P) (w := w) (base := base) hTx
  obtain ⟨_, G_Kept_init, b_Kept_init⟩ := ok_Kept_init (P := P) (w := w) (base := base) hTx
  obtain ⟨_, G_Table_numbers, b_Table_numbers⟩ := ok_Table_numbers (P := P) (w := w) (base := base) hTx
  obtain ⟨_, G_Kept_put, b_Kept_put⟩ := ok_Kept_put (P := P) (w := w) (base := base) hTx
  obtain ⟨_, F⟩ := hTx.fnM 29 s_Table_tell "Table" "tell" "Table.tell" 53
  refine ⟨_, ?_, F.binds (ps := ["self", "order"]) fun _ _ _ _ _ _ us hl => match us, hl with | [_, _], _ => rfl⟩
  refine fn_dl F sc_Table_tell (fun _ _ _ _ h => q2_len h) (fun cdv A outer s H E hr => ⟨_, (pss_cons (ps_expr (pe_meth (pv 0) (hTx.cl 27) (hTx.me 35) G_Table_need_order (hr.mono (by decide)) b_Table_need_order .nil pass0 (pa_cons (pv 1) pa_nil)))
    (pss_cons (ps_if (pt_cmpR (kx_inD (K := K) rfl (hu65 hr)) (pv 1) (pe_meth0 (pv 0) (hTx.cl 27) (hTx.me 37) G_Table_orders (hr.mono (by decide)) b_Table_orders .nil pass0) (by rfl))
    (pss_one (ps_raise rfl takes0 (pmk_own PySem.F.excBase_ValueError (hTx.ex 32).1 (hTx.gl 33) (hTx.ex 32).2.1 (raises_own (hTx.ex 32).2.2.1 (hTx.ex 32).2.2.2) rfl)))
    pss_nil)
    (pss_cons (ps_if (pt_cmpR op_eq (pe_callB (kx_len (K := K) rfl) (by rfl) (hTx.fr 1) (by decide +kernel) (pa_cons (kx_fld (K := K) rfl (pv 0) rfl) pa_nil)) (pe_glob (v := .int 8) rfl (hTx.gi 38).choose_spec ⟨_, rfl⟩) (nomark _))
    (pss_one (ps_raise rfl takes0 (pmk_own PySem.F.excBase_ValueError (hTx.ex 32).1 (hTx.gl 33) (hTx.ex 32).2.1 (raises_own (hTx.ex 32).2.2.1 (hTx.ex 32).2.2.2) rfl)))
    pss_nil)
    (pss_cons (ps_set (i := 2) sc_Table_tell.nd rfl (Or.inl rfl) (pe_make (hTx.mr 39) G_Kept_init (hr.mono (by decide)) rfl (hTx.gl 40) b_Kept_init .nil pass0 (pa_cons (pv 1) pa_nil)))
    (pss_cons (ps_for PassesOwn.never rfl (kx_plist (K := K) rfl (pe_meth0 (pv 0) (hTx.cl 27) (hTx.me 41) G_Table_numbers (hr.mono (by decide)) b_Table_numbers .nil pass0)) (pg_name (i := 3) sc_Table_tell.nd rfl (Or.inl rfl))
    (pss_one (ps_expr (pe_meth (pv 2) (hTx.cl 13) (hTx.me 26) G_Kept_put (hr.mono (by decide)) b_Kept_put .nil pass0 (pa_cons (pv 3) (pa_cons (pe_dget (hu_of hr) (kx_fld (K := K) rfl (pv 0) rfl) (pv 3) (fun _ _ => rfl)) pa_nil))))))
    (pss_one (ps_expr (pe_bm PySem.F.plainAttrs_list PySem.F.slot_list_append PySem.F.type_list_append mt_append (kx_fld (K := K) rfl (pv 0) rfl) (pa_cons (pv 2) pa_nil))))))))), ?_⟩)
  try dsimp only [cx_K, cx_nK]
  rintro _ M nx xe ⟨s, c, rfl, T, cols, rfl, rfl, hT, hO, hc, hn, hl, k⟩
  show S (J0 K) _ [some (.ref T.p), some (.tup (cols.map .int)), none, none] M _
  refine s_seq (s_drop ((ev_Table_need_order (T := T) (cols := cols) (ev_var rfl) hT (ev_var rfl) hO.w1 hc).w ?_))
  refine s_seq (s_if (b := false) ?_ (fun z => nomatch z) (fun _ => s_next ?_))
  · exact (et_test (ev_inC (cU cI) (a := cols) (l := T.ks.map (·.cols)) (ev_var rfl) (en_Table_orders (T := T) (ev_var rfl) hT (by omega)).ev .i .i (by decide))).is (by rw [decide_eq_false_iff_not]; exact hn)
  refine s_seq (s_if (b := false) ?_ (fun z => nomatch z) (fun _ => s_next ?_))
  · refine (et_test (ev_eqI (ev_len (ev_fld (ev_var rfl) hT.ob (hTx.cl 27) (hTx.na 80) tf_kept) (IsL.r hT.ka.li).q) ev_int)).is ?_
    rw [List.length_map]
    exact decide_eq_false (by omega)
  have B1 := hT.ob
  have B2 := hT.dc
  have B3 := hT.ka.li
  refine s_seq (s_asg (w_make (ea_cons (ev_var rfl) ea_nil) fun p hp => ⟨_, _, rfl, p, cols, rfl, rfl, ud_same, fun l hl1 => ⟨rfl, ?_⟩⟩))
  have hpl : p ≠ l := fun z => by rw [← z, ud_same] at hl1; cases hl1
  have hl0 : M l = none := by rw [ud_ne hpl.symm] at hl1; exact hl1
  have sb : Sub M (ud (ud (ud M p (.ins (He.ga K "Kept") [])) l (.lst [])) p (.ins (He.ga K "Kept") (kf cols l))) := ((Sub.new hp).mut hl0).mut hp
  have c1 : (ud (ud (ud M p (.ins (He.ga K "Kept") [])) l (.lst [])) p (.ins (He.ga K "Kept") (kf cols l))) p = some (.ins (He.ga K "Kept") (kf cols l)) := ud_same
  have c2 : (ud (ud (ud M p (.ins (He.ga K "Kept") [])) l (.lst [])) p (.ins (He.ga K "Kept") (kf cols l))) l = some (.lst (([] : List (List Int)).map dI)) := by
    rw [ud_ne hpl.symm]; exact ud_same
  revert sb c1 c2
  generalize (ud (ud (ud M p (.ins (He.ga K "Kept") [])) l (.lst [])) p (.ins (He.ga K "Kept") (kf cols l))) = M1
  intro sb c1 c2
  have hT1 := hT.sub sb
  have hsp := srtI_perm (T.th.map (·.1))
  have hsn : (srtI (T.th.map (·.1))).Nodup := hsp.nodup_iff.mpr hO.nd
  have hsl : (srtI (T.th.map (·.1))).length ≤ 200 := by rw [hsp.length_eq, List.length_map]; exact hO.hl
  have hsm : ∀ n ∈ srtI (T.th.map (·.1)), ∃ r, thGet T.th n = some r := fun n hn => by
    obtain ⟨q, hq, rfl⟩ := List.mem_map.mp (srtI_mem.mp hn)
    exact ⟨q.2, thGet_of hO.nd hq⟩
  refine s_seq (s_for (src_l (en_Table_numbers (T := T) (ev_var rfl) hT1).ev (.inl rfl)) (fun i ρ' M3 => ∃ es b, Sub M M3 ∧ KeptAt K M3 p l cols es ∧ KOrd cols (thOf T.th ((srtI (T.th.map (·.1))).take i)) es ∧ ρ' = [some (.ref T.p), some (.tup (cols.map .int)), some (.ref p), b]) ⟨[], _, sb, ⟨c1, c2⟩, ⟨List.Perm.refl _, .nil⟩, rfl⟩ (fun _ _ _ _ => trivial) ?_ ?_)
  · rintro i d ρ' M3 hdd ⟨es, b, q1, q2, q3, rfl⟩
    obtain ⟨n, hni, rfl⟩ := get_int hdd
    obtain ⟨r, hr⟩ := hsm n (List.mem_of_getElem? hni)
    have hrl : r.length = T.w.toNat := hO.wi _ (thGet_mem hr)
    refine sg_name ?_
    have hT3 := hT.sub q1
    have hnew : n ∉ (thOf T.th ((srtI (T.th.map (·.1))).take i)).map (·.1) := fun z => by
      unfold thOf at z
      rw [List.map_map] at z
      obtain ⟨m, hm, e⟩ := List.mem_map.mp z
      have e : m = n := e
      subst e
      obtain ⟨l1, e1⟩ := List.getElem?_eq_some_iff.mp hni
      obtain ⟨j, hj⟩ := List.mem_iff_getElem?.mp hm
      have hjl := lt_of_get hj
      rw [List.length_take] at hjl
      rw [List.getElem?_take_of_lt (by omega)] at hj
      obtain ⟨l2, e2⟩ := List.getElem?_eq_some_iff.mp hj
      have := List.pairwise_iff_getElem.mp hsn j i l2 l1 (by omega)
      rw [e1, e2] at this
      exact this rfl
    have hcl := hc.len hO.w1
    have hes : es.length ≤ 200 := by
      rw [q3.len]
      unfold thOf
      rw [List.length_map, List.length_take]
      omega
    refine s_drop (w_Kept_put (p := p) (l := l) (cols := cols) (row := r) (es := es) (num := n) (ev_var rfl) q2 (ev_var rfl) (ev_dget (k := .inl n) (z := rowD r) (ev_fld (ev_var rfl) hT3.ob (hTx.cl 27) (hTx.na 78) tf_held) (ev_var rfl) hT3.dc (by rw [thD_val, hr]; rfl)) .l (fun c hcc => by have := hc.1 c hcc; omega) (by omega) q3.rising (by omega) ?_)
    refine ⟨_, _, q1.mut hl0, ⟨by rw [ud_ne hpl]; exact q2.ob, ud_same⟩, ?_, rfl⟩
    have tk : (srtI (T.th.map (·.1))).take (i + 1) = (srtI (T.th.map (·.1))).take i ++ [n] := by
      obtain ⟨hl, e⟩ := List.getElem?_eq_some_iff.mp hni
      rw [← e]
      exact (List.take_append_getElem hl).symm
    have := q3.put n r hnew
    unfold thOf at this ⊢
    rw [tk, List.map_append]
    show KOrd _ (_ ++ [(n, (thGet T.th n).getD [])]) _
    rw [hr]
    exact this
  · rintro ρ' M3 ⟨es, b, q1, q2, q3, rfl⟩
    rw [List.length_map, List.take_length] at q3
    have q3 := q3.perm_th (thOf_perm hO.nd hsp)
    have hT3 := hT.sub q1
    have C1 := hT3.ob
    have C2 := hT3.dc
    have C3 := hT3.ka.li
    have D1 := q2.ob
    have D2 := q2.en
    have n1 : T.p ≠ T.kl := ne_mo C1 C3 (by intro z; cases z)
    have n2 : T.hd ≠ T.kl := ne_mo C2 C3 (by intro z; cases z)
    have n3 : p ≠ T.kl := (ne_old B3 hp).symm
    have n4 : l ≠ T.kl := (ne_old B3 hl0).symm
    refine s_drop (w_append (a := T.kl) (x := .ref p) (ev_fld (ev_var rfl) hT3.ob (hTx.cl 27) (hTx.na 80) tf_kept) C3 (ev_var rfl) (szl (by rw [List.length_map]; omega)) ?_)
    refine k _ { T with ks := T.ks ++ [(⟨p, l, cols, es⟩ : Kr)] } ⟨⟨by show (ud _ _ _) T.p = _; walk_at "led", by show (ud _ _ _) T.hd = _; walk_at "led", ⟨?_, fun q hq => ?_, ?_, ?_⟩⟩, ⟨hO.nd, hO.rg, hO.wi, hO.w0, hO.w1, hO.m0, hO.hl, fun q hq => ?_, ?_, ?_⟩, rfl, rfl, rfl, ?_, rfl, ?_, fun x hx => ?_⟩
    · show (ud _ _ _) T.kl = some (.lst ((T.ks ++ [(⟨p, l, cols, es⟩ : Kr)]).map fun k => D.ref k.p))
      rw [ud_same, List.map_append]
      rfl
    · rcases List.mem_append.mp hq with hq | hq
      · have h1 := hT3.ka.ke q hq
        have e1 : q.p ≠ T.kl := ne_mo h1.ob C3 (by intro z; cases z)
        have e2 : q.l ≠ T.kl := fun z => hT.ka.ni (by rw [← z]; exact List.mem_map_of_mem (f := (·.l)) hq)
        exact ⟨by rw [ud_ne e1]; exact h1.ob, by rw [ud_ne e2]; exact h1.en⟩
      · rw [List.mem_singleton.mp hq]
        exact ⟨by walk_at "led", by walk_at "led"⟩
    · show ((T.ks ++ [(⟨p, l, cols, es⟩ : Kr)]).map (·.l)).Nodup
      rw [List.map_append]
      refine List.nodup_append.mpr ⟨hT.ka.nd, List.pairwise_singleton _ _, fun x hx y hy z => ?_⟩
      rw [List.map_singleton, List.mem_singleton] at hy
      obtain ⟨q, hq, rfl⟩ := List.mem_map.mp hx
      have e : q.l = l := z.trans hy
      exact ne_old (hT.ka.ke q hq).en hl0 e
    · show T.kl ∉ (T.ks ++ [(⟨p, l, cols, es⟩ : Kr)]).map (·.l)
      rw [List.map_append]
      intro z
      rcases List.mem_append.mp z with z | z
      · exact hT.ka.ni z
      · rw [List.map_singleton, List.mem_singleton] at z
        exact n4 z.symm
    · rcases List.mem_append.mp hq with hq | hq
      · exact hO.kk q hq
      · rw [List.mem_singleton.mp hq]
        exact ⟨q3, hc⟩
    · show ((T.ks ++ [(⟨p, l, cols, es⟩ : Kr)]).map (·.cols)).Nodup
      rw [List.map_append]
      refine List.nodup_append.mpr ⟨hO.kn, List.pairwise_singleton _ _, fun x hx y hy z => ?_⟩
      rw [List.map_singleton, List.mem_singleton] at hy
      have e : x = cols := z.trans hy
      exact hn (e ▸ hx)
    · show (T.ks ++ [(⟨p, l, cols, es⟩ : Kr)]).length ≤ 8
      rw [List.length_append]
      simp
      omega
    · show (T.ks ++ [(⟨p, l, cols, es⟩ : Kr)]).map (·.cols) = _
      rw [List.map_append]
      rfl
    · exact (Frame.of_sub q1).trans (Frame.ud (by simp [Tb.adr]))
    · have hx' : x ∈ T.p :: T.hd :: T.kl :: (T.ks ++ [(⟨p, l, cols, es⟩ : Kr)]).map (·.l) := hx
      rw [List.map_append] at hx'
      simp only [List.mem_cons, List.mem_append, List.map_cons, List.map_nil, List.not_mem_nil, or_false] at hx'
      rcases hx' with z | z | z | z | z
      · exact .inl (by rw [z]; simp [Tb.adr])
      · exact .inl (by rw [z]; simp [Tb.adr])
      · exact .inl (by rw [z]; simp [Tb.adr])
      · exact .inl (by simp only [Tb.adr, List.mem_cons]; exact .inr (.inr (.inr z)))
      · exact .inr (by rw [z]; exact hl0)

/-- what is not to be told -/
def TellBad (M : Mp) (T : Tb) (x : D) : Prop := OrdBad M T.w x ∨ ∃ cols : List Int, x = ordD cols ∧ ColOk cols T.w ∧ (cols ∈ T.ks.map (·.cols) ∨ cols ∉ T.ks.map (·.cols) ∧ T.ks.length = 8)
def pr_Table_tell_x (K : PySem.W.Frag) : Pr := q2 fun s c M _ xe => ∃ (T : Tb), s = .ref T.p ∧ TabAt K M T ∧ TabOk T ∧ TellBad M T c ∧ xe (He.ga K "BadOrder") M
theorem ok_Table_tell_x (hTx : Tx K mg) : OkM P w K mg base (L2.CX P w) 3  (He.ma K (He.ga K "Table") "tell") ["self", "order"] (pr_Table_tell_x K) := by
  obtain ⟨_, G_Table_need_order, b_Table_need_order⟩ := ok_Table_need_order (P := P) (w := w) (base := base) hTx
  obtain ⟨_, G_Table_need_order_x, b_Table_need_order_x⟩ := ok_Table_need_order_x (P := P) (w := w) (base := base) hTx
  obtain ⟨_, G_Table_orders, b_Table_orders⟩ := ok_Table_orders (P := P) (w := w) (base := base) hTx
  obtain ⟨_, F⟩ := hTx.fnM 29 s_Table_tell "Table" "tell" "Table.tell" 53
  refine ⟨_, ?_, F.binds (ps := ["self", "order"]) fun _ _ _ _ _ _ us hl => match us, hl with | [_, _], _ => rfl⟩
  refine fn_dlX F sc_Table_tell (fun _ _ _ _ h => q2_len h) (fun cdv A outer s H E hr => ⟨_, (pss_cons (ps_expr (pe_ei (pe_meth (pv 0) (hTx.cl 27) (hTx.me 35) G_Table_need_order (hr.mono (by decide)) b_Table_need_order .nil pass0 (pa_cons (pv 1) pa_nil)) (pe_meth (pv 0) (hTx.cl 27) (hTx.me 35) G_Table_need_order_x (hr.mono (by decide)) b_Table_need_order_x .nil (passes_call (takes_of rfl rfl rfl rfl) (fun _ _ _ _ z => z)) (pa_cons (pv 1) pa_nil))))
    (pss_cons (ps_if (pt_cmpR (kx_inD (K := K) rfl (hu65 hr)) (pv 1) (pe_meth0 (pv 0) (hTx.cl 27) (hTx.me 37) G_Table_orders (hr.mono (by decide)) b_Table_orders .nil pass0) (by rfl))
    (pss_one (ps_raise rfl (takes_of rfl rfl rfl rfl) (pmk_own PySem.F.excBase_ValueError (hTx.ex 32).1 (hTx.gl 33) (hTx.ex 32).2.1 (raises_own (hTx.ex 32).2.2.1 (hTx.ex 32).2.2.2) rfl)))
    pss_nil)
    (pss_cons (ps_if (pt_cmpR op_eq (pe_callB (kx_len (K := K) rfl) (by rfl) (hTx.fr 1) (by decide +kernel) (pa_cons (kx_fld (K := K) rfl (pv 0) rfl) pa_nil)) (pe_glob (v := .int 8) rfl (hTx.gi 38).choose_spec ⟨_, rfl⟩) (nomark _))
    (pss_one (ps_raise rfl (takes_of rfl rfl rfl rfl) (pmk_own PySem.F.excBase_ValueError (hTx.ex 32).1 (hTx.gl 33) (hTx.ex 32).2.1 (raises_own (hTx.ex 32).2.2.1 (hTx.ex 32).2.2.2) rfl)))
    pss_nil)
    (pss_cons ps_never
    (pss_cons ps_never
    (pss_one ps_never)))))), ?_⟩)
  try dsimp only [cx_K, cx_nK]
  rintro _ M nx xe ⟨s, c, rfl, T, rfl, hT, hO, hb, hx⟩
  show S (JX K E xe) _ [some (.ref T.p), some c, none, none] M _
  have hkl := hO.kl
  rcases hb with hb | ⟨cols, rfl, hc, hb⟩
  · exact s_seq (s_drop (w_ei2 (w_Table_need_order_x (T := T) (ev_var rfl) hT (ev_var rfl) hb hx)))
  refine s_seq (s_drop (w_ei1 ((ev_Table_need_order (T := T) (cols := cols) (ev_var rfl) hT (ev_var rfl) hO.w1 hc).w ?_)))
  have inE := (et_test (ev_inC (J := JX K E xe) (cU cI) (a := cols) (l := T.ks.map (·.cols)) (ρ := [some (.ref T.p), some (ordD cols), none, none]) (M := M) (ev_var (i := 1) rfl) (en_Table_orders (T := T) (E := E0) (ev_var (i := 0) rfl) hT (by omega)).ev .i .i (by decide)))
  rcases hb with hb | ⟨hn, hl⟩
  · exact s_seq (s_if (b := true) (inE.is (by simpa using hb)) (fun _ => s_raise hx (fun _ _ _ z => z)) (fun z => nomatch z))
  · refine s_seq (s_if (b := false) (inE.is (by simpa using hn)) (fun z => nomatch z) (fun _ => s_next ?_))
    refine s_seq (s_if (b := true) ?_ (fun _ => s_raise hx (fun _ _ _ z => z)) (fun z => nomatch z))
    refine (et_test (ev_eqI (ev_len (ev_fld (ev_var rfl) hT.ob (hTx.cl 27) (hTx.na 80) tf_kept) (IsL.r hT.ka.li).q) ev_int)).is ?_
    rw [List.length_map, hl]
    rfl

def Tb.forget (T : Tb) (i : Nat) : Tb := { T with ks := T.ks.eraseIdx i }
def pr_Table_forget (K : PySem.W.Frag) : Pr := q2 fun s c M nx _ => ∃ (T : Tb) (i : Nat) (k : Kr), s = .ref T.p ∧ c = .tup (k.cols.map .int) ∧ TabAt K M T ∧ TabOk T ∧ T.ks[i]? = some k ∧ ∀ M', TStep K M M' T (T.forget i) T.th T.made ((T.ks.map (·.cols)).eraseIdx i) → nx .non M'
theorem eraseIdx_map {α β : Type} (f : α → β) : ∀ (l : List α) (i : Nat), (l.map f).eraseIdx i = (l.eraseIdx i).map f
  | [], i => by simp
  | a :: l, 0 => by simp
  | a :: l, i + 1 => by simp [eraseIdx_map f l i]
theorem sIx_of {n j : Nat} (h : j < n) : seqIndex? (j : Int) n = some j := by
  obtain ⟨h1, _⟩ := ixN_seq (n := n) (i := (j : Int)) (j := j) (by unfold ixN; rw [if_pos (by omega), if_pos (by omega)]; simp)
  exact h1
abbrev nm_Table_forget : List Str := ["self", "order"]
theorem sc_Table_forget : FnScope nm_Table_forget ["self", "order"] (defScope s_Table_forget) := ⟨rfl, rfl, rfl, by decide +kernel, rfl, by decide +kernel, by decide +kernel⟩
theorem ok_Table_forget (hTx : Tx K mg) : OkM P w K mg base CX0 4  (He.ma K (He.ga K "Table") "forget") ["self", "order"] (pr_Table_forget K) := by
  obtain ⟨_, G_Table_place_of, b_Table_place_of⟩ := ok_Table_place_of (P := P) (w := w) (base := base) hTx
  obtain ⟨_, F⟩ := hTx.fnM 30 s_Table_forget "Table" "forget" "Table.forget" 54
  refine ⟨_, ?_, F.binds (ps := ["self", "order"]) fun _ _ _ _ _ _ us hl => match us, hl with | [_, _], _ => rfl⟩
  refine fn_dl F sc_Table_forget (fun _ _ _ _ h => q2_len h) (fun cdv A outer s H E hr => ⟨_, (pss_one (ps_expr (pe_bm PySem.F.plainAttrs_list PySem.F.slot_list_pop PySem.F.type_list_pop mt_popAt (kx_fld (K := K) rfl (pv 0) rfl) (pa_cons (pe_meth (pv 0) (hTx.cl 27) (hTx.me 42) G_Table_place_of (hr.mono (by decide)) b_Table_place_of .nil pass0 (pa_cons (pv 1) pa_nil)) pa_nil)))), ?_⟩)
  try dsimp only [cx_K, cx_nK]
  rintro _ M nx xe ⟨s, c, rfl, T, i, k, rfl, rfl, hT, hO, hk, kk⟩
  have hil := lt_of_get hk
  have hkl8 := hO.kl
  have B1 := hT.ob
  have B2 := hT.dc
  have B3 := hT.ka.li
  have n1 : T.p ≠ T.kl := ne_mo B1 B3 (by intro z; cases z)
  have n2 : T.hd ≠ T.kl := ne_mo B2 B3 (by intro z; cases z)
  refine s_drop (w_popAt (a := T.kl) (i := (i : Int)) (k := i) (z := .ref k.p) (ev_fld (ev_var rfl) hT.ob (hTx.cl 27) (hTx.na 80) tf_kept) B3 (ev_Table_place_of (T := T) (ev_var rfl) hT hO (ev_var rfl) hk) (by omega) (by omega) (by rw [List.length_map]; exact sIx_of hil) (by rw [List.getElem?_map, hk]; rfl) ?_)
  have sub : ∀ q ∈ T.ks.eraseIdx i, q ∈ T.ks := fun q hq => (List.eraseIdx_sublist _ _).subset hq
  refine kk _ ⟨⟨by show (ud _ _ _) T.p = _; walk_at "led", by show (ud _ _ _) T.hd = _; walk_at "led", ⟨?_, fun q hq => ?_, ?_, ?_⟩⟩, ⟨hO.nd, hO.rg, hO.wi, hO.w0, hO.w1, hO.m0, hO.hl, fun q hq => hO.kk q (sub q hq), ?_, ?_⟩, rfl, rfl, rfl, ?_, rfl, Frame.ud (by simp [Tb.adr]), fun x hx => .inl ?_⟩
  · show (ud _ _ _) T.kl = some (.lst ((T.ks.eraseIdx i).map fun k => D.ref k.p))
    rw [ud_same, eraseIdx_map]
  · have h1 := hT.ka.ke q (sub q hq)
    have e1 : q.p ≠ T.kl := ne_mo h1.ob B3 (by intro z; cases z)
    have e2 : q.l ≠ T.kl := fun z => hT.ka.ni (by rw [← z]; exact List.mem_map_of_mem (f := (·.l)) (sub q hq))
    exact ⟨by rw [ud_ne e1]; exact h1.ob, by rw [ud_ne e2]; exact h1.en⟩
  · exact List.Nodup.sublist ((List.eraseIdx_sublist _ _).map _) hT.ka.nd
  · exact fun z => hT.ka.ni (((List.eraseIdx_sublist _ _).map _).subset z)
  · exact List.Nodup.sublist ((List.eraseIdx_sublist _ _).map _) hO.kn
  · exact Nat.le_trans (List.eraseIdx_sublist _ _).length_le hkl8
  · exact (eraseIdx_map _ _ _).symm
  · have hx' : x ∈ T.p :: T.hd :: T.kl :: (T.ks.eraseIdx i).map (·.l) := hx
    simp only [List.mem_cons] at hx'
    simp only [Tb.adr, List.mem_cons]
    rcases hx' with z | z | z | z
    · exact .inl z
    · exact .inr (.inl z)
    · exact .inr (.inr (.inl z))
    · exact .inr (.inr (.inr (((List.eraseIdx_sublist _ _).map _).subset z)))

def pr_Table_forget_x (K : PySem.W.Frag) : Pr := q2 fun s c M _ xe => ∃ (T : Tb), s = .ref T.p ∧ TabAt K M T ∧ TabOk T ∧ WayBad M T c ∧ xe (He.ga K "BadOrder") M
theorem ok_Table_forget_x (hTx : Tx K mg) : OkM P w K mg base (L2.CX P w) 4  (He.ma K (He.ga K "Table") "forget") ["self", "order"] (pr_Table_forget_x K) := by
  obtain ⟨_, G_Table_place_of, b_Table_place_of⟩ := ok_Table_place_of (P := P) (w := w) (base := base) hTx
  obtain ⟨_, G_Table_place_of_x, b_Table_place_of_x⟩ := ok_Table_place_of_x (P := P) (w := w) (base := base) hTx
  obtain ⟨_, F⟩ := hTx.fnM 30 s_Table_forget "Table" "forget" "Table.forget" 54
  refine ⟨_, ?_, F.binds (ps := ["self", "order"]) fun _ _ _ _ _ _ us hl => match us, hl with | [_, _], _ => rfl⟩
  refine fn_dlX F sc_Table_forget (fun _ _ _ _ h => q2_len h) (fun cdv A outer s H E hr => ⟨_, (pss_one (ps_expr (pe_bm PySem.F.plainAttrs_list PySem.F.slot_list_pop PySem.F.type_list_pop mt_popAt (kx_fld (K := K) rfl (pv 0) rfl) (pa_cons (pe_ei (pe_meth (pv 0) (hTx.cl 27) (hTx.me 42) G_Table_place_of (hr.mono (by decide)) b_Table_place_of .nil pass0 (pa_cons (pv 1) pa_nil)) (pe_meth (pv 0) (hTx.cl 27) (hTx.me 42) G_Table_place_of_x (hr.mono (by decide)) b_Table_place_of_x .nil (passes_call (takes_of rfl rfl rfl rfl) (fun _ _ _ _ z => z)) (pa_cons (pv 1) pa_nil))) pa_nil)))), ?_⟩)
  try dsimp only [cx_K, cx_nK]
  rintro _ M nx xe ⟨s, c, rfl, T, rfl, hT, hO, hb, hx⟩
  show S (JX K E xe) _ [some (.ref T.p), some c] M _
  refine s_drop (w_bm ((ev_fld (ev_var rfl) hT.ob (hTx.cl 27) (hTx.na 80) tf_kept).w ⟨⟨_, .r hT.ka.li⟩, wa_cons (w_ei2 (w_Table_place_of_x (T := T) (ev_var rfl) hT hO (ev_var rfl) hb hx))⟩))

def pr_Table_listed (K : PySem.W.Frag) : Pr := q2 fun s c M nx _ => ∃ (T : Tb) (i : Nat) (k : Kr), s = .ref T.p ∧ c = .tup (k.cols.map .int) ∧ TabAt K M T ∧ TabOk T ∧ T.ks[i]? = some k ∧ ∀ q, M q = none → nx (.ref q) (ud M q (.lst ((numsM k.es).map .int)))
section
variable {J : Jx} {ta tb to : TE} {ρ : Ro} {M : Mp} {E : XK}
theorem en_Table_listed {T : Tb} {i : Nat} {k : Kr} (ho : Ev J to ρ M (.ref T.p)) (hT : TabAt J.K M T) (hO : TabOk T) (hb : Ev J tb ρ M (.tup (k.cols.map .int))) (hk : T.ks[i]? = some k) :
    EvN J (tMeth (He.ga J.K "Table") "listed" (spD J.K (pr_Table_listed J.K)) [] E to (tCons tb tNil)) ρ M ((numsM k.es).map .int) :=
  w_meth0 ho hT.ob (tf_no (by decide +kernel) (by decide +kernel) (by decide +kernel) (by decide +kernel)) (ea_cons hb ea_nil) ⟨_, _, rfl, T, i, k, rfl, rfl, hT, hO, hk, fun q hq => ⟨q, hq, rfl, rfl⟩⟩
end
abbrev nm_Table_listed : List Str := ["self", "order"]
theorem sc_Table_listed : FnScope nm_Table_listed ["self", "order"] (defScope s_Table_listed) := ⟨rfl, rfl, rfl, by decide +kernel, rfl, by decide +kernel, by decide +kernel⟩
theorem ok_Table_listed (hTx : Tx K mg) : OkM P w K mg base CX0 4  (He.ma K (He.ga K "Table") "listed") ["self", "order"] (pr_Table_listed K) := by
  obtain ⟨_, G_Table_place_of, b_Table_place_of⟩ := ok_Table_place_of (P := P) (w := w) (base := base) hTx
  obtain ⟨_, G_Kept_numbers, b_Kept_numbers⟩ := ok_Kept_numbers (P := P) (w := w) (base := base) hTx
  obtain ⟨_, F⟩ := hTx.fnM 31 s_Table_listed "Table" "listed" "Table.listed" 55
  refine ⟨_, ?_, F.binds (ps := ["self", "order"]) fun _ _ _ _ _ _ us hl => match us, hl with | [_, _], _ => rfl⟩
  refine fn_dl F sc_Table_listed (fun _ _ _ _ h => q2_len h) (fun cdv A outer s H E hr => ⟨_, (pss_one (ps_ret (pe_meth0 (pe_ix (kx_ixL (K := K) rfl) (kx_fld (K := K) rfl (pv 0) rfl) (pe_meth (pv 0) (hTx.cl 27) (hTx.me 42) G_Table_place_of (hr.mono (by decide)) b_Table_place_of .nil pass0 (pa_cons (pv 1) pa_nil)) (fun _ _ => rfl)) (hTx.cl 13) (hTx.me 43) G_Kept_numbers (hr.mono (by decide)) b_Kept_numbers .nil pass0))), ?_⟩)
  try dsimp only [cx_K, cx_nK]
  rintro _ M nx xe ⟨s, c, rfl, T, i, k, rfl, rfl, hT, hO, hk, kk⟩
  have hkm := List.mem_of_getElem? hk
  obtain ⟨o1, o2⟩ := hO.kk k hkm
  have hat : atI (T.ks.map fun k => D.ref k.p) (i : Int) = some (.ref k.p) := atI_nat (by rw [List.getElem?_map, hk]; rfl)
  refine s_ret ((en_Kept_numbers (p := k.p) (l := k.l) (cols := k.cols) (es := k.es) (ev_ixL (ev_fld (ev_var rfl) hT.ob (hTx.cl 27) (hTx.na 80) tf_kept) (ev_Table_place_of (T := T) (ev_var rfl) hT hO (ev_var rfl) hk) (.r hT.ka.li) hat) (hT.ka.ke k hkm) (fun e he z => by have := o1.ne_nil e he; rw [z] at this; exact absurd this (Nat.not_lt_zero _)) (by rw [o1.len]; have := hO.hl; omega)).w kk)

def pr_Table_listed_x (K : PySem.W.Frag) : Pr := q2 fun s c M _ xe => ∃ (T : Tb), s = .ref T.p ∧ TabAt K M T ∧ TabOk T ∧ WayBad M T c ∧ xe (He.ga K "BadOrder") M
theorem ok_Table_listed_x (hTx : Tx K mg) : OkM P w K mg base (L2.CX P w) 4  (He.ma K (He.ga K "Table") "listed") ["self", "order"] (pr_Table_listed_x K) := by
  obtain ⟨_, G_Table_place_of, b_Table_place_of⟩ := ok_Table_place_of (P := P) (w := w) (base := base) hTx
  obtain ⟨_, G_Table_place_of_x, b_Table_place_of_x⟩ := ok_Table_place_of_x (P := P) (w := w) (base := base) hTx
  obtain ⟨_, G_Kept_numbers, b_Kept_numbers⟩ := ok_Kept_numbers (P := P) (w := w) (base := base) hTx
  obtain ⟨_, F⟩ := hTx.fnM 31 s_Table_listed "Table" "listed" "Table.listed" 55
  refine ⟨_, ?_, F.binds (ps := ["self", "order"]) fun _ _ _ _ _ _ us hl => match us, hl with | [_, _], _ => rfl⟩
  refine fn_dlX F sc_Table_listed (fun _ _ _ _ h => q2_len h) (fun cdv A outer s H E hr => ⟨_, (pss_one (ps_ret (pe_meth0 (pe_ix (kx_ixL (K := K) rfl) (kx_fld (K := K) rfl (pv 0) rfl) (pe_ei (pe_meth (pv 0) (hTx.cl 27) (hTx.me 42) G_Table_place_of (hr.mono (by decide)) b_Table_place_of .nil pass0 (pa_cons (pv 1) pa_nil)) (pe_meth (pv 0) (hTx.cl 27) (hTx.me 42) G_Table_place_of_x (hr.mono (by decide)) b_Table_place_of_x .nil (passes_call (takes_of rfl rfl rfl rfl) (fun _ _ _ _ z => z)) (pa_cons (pv 1) pa_nil))) (fun _ _ => rfl)) (hTx.cl 13) (hTx.me 43) G_Kept_numbers (hr.mono (by decide)) b_Kept_numbers .nil pass0))), ?_⟩)
  try dsimp only [cx_K, cx_nK]
  rintro _ M nx xe ⟨s, c, rfl, T, rfl, hT, hO, hb, hx⟩
  show S (JX K E xe) _ [some (.ref T.p), some c] M _
  exact s_ret (w_meth noX (fun _ _ _ _ _ _ z => z.elim) (w_op ((ev_fld (ev_var rfl) hT.ob (hTx.cl 27) (hTx.na 80) tf_kept).w (w_ei2 (w_Table_place_of_x (T := T) (ev_var rfl) hT hO (ev_var rfl) hb hx)))))

def wayD : Option (List Int) → D
  | none => .non
  | some c => ordD c
abbrev Cost := Option (List Int) × Int
def pairD2 (p : Cost) : D := .tup [wayD p.1, .int p.2]
def costK (wish : List Tr) (k : Kr) : Int := if coversM k.cols wish then ((strM k.es k.cols wish).length : Int) else 2 * ((strM k.es k.cols wish).length : Int)
def costM (T : Tb) (wish : List Tr) : List Cost := (none, (T.th.length : Int)) :: T.ks.map fun k => (some k.cols, costK wish k)
theorem strM_len {cols : List Int} {th : Th} {es : List (List Int)} (h : KOrd cols th es) (wish : List Tr) : (strM es cols wish).length ≤ th.length := by
  have := (h.str_perm wish).length_eq
  rw [List.length_map] at this
  rw [this]
  exact List.length_filter_le _ _
theorem WishOk.cols {w : Int} {wish : List Tr} (h : WishOk w wish) (hw : w ≤ 6) : ColsOk 6 wish := fun t ht => by
  have := h.1 t ht
  omega
def pr_Table_costs (K : PySem.W.Frag) : Pr := q2 fun s x M nx _ => ∃ (T : Tb) (wish : List Tr), s = .ref T.p ∧ TabAt K M T ∧ TabOk T ∧ IsM M x (wish.map tD) ∧ WishOk T.w wish ∧ ∀ q, M q = none → nx (.ref q) (ud M q (.lst ((costM T wish).map pairD2)))
section
variable {J : Jx} {ta tb to : TE} {ρ : Ro} {M : Mp} {E : XK} {x : D}
theorem en_Table_costs {T : Tb} {wish : List Tr} (ho : Ev J to ρ M (.ref T.p)) (hb : Ev J tb ρ M x) (hT : TabAt J.K M T) (hO : TabOk T) (hx : IsM M x (wish.map tD)) (hw : WishOk T.w wish) :
    EvN J (tMeth (He.ga J.K "Table") "costs" (spD J.K (pr_Table_costs J.K)) [] E to (tCons tb tNil)) ρ M ((costM T wish).map pairD2) :=
  w_meth0 ho hT.ob (tf_no (by decide +kernel) (by decide +kernel) (by decide +kernel) (by decide +kernel)) (ea_cons hb ea_nil) ⟨_, _, rfl, T, wish, rfl, hT, hO, hx, hw, fun q hq => ⟨q, hq, rfl, rfl⟩⟩
end
abbrev nm_Table_costs : List Str := ["self", "wish", "found", "one", "size"]
theorem sc_Table_costs : FnScope nm_Table_costs ["self", "wish"] (defScope s_Table_costs) := ⟨rfl, rfl, rfl, by decide +kernel, rfl, by decide +kernel, by decide +kernel⟩
theorem ok_Table_costs (hTx : Tx K mg) : OkM P w K mg base CX0 5  (He.ma K (He.ga K "Table") "costs") ["self", "wish"] (pr_Table_costs K) := by
  obtain ⟨_, G_need_wish, b_need_wish, k_need_wish, g_need_wish⟩ := ok_need_wish (P := P) (w := w) (base := base) hTx
  obtain ⟨_, G_Kept_stretch, b_Kept_stretch⟩ := ok_Kept_stretch (P := P) (w := w) (base := base) hTx
  obtain ⟨_, G_Kept_covers, b_Kept_covers⟩ := ok_Kept_covers (P := P) (w := w) (base := base) hTx
  obtain ⟨_, F⟩ := hTx.fnM 32 s_Table_costs "Table" "costs" "Table.costs" 46
  refine ⟨_, ?_, F.binds (ps := ["self", "wish"]) fun _ _ _ _ _ _ us hl => match us, hl with | [_, _], _ => rfl⟩
  refine fn_dl F sc_Table_costs (fun _ _ _ _ h => q2_len h) (fun cdv A outer s H E hr => ⟨_, (pss_cons (ps_expr (pe_call G_need_wish (hr.mono (by decide)) rfl g_need_wish k_need_wish b_need_wish .nil pass0 (pa_cons (pv 1) (pa_cons (kx_fld (K := K) rfl (pv 0) rfl) pa_nil))))
    (pss_cons (ps_set (i := 2) sc_Table_costs.nd rfl (Or.inl rfl) (pe_lst (pa_cons (pe_tup (pa_cons pe_non (pa_cons (pe_callB call_lenD (by rfl) (hTx.fr 1) (by decide +kernel) (pa_cons (kx_fld (K := K) rfl (pv 0) rfl) pa_nil)) pa_nil))) pa_nil)))
    (pss_cons (ps_for PassesOwn.never rfl (kx_plist (K := K) rfl (kx_fld (K := K) rfl (pv 0) rfl)) (pg_name (i := 3) sc_Table_costs.nd rfl (Or.inl rfl))
    (pss_cons (ps_set (i := 4) sc_Table_costs.nd rfl (Or.inl rfl) (pe_callB (kx_len (K := K) rfl) (by rfl) (hTx.fr 1) (by decide +kernel) (pa_cons (pe_meth (pv 3) (hTx.cl 13) (hTx.me 44) G_Kept_stretch (hr.mono (by decide)) b_Kept_stretch .nil pass0 (pa_cons (pv 1) pa_nil)) pa_nil)))
    (pss_cons (ps_if (pt_not (pt_val (pe_meth (pv 3) (hTx.cl 13) (hTx.me 45) G_Kept_covers (hr.mono (by decide)) b_Kept_covers .nil pass0 (pa_cons (pv 1) pa_nil))))
    (pss_one (ps_set (i := 4) sc_Table_costs.nd rfl (Or.inl rfl) (pe_op op_mulA pe_int (pv 4))))
    pss_nil)
    (pss_one (ps_expr (pe_bm PySem.F.plainAttrs_list PySem.F.slot_list_append PySem.F.type_list_append mt_append (pv 2) (pa_cons (pe_tup (pa_cons (kx_fld (K := K) rfl (pv 3) rfl) (pa_cons (pv 4) pa_nil))) pa_nil)))))))
    (pss_one (ps_ret (pv 2)))))), ?_⟩)
  try dsimp only [cx_K, cx_nK]
  rintro _ M nx xe ⟨s, x, rfl, T, wish, rfl, hT, hO, hx, hw, k⟩
  show S (J0 K) _ [some (.ref T.p), some x, none, none, none] M _
  have hksl := hO.kl
  refine s_seq (s_drop ((ev_need_wish (wish := wish) (ev_var rfl) (ev_fld (ev_var rfl) hT.ob (hTx.cl 27) (hTx.na 77) tf_width) hx hw).w ?_))
  refine s_seq (s_asg ((en_lst (ds := [pairD2 (none, (T.th.length : Int))]) (ea_cons (ev_tup (ds := [.non, .int (T.th.length : Int)]) (ea_cons ev_non (ea_cons (Ev.is (ev_lenD (ev_fld (ev_var rfl) hT.ob (hTx.cl 27) (hTx.na 78) tf_held) hT.dc) (by rw [thD_len])) ea_nil)) (sz (by simp))) ea_nil) (sz (by simp))).w fun f hf => ?_))
  have sb : ∀ ds, Sub M (ud M f (.lst ds)) := fun ds => Sub.new hf
  refine s_seq (s_for (src_r (ev_fld (ev_var rfl) (sb _ _ _ hT.ob) (hTx.cl 27) (hTx.na 80) tf_kept) (sb _ _ _ hT.ka.li)) (fun i ρ' M' => M' = ud M f (.lst (((none, (T.th.length : Int)) :: (T.ks.take i).map fun k => ((some k.cols, costK wish k) : Cost)).map pairD2)) ∧ ∃ a b, ρ' = [some (.ref T.p), some x, some (.ref f), a, b]) ⟨rfl, _, _, rfl⟩ (fun i ρ' M' h => by rw [h.1]; exact sb _ _ _ hT.ka.li) ?_ ?_)
  · rintro i d ρ' M' hdd ⟨rfl, a, b, rfl⟩
    obtain ⟨q, hq, rfl⟩ := get_map hdd
    have hqm := List.mem_of_getElem? hq
    obtain ⟨o1, o2⟩ := hO.kk q hqm
    have hil := lt_of_get hq
    have hs := sb (((none, (T.th.length : Int)) :: (T.ks.take i).map fun k => ((some k.cols, costK wish k) : Cost)).map pairD2)
    have hka := (hT.ka.ke q hqm).sub hs
    have hcl := o2.len hO.w1
    have hsl := strM_len o1 wish
    have hthl := hO.hl
    refine sg_name ?_
    have hwx := hx.sub hs
    refine s_seq (s_asgE (Ev.is (ev_len (EvN.ev (en_Kept_stretch (es := q.es) (cols := q.cols) (wish := wish) (ev_var rfl) hka (ev_var rfl) hwx.il (hw.cols hO.w1) (by have := hw.2; omega) (fun c hc => by have := o2.1 c hc; have := hO.w1; omega) (by omega) o1.rising (by rw [o1.len]; omega) o1.ne_nil)) .l) (by rw [List.length_map])) ?_)
    refine s_cut (fun ρ' M2 => M2 = ud M f (.lst (((none, (T.th.length : Int)) :: (T.ks.take i).map fun k => ((some k.cols, costK wish k) : Cost)).map pairD2)) ∧ ρ' = [some (.ref T.p), some x, some (.ref f), some (.ref q.p), some (.int (costK wish q))]) ?_ ?_
    · refine s_if (et_not (et_B (ev_Kept_covers (cols := q.cols) (wish := wish) (ev_var rfl) hka.ob (ev_var rfl) hwx.il))) (fun hb => ?_) (fun hb => s_next ⟨rfl, ?_⟩)
      · have hc : coversM q.cols wish = false := by simpa using hb
        refine s_asgE (ev_I ev_int (ev_var rfl) (mulA (bt16 (i := 2) (by decide) (by decide)) (bt16 (i := ((strM q.es q.cols wish).length : Int)) (by omega) (by omega)) (by decide))) ⟨rfl, ?_⟩
        unfold costK
        rw [hc]
        rfl
      · have hc : coversM q.cols wish = true := by simpa using hb
        unfold costK
        rw [hc]
        rfl
    rintro ρ' M2 ⟨rfl, rfl⟩
    refine s_drop (w_append (a := f) (x := pairD2 (some q.cols, costK wish q)) (ev_var rfl) ud_same (ev_tup (ds := [ordD q.cols, .int (costK wish q)]) (ea_cons (ev_fld (ev_var rfl) hka.ob (hTx.cl 13) (hTx.na 74) (kf_cols _ _)) (ea_cons (ev_var rfl) ea_nil)) (sz (by simp))) (szl (by rw [List.length_map, List.length_cons, List.length_map, List.length_take]; omega)) ?_)
    refine ⟨?_, _, _, rfl⟩
    have tk : T.ks.take (i + 1) = T.ks.take i ++ [q] := by
      obtain ⟨hl, e⟩ := List.getElem?_eq_some_iff.mp hq
      rw [← e]
      exact (List.take_append_getElem hl).symm
    rw [ud_ud, tk, List.map_append, ← List.cons_append, List.map_append]
    rfl
  · rintro ρ' M' ⟨rfl, a, b, rfl⟩
    rw [List.length_map, List.take_length]
    exact s_retE (ev_var rfl) (k f hf)

def pr_Table_costs_x (K : PySem.W.Frag) : Pr := q2 fun s x M _ xe => ∃ (T : Tb), s = .ref T.p ∧ TabAt K M T ∧ WishBad M T.w x ∧ xe (He.ga K "BadWish") M
section
variable {K : PySem.W.Frag} {ta tb to : TE} {ρ : Ro} {M : Mp} {E : XK} {xe : Addr → Mp → Prop} {R : D → Mp → Prop} {c : D}
theorem w_Table_costs_x {T : Tb} (ho : Ev (JX K E xe) to ρ M (.ref T.p)) (hT : TabAt K M T) (hb : Ev (JX K E xe) tb ρ M c) (hn : WishBad M T.w c) (hx : xe (He.ga K "BadWish") M) :
    W (JX K E xe) (tMeth (He.ga K "Table") "costs" (spD K (pr_Table_costs_x K)) [] E to (tCons tb tNil)) ρ M R :=
  w_methX ho hT.ob (tf_no (by decide +kernel) (by decide +kernel) (by decide +kernel) (by decide +kernel)) (ea_cons hb ea_nil) ⟨_, _, rfl, T, rfl, hT, hn, hx⟩
end
theorem ok_Table_costs_x (hTx : Tx K mg) : OkM P w K mg base (L2.CX P w) 5  (He.ma K (He.ga K "Table") "costs") ["self", "wish"] (pr_Table_costs_x K) := by
  obtain ⟨_, G_need_wish, b_need_wish, k_need_wish, g_need_wish⟩ := ok_need_wish (P := P) (w := w) (base := base) hTx
  obtain ⟨_, G_need_wish_x, b_need_wish_x, k_need_wish_x, g_need_wish_x⟩ := ok_need_wish_x (P := P) (w := w) (base := base) hTx
  obtain ⟨_, F⟩ := hTx.fnM 32 s_Table_costs "Table" "costs" "Table.costs" 46
  refine ⟨_, ?_, F.binds (ps := ["self", "wish"]) fun _ _ _ _ _ _ us hl => match us, hl with | [_, _], _ => rfl⟩
  refine fn_dlX F sc_Table_costs (fun _ _ _ _ h => q2_len h) (fun cdv A outer s H E hr => ⟨_, (pss_cons (ps_expr (pe_ei (pe_call G_need_wish (hr.mono (by decide)) rfl g_need_wish k_need_wish b_need_wish .nil pass0 (pa_cons (pv 1) (pa_cons (kx_fld (K := K) rfl (pv 0) rfl) pa_nil))) (pe_call G_need_wish_x (hr.mono (by decide)) rfl g_need_wish_x k_need_wish_x b_need_wish_x .nil (passes_call (takes_of rfl rfl rfl rfl) (fun _ _ _ _ z => z)) (pa_cons (pv 1) (pa_cons (kx_fld (K := K) rfl (pv 0) rfl) pa_nil)))))
    (pss_cons ps_never
    (pss_cons ps_never
    (pss_one ps_never)))), ?_⟩)
  try dsimp only [cx_K, cx_nK]
  rintro _ M nx xe ⟨s, x, rfl, T, rfl, hT, hb, hx⟩
  show S (JX K E xe) _ [some (.ref T.p), some x, none, none, none] M _
  exact s_seq (s_drop (w_ei2 (w_need_wish_x (w := T.w) (ev_var rfl) (ev_fld (ev_var rfl) hT.ob (hTx.cl 27) (hTx.na 77) tf_width) hb hx)))

def leastC : Cost → List Cost → Cost
  | b, [] => b
  | b, p :: ps => leastC (if p.2 < b.2 then p else b) ps
def planM (T : Tb) (wish : List Tr) : Cost := leastC (none, (T.th.length : Int)) (costM T wish)
theorem leastC_mem : ∀ (ps : List Cost) (b : Cost), leastC b ps = b ∨ leastC b ps ∈ ps
  | [], b => .inl rfl
  | p :: ps, b => by
    unfold leastC
    rcases leastC_mem ps (if p.2 < b.2 then p else b) with h | h
    · rw [h]
      split
      · exact .inr List.mem_cons_self
      · exact .inl rfl
    · exact .inr (List.mem_cons_of_mem _ h)
theorem planM_mem (T : Tb) (wish : List Tr) : planM T wish ∈ costM T wish := by
  unfold planM
  rcases leastC_mem (costM T wish) (none, (T.th.length : Int)) with h | h
  · rw [h]; exact List.mem_cons_self
  · exact h
def cW : Cd (Option (List Int)) where
  d := wayD
  ok := fun a => by
    cases a with
    | none => show okPy .non = true; unfold okPy; rfl
    | some c => exact (cU cI).ok c
  ev := fun a b => by
    cases a with
    | none =>
      cases b with
      | none => show PyData.eqv (toPy .non) (toPy .non) = _; unfold toPy PyData.eqv; simp
      | some c => show PyData.eqv (toPy .non) (toPy (.tup (c.map cI.d))) = _; unfold toPy PyData.eqv; simp
    | some a =>
      cases b with
      | none => show PyData.eqv (toPy (.tup (a.map cI.d))) (toPy .non) = _; unfold toPy PyData.eqv; simp
      | some c =>
        have h := (cU cI).ev a c
        show PyData.eqv (toPy ((cU cI).d a)) (toPy ((cU cI).d c)) = _
        rw [h, Bool.eq_iff_iff]
        simp
  lay := fun a => by
    cases a with
    | none => show PyData.canLay0 (toPy .non) = true; unfold toPy; rfl
    | some c => exact (cU cI).lay c
  dep := 2
  dle := fun a => by
    cases a with
    | none => show (toPy .non).depth ≤ 2; unfold toPy PyData.depth; decide
    | some c => exact (cU cI).dle c
def cP : Cd Cost where
  d := pairD2
  ok := fun t => by
    have h1 := cW.ok t.1
    have h2 := cI.ok t.2
    show okPys [cW.d t.1, cI.d t.2] = true
    unfold okPys okPys okPys
    rw [h1, h2]
    rfl
  ev := fun a b => by
    have h1 := cW.ev a.1 b.1
    have h2 := cI.ev a.2 b.2
    show PyData.eqvAll [toPy (cW.d a.1), toPy (cI.d a.2)] [toPy (cW.d b.1), toPy (cI.d b.2)] = _
    unfold PyData.eqvAll PyData.eqvAll PyData.eqvAll
    rw [h1, h2, Bool.eq_iff_iff]
    obtain ⟨a1, a2⟩ := a
    obtain ⟨b1, b2⟩ := b
    simp
  lay := fun t => by
    have h1 := cW.lay t.1
    have h2 := cI.lay t.2
    show PyData.canLayAll0 [toPy (cW.d t.1), toPy (cI.d t.2)] = true
    unfold PyData.canLayAll0 PyData.canLayAll0 PyData.canLayAll0
    rw [h1, h2]
    rfl
  dep := 3
  dle := fun t => by
    have h1 := cW.dle t.1
    have h2 := cI.dle t.2
    show (PyData.tuple [toPy (cW.d t.1), toPy (cI.d t.2)]).depth ≤ 3
    unfold PyData.depth PyData.depthAll PyData.depthAll PyData.depthAll
    have e1 : cW.dep = 2 := rfl
    have e2 : cI.dep = 1 := rfl
    omega
theorem leastC_snoc (p : Cost) : ∀ (ps : List Cost) (b : Cost), leastC b (ps ++ [p]) = if p.2 < (leastC b ps).2 then p else leastC b ps
  | [], b => rfl
  | q :: ps, b => leastC_snoc p ps _
theorem leastC_le : ∀ (ps : List Cost) (b : Cost), (leastC b ps).2 ≤ b.2 ∧ ∀ p ∈ ps, (leastC b ps).2 ≤ p.2
  | [], b => ⟨Int.le_refl _, fun p hp => (nomatch hp)⟩
  | q :: ps, b => by
    unfold leastC
    obtain ⟨h1, h2⟩ := leastC_le ps (if q.2 < b.2 then q else b)
    have e : (if q.2 < b.2 then q else b).2 ≤ q.2 ∧ (if q.2 < b.2 then q else b).2 ≤ b.2 := by
      by_cases h : q.2 < b.2
      · rw [if_pos h]; omega
      · rw [if_neg h]; omega
    refine ⟨by omega, fun p hp => ?_⟩
    rcases List.mem_cons.mp hp with rfl | hp
    · omega
    · exact h2 p hp
theorem planM_le (T : Tb) (wish : List Tr) : ∀ p ∈ costM T wish, (planM T wish).2 ≤ p.2 := (leastC_le _ _).2
def pr_Table_plan (K : PySem.W.Frag) : Pr := q2 fun s x M nx _ => ∃ (T : Tb) (wish : List Tr), s = .ref T.p ∧ TabAt K M T ∧ TabOk T ∧ IsM M x (wish.map tD) ∧ WishOk T.w wish ∧ nx (pairD2 (planM T wish)) M
section
variable {J : Jx} {ta tb to : TE} {ρ : Ro} {M : Mp} {E : XK} {x : D}
theorem ev_Table_plan {T : Tb} {wish : List Tr} (ho : Ev J to ρ M (.ref T.p)) (hb : Ev J tb ρ M x) (hT : TabAt J.K M T) (hO : TabOk T) (hx : IsM M x (wish.map tD)) (hw : WishOk T.w wish) :
    Ev J (tMeth (He.ga J.K "Table") "plan" (spD J.K (pr_Table_plan J.K)) [] E to (tCons tb tNil)) ρ M (pairD2 (planM T wish)) :=
  w_meth0 ho hT.ob (tf_no (by decide +kernel) (by decide +kernel) (by decide +kernel) (by decide +kernel)) (ea_cons hb ea_nil) ⟨_, _, rfl, T, wish, rfl, hT, hO, hx, hw, rfl, rfl⟩
end
abbrev nm_Table_plan : List Str := ["self", "wish", "pairs", "best", "pair"]
theorem sc_Table_plan : FnScope nm_Table_plan ["self", "wish"] (defScope s_Table_plan) := ⟨rfl, rfl, rfl, by decide +kernel, rfl, by decide +kernel, by decide +kernel⟩
theorem ok_Table_plan (hTx : Tx K mg) : OkM P w K mg base CX0 6  (He.ma K (He.ga K "Table") "plan") ["self", "wish"] (pr_Table_plan K) := by
  obtain ⟨_, G_Table_costs, b_Table_costs⟩ := ok_Table_costs (P := P) (w := w) (base := base) hTx
  obtain ⟨_, F⟩ := hTx.fnM 33 s_Table_plan "Table" "plan" "Table.plan" 48
  refine ⟨_, ?_, F.binds (ps := ["self", "wish"]) fun _ _ _ _ _ _ us hl => match us, hl with | [_, _], _ => rfl⟩
  refine fn_dl F sc_Table_plan (fun _ _ _ _ h => q2_len h) (fun cdv A outer s H E hr => ⟨_, (pss_cons (ps_set (i := 2) sc_Table_plan.nd rfl (Or.inl rfl) (pe_meth (pv 0) (hTx.cl 27) (hTx.me 46) G_Table_costs (hr.mono (by decide)) b_Table_costs .nil pass0 (pa_cons (pv 1) pa_nil)))
    (pss_cons (ps_set (i := 3) sc_Table_plan.nd rfl (Or.inl rfl) (pe_ix (kx_ixL (K := K) rfl) (pv 2) pe_int (fun _ _ => rfl)))
    (pss_cons (ps_for PassesOwn.never rfl (kx_plist (K := K) rfl (pv 2)) (pg_name (i := 4) sc_Table_plan.nd rfl (Or.inl rfl))
    (pss_one (ps_if (pt_cmpR op_lt (pe_ix (kx_ixT (K := K) rfl) (pv 4) pe_int (fun _ _ => rfl)) (pe_ix (kx_ixT (K := K) rfl) (pv 3) pe_int (fun _ _ => rfl)) (nomark _))
    (pss_one (ps_set (i := 3) sc_Table_plan.nd rfl (Or.inl rfl) (pv 4)))
    pss_nil)))
    (pss_one (ps_ret (pv 3)))))), ?_⟩)
  try dsimp only [cx_K, cx_nK]
  rintro _ M nx xe ⟨s, x, rfl, T, wish, rfl, hT, hO, hx, hw, k⟩
  show S (J0 K) _ [some (.ref T.p), some x, none, none, none] M _
  refine s_seq (s_asgE (en_Table_costs (T := T) (wish := wish) (ev_var rfl) (ev_var rfl) hT hO hx hw).ev ?_)
  have h0 : ((costM T wish).map pairD2)[0]? = some (pairD2 (none, (T.th.length : Int))) := rfl
  refine s_seq (s_asgE (ev_ixL (z := pairD2 (none, (T.th.length : Int))) (ev_var rfl) ev_int .l (show atI _ ((0 : Nat) : Int) = _ from atI_nat h0)) ?_)
  refine s_seq (s_for (src_l (ev_var rfl) (.inl rfl)) (fun i ρ' M' => M' = M ∧ ∃ b a, ρ' = [some (.ref T.p), some x, some (.lst ((costM T wish).map pairD2)), some (pairD2 b), a] ∧ leastC b ((costM T wish).drop i) = planM T wish) ⟨rfl, _, _, rfl, rfl⟩ (fun _ _ _ _ => trivial) ?_ ?_)
  · rintro i d ρ' M' hdd ⟨rfl, b, a, rfl, hb⟩
    obtain ⟨p, hp, rfl⟩ := get_map hdd
    rw [drop_at hp] at hb
    unfold leastC at hb
    refine sg_name ?_
    refine s_if (et_test (ev_B0 (ev_ixT (ds := [wayD p.1, .int p.2]) (ev_var rfl) ev_int rfl) (ev_ixT (ds := [wayD b.1, .int b.2]) (ev_var rfl) ev_int rfl))) (fun hc => ?_) (fun hc => s_next ⟨rfl, b, _, rfl, ?_⟩)
    · rw [if_pos (of_decide_eq_true hc)] at hb
      exact s_asgE (ev_var rfl) ⟨rfl, p, _, rfl, hb⟩
    · rw [if_neg (of_decide_eq_false hc)] at hb
      exact hb
  · rintro ρ' M' ⟨rfl, b, a, rfl, hb⟩
    rw [List.length_map, List.drop_length] at hb
    refine s_retE (ev_var rfl) ?_
    have e : b = planM T wish := hb
    rw [e]
    exact k

def pr_Table_plan_x (K : PySem.W.Frag) : Pr := q2 fun s x M _ xe => ∃ (T : Tb), s = .ref T.p ∧ TabAt K M T ∧ WishBad M T.w x ∧ xe (He.ga K "BadWish") M
section
variable {K : PySem.W.Frag} {ta tb to : TE} {ρ : Ro} {M : Mp} {E : XK} {xe : Addr → Mp → Prop} {R : D → Mp → Prop} {c : D}
theorem w_Table_plan_x {T : Tb} (ho : Ev (JX K E xe) to ρ M (.ref T.p)) (hT : TabAt K M T) (hb : Ev (JX K E xe) tb ρ M c) (hn : WishBad M T.w c) (hx : xe (He.ga K "BadWish") M) :
    W (JX K E xe) (tMeth (He.ga K "Table") "plan" (spD K (pr_Table_plan_x K)) [] E to (tCons tb tNil)) ρ M R :=
  w_methX ho hT.ob (tf_no (by decide +kernel) (by decide +kernel) (by decide +kernel) (by decide +kernel)) (ea_cons hb ea_nil) ⟨_, _, rfl, T, rfl, hT, hn, hx⟩
end
theorem ok_Table_plan_x (hTx : Tx K mg) : OkM P w K mg base (L2.CX P w) 6  (He.ma K (He.ga K "Table") "plan") ["self", "wish"] (pr_Table_plan_x K) := by
  obtain ⟨_, G_Table_costs, b_Table_costs⟩ := ok_Table_costs (P := P) (w := w) (base := base) hTx
  obtain ⟨_, G_Table_costs_x, b_Table_costs_x⟩ := ok_Table_costs_x (P := P) (w := w) (base := base) hTx
  obtain ⟨_, F⟩ := hTx.fnM 33 s_Table_plan "Table" "plan" "Table.plan" 48
  refine ⟨_, ?_, F.binds (ps := ["self", "wish"]) fun _ _ _ _ _ _ us hl => match us, hl with | [_, _], _ => rfl⟩
  refine fn_dlX F sc_Table_plan (fun _ _ _ _ h => q2_len h) (fun cdv A outer s H E hr => ⟨_, (pss_cons (ps_set (i := 2) sc_Table_plan.nd rfl (Or.inl rfl) (pe_ei (pe_meth (pv 0) (hTx.cl 27) (hTx.me 46) G_Table_costs (hr.mono (by decide)) b_Table_costs .nil pass0 (pa_cons (pv 1) pa_nil)) (pe_meth (pv 0) (hTx.cl 27) (hTx.me 46) G_Table_costs_x (hr.mono (by decide)) b_Table_costs_x .nil (passes_call (takes_of rfl rfl rfl rfl) (fun _ _ _ _ z => z)) (pa_cons (pv 1) pa_nil))))
    (pss_cons ps_never
    (pss_cons ps_never
    (pss_one ps_never)))), ?_⟩)
  try dsimp only [cx_K, cx_nK]
  rintro _ M nx xe ⟨s, x, rfl, T, rfl, hT, hb, hx⟩
  show S (JX K E xe) _ [some (.ref T.p), some x, none, none, none] M _
  exact s_seq (s_asg (w_ei2 (w_Table_costs_x (T := T) (ev_var rfl) hT (ev_var rfl) hb hx)))

/-- the way is none, or a kept order -/
def WayOk (T : Tb) (way : Option (List Int)) : Prop := ∀ c, way = some c → c ∈ T.ks.map (·.cols)
def lookM (T : Tb) (wish : List Tr) : Option (List Int) → List Int
  | none => srtI (T.th.map (·.1))
  | some c => match T.ks.find? fun k => decide (k.cols = c) with
    | none => []
    | some k => strM k.es k.cols wish
theorem lookM_at {T : Tb} (h : TabOk T) {wish : List Tr} {i : Nat} {k : Kr} (hk : T.ks[i]? = some k) : lookM T wish (some k.cols) = strM k.es k.cols wish := by
  show (match T.ks.find? fun q => decide (q.cols = k.cols) with | none => [] | some q => strM q.es q.cols wish) = _
  cases e : T.ks.find? fun q => decide (q.cols = k.cols) with
  | none =>
    have := List.find?_eq_none.mp e k (List.mem_of_getElem? hk)
    exact absurd (decide_eq_true rfl) this
  | some q =>
    have h1 : decide (q.cols = k.cols) = true := List.find?_some (p := fun q : Kr => decide (q.cols = k.cols)) e
    obtain ⟨j, hj⟩ := List.mem_iff_getElem?.mp (List.mem_of_find?_eq_some e)
    have := kn_at h hk hj (of_decide_eq_true h1)
    subst this
    rw [hk] at hj
    cases hj
    rfl
theorem low_le {r : List Int} {c : Int} : ∀ w : List Tr, fitsM r w = true → withinM (r.getD c.toNat 0) (lowOf w c) (highOf w c) = true := by
  intro w
  induction w using snoc_ind with
  | h0 => intro _; rfl
  | h1 w t ih =>
    intro h
    unfold fitsM at h
    rw [List.all_append, Bool.and_eq_true] at h
    have hw := ih h.1
    have ht : withinM (r.getD t.1.toNat 0) t.2.1 t.2.2 = true := by simpa using h.2
    rw [lowOf_snoc, highOf_snoc]
    by_cases e : t.1 = c
    · rw [if_pos e, if_pos e]
      subst e
      unfold withinM at hw ht ⊢
      rw [Bool.and_eq_true] at hw ht ⊢
      refine ⟨?_, ?_⟩
      · cases h1 : lowOf w t.1 with
        | none => rw [gE_none]; exact ht.1
        | some a =>
          cases h2 : t.2.1 with
          | none => rw [gE_none2, ← h1]; exact hw.1
          | some b =>
            have e : gE (some a) (some b) = some (max a b) := rfl
            rw [h1] at hw
            rw [h2] at ht
            have q1 : a ≤ r.getD t.1.toNat 0 := of_decide_eq_true hw.1
            have q2 : b ≤ r.getD t.1.toNat 0 := of_decide_eq_true ht.1
            rw [e]
            exact decide_eq_true (by omega)
      · cases h1 : highOf w t.1 with
        | none =>
          have e : lE none t.2.2 = t.2.2 := rfl
          rw [e]; exact ht.2
        | some a =>
          cases h2 : t.2.2 with
          | none =>
            have e : lE (some a) none = some a := rfl
            rw [e, ← h1]; exact hw.2
          | some b =>
            have e : lE (some a) (some b) = some (min a b) := rfl
            rw [h1] at hw
            rw [h2] at ht
            have q1 : r.getD t.1.toNat 0 ≤ a := of_decide_eq_true hw.2
            have q2 : r.getD t.1.toNat 0 ≤ b := of_decide_eq_true ht.2
            rw [e]
            exact decide_eq_true (by omega)
    · rw [if_neg e, if_neg e]
      exact hw
theorem fits_inStr {r : List Int} {wish : List Tr} (h : fitsM r wish = true) : ∀ cols : List Int, inStr (lowOf wish) (highOf wish) cols r = true
  | [] => rfl
  | c :: cs => by
    have hw := low_le (c := c) wish h
    unfold inStr
    by_cases e : lowOf wish c = none ∨ lowOf wish c ≠ highOf wish c
    · rw [if_pos e]; exact hw
    · rw [if_neg e, fits_inStr h cs, Bool.and_true]
      cases q : lowOf wish c with
      | none => exact absurd (.inl q) e
      | some v =>
        have q2 : highOf wish c = some v := by
          rw [← q]
          exact (Decidable.not_not.mp fun z => e (.inr fun y => z y.symm))
        rw [q, q2] at hw
        unfold withinM at hw
        rw [Bool.and_eq_true] at hw
        have h1 : v ≤ r.getD c.toNat 0 := of_decide_eq_true hw.1
        have h2 : r.getD c.toNat 0 ≤ v := of_decide_eq_true hw.2
        exact decide_eq_true (show r.getD c.toNat 0 = v by omega)
theorem lookM_mem {T : Tb} (h : TabOk T) {wish : List Tr} {way : Option (List Int)} (hy : WayOk T way) : (∀ n ∈ lookM T wish way, ∃ r, thGet T.th n = some r) ∧ (lookM T wish way).length ≤ T.th.length := by
  have g : ∀ n ∈ T.th.map (·.1), ∃ r, thGet T.th n = some r := fun n hn => by
    obtain ⟨p, hp, rfl⟩ := List.mem_map.mp hn
    exact ⟨p.2, thGet_of h.nd hp⟩
  cases way with
  | none => exact ⟨fun n hn => g n (srtI_mem.mp hn), by show (srtI _).length ≤ _; rw [(srtI_perm _).length_eq, List.length_map]; exact Nat.le_refl _⟩
  | some c =>
    obtain ⟨q, hq, rfl⟩ := List.mem_map.mp (hy c rfl)
    obtain ⟨i, hi⟩ := List.mem_iff_getElem?.mp hq
    rw [lookM_at h hi]
    refine ⟨fun n hn => ?_, strM_len (h.kk q hq).1 wish⟩
    have := ((h.kk q hq).1.str_perm wish).mem_iff.mp hn
    obtain ⟨p, hp, rfl⟩ := List.mem_map.mp this
    exact g _ (List.mem_map_of_mem (List.mem_filter.mp hp).1)
def pr_Table_walked (K : PySem.W.Frag) : Pr := q3 fun s y x M nx _ => ∃ (T : Tb) (way : Option (List Int)) (wish : List Tr), s = .ref T.p ∧ y = wayD way ∧ TabAt K M T ∧ TabOk T ∧ WayOk T way ∧ IsM M x (wish.map tD) ∧ WishOk T.w wish ∧ ∀ q, M q = none → nx (.ref q) (ud M q (.lst ((lookM T wish way).map .int)))
section
variable {J : Jx} {ta tb tc to : TE} {ρ : Ro} {M : Mp} {E : XK} {x : D}
theorem en_Table_walked {T : Tb} {way : Option (List Int)} {wish : List Tr} (ho : Ev J to ρ M (.ref T.p)) (hb : Ev J tb ρ M (wayD way)) (hc : Ev J tc ρ M x) (hT : TabAt J.K M T) (hO : TabOk T) (hy : WayOk T way) (hx : IsM M x (wish.map tD)) (hw : WishOk T.w wish) :
    EvN J (tMeth (He.ga J.K "Table") "walked" (spD J.K (pr_Table_walked J.K)) [] E to (tCons tb (tCons tc tNil))) ρ M ((lookM T wish way).map .int) :=
  w_meth0 ho hT.ob (tf_no (by decide +kernel) (by decide +kernel) (by decide +kernel) (by decide +kernel)) (ea_cons hb (ea_cons hc ea_nil)) ⟨_, _, _, rfl, T, way, wish, rfl, rfl, hT, hO, hy, hx, hw, fun q hq => ⟨q, hq, rfl, rfl⟩⟩
end
abbrev nm_Table_walked : List Str := ["self", "way", "wish", "one"]
theorem sc_Table_walked : FnScope nm_Table_walked ["self", "way", "wish"] (defScope s_Table_walked) := ⟨rfl, rfl, rfl, by decide +kernel, rfl, by decide +kernel, by decide +kernel⟩
theorem ok_Table_walked (hTx : Tx K mg) : OkM P w K mg base CX0 5  (He.ma K (He.ga K "Table") "walked") ["self", "way", "wish"] (pr_Table_walked K) := by
  obtain ⟨_, G_need_wish, b_need_wish, k_need_wish, g_need_wish⟩ := ok_need_wish (P := P) (w := w) (base := base) hTx
  obtain ⟨_, G_Table_numbers, b_Table_numbers⟩ := ok_Table_numbers (P := P) (w := w) (base := base) hTx
  obtain ⟨_, G_Table_place_of, b_Table_place_of⟩ := ok_Table_place_of (P := P) (w := w) (base := base) hTx
  obtain ⟨_, G_Kept_stretch, b_Kept_stretch⟩ := ok_Kept_stretch (P := P) (w := w) (base := base) hTx
  obtain ⟨_, F⟩ := hTx.fnM 34 s_Table_walked "Table" "walked" "Table.walked" 47
  refine ⟨_, ?_, F.binds (ps := ["self", "way", "wish"]) fun _ _ _ _ _ _ us hl => match us, hl with | [_, _, _], _ => rfl⟩
  refine fn_dl F sc_Table_walked (fun _ _ _ _ h => q3_len h) (fun cdv A outer s H E hr => ⟨_, (pss_cons (ps_if (pt_cmp (pc_isN (pv 1)))
    (pss_cons (ps_expr (pe_call G_need_wish (hr.mono (by decide)) rfl g_need_wish k_need_wish b_need_wish .nil pass0 (pa_cons (pv 2) (pa_cons (kx_fld (K := K) rfl (pv 0) rfl) pa_nil))))
    (pss_one (ps_ret (pe_meth0 (pv 0) (hTx.cl 27) (hTx.me 41) G_Table_numbers (hr.mono (by decide)) b_Table_numbers .nil pass0))))
    pss_nil)
    (pss_cons (ps_set (i := 3) sc_Table_walked.nd rfl (Or.inl rfl) (pe_ix (kx_ixL (K := K) rfl) (kx_fld (K := K) rfl (pv 0) rfl) (pe_meth (pv 0) (hTx.cl 27) (hTx.me 42) G_Table_place_of (hr.mono (by decide)) b_Table_place_of .nil pass0 (pa_cons (pv 1) pa_nil)) (fun _ _ => rfl)))
    (pss_cons (ps_expr (pe_call G_need_wish (hr.mono (by decide)) rfl g_need_wish k_need_wish b_need_wish .nil pass0 (pa_cons (pv 2) (pa_cons (kx_fld (K := K) rfl (pv 0) rfl) pa_nil))))
    (pss_one (ps_ret (pe_meth (pv 3) (hTx.cl 13) (hTx.me 44) G_Kept_stretch (hr.mono (by decide)) b_Kept_stretch .nil pass0 (pa_cons (pv 2) pa_nil))))))), ?_⟩)
  try dsimp only [cx_K, cx_nK]
  rintro _ M nx xe ⟨s, y, x, rfl, T, way, wish, rfl, rfl, hT, hO, hy, hx, hw, k⟩
  show S (J0 K) _ [some (.ref T.p), some (wayD way), some x, none] M _
  have hwd : ∀ ρ' : Ro, ρ'[0]? = some (some (.ref T.p)) → Ev (J0 K) (tFld K (tVar 0) "width") ρ' M (.int T.w) := fun ρ' h => ev_fld (ev_var h) hT.ob (hTx.cl 27) (hTx.na 77) tf_width
  cases way with
  | none =>
    refine s_seq (s_if (b := true) ((et_test (ev_isN (ev_var rfl))).is rfl) (fun _ => ?_) (fun z => nomatch z))
    refine s_seq (s_drop ((ev_need_wish (wish := wish) (ev_var rfl) (hwd _ rfl) hx hw).w ?_))
    exact s_ret ((en_Table_numbers (T := T) (ev_var rfl) hT).w k)
  | some c =>
    refine s_seq (s_if (b := false) ((et_test (ev_isN (ev_var rfl))).is rfl) (fun z => nomatch z) (fun _ => s_next ?_))
    obtain ⟨q, hq, rfl⟩ := List.mem_map.mp (hy c rfl)
    obtain ⟨i, hi⟩ := List.mem_iff_getElem?.mp hq
    obtain ⟨o1, o2⟩ := hO.kk q hq
    rw [lookM_at hO hi] at k
    have hat : atI (T.ks.map fun k => D.ref k.p) (i : Int) = some (.ref q.p) := atI_nat (by rw [List.getElem?_map, hi]; rfl)
    have hcl := o2.len hO.w1
    refine s_seq (s_asgE (ev_ixL (ev_fld (ev_var rfl) hT.ob (hTx.cl 27) (hTx.na 80) tf_kept) (ev_Table_place_of (T := T) (ev_var rfl) hT hO (ev_var rfl) hi) (.r hT.ka.li) hat) ?_)
    refine s_seq (s_drop ((ev_need_wish (wish := wish) (ev_var rfl) (hwd _ rfl) hx hw).w ?_))
    exact s_ret ((en_Kept_stretch (es := q.es) (cols := q.cols) (wish := wish) (ev_var rfl) (hT.ka.ke q hq) (ev_var rfl) hx.il (hw.cols hO.w1) (by have := hw.2; omega) (fun c hc => by have := o2.1 c hc; have := hO.w1; omega) (by omega) o1.rising (by rw [o1.len]; have := hO.hl; omega) o1.ne_nil).w k)

/-- why a walk is refused -/
def WalkNo (K : PySem.W.Frag) (M : Mp) (T : Tb) (y x : D) (xe : Addr → Mp → Prop) : Prop :=
  (y ≠ .non ∧ WayBad M T y ∧ xe (He.ga K "BadOrder") M) ∨ ∃ way, y = wayD way ∧ WayOk T way ∧ WishBad M T.w x ∧ xe (He.ga K "BadWish") M
def pr_Table_walked_x (K : PySem.W.Frag) : Pr := q3 fun s y x M _ xe => ∃ (T : Tb), s = .ref T.p ∧ TabAt K M T ∧ TabOk T ∧ WalkNo K M T y x xe
section
variable {K : PySem.W.Frag} {ta tb tc to : TE} {ρ : Ro} {M : Mp} {E : XK} {xe : Addr → Mp → Prop} {R : D → Mp → Prop} {x y : D}
theorem w_Table_walked_x {T : Tb} (ho : Ev (JX K E xe) to ρ M (.ref T.p)) (hT : TabAt K M T) (hO : TabOk T) (hb : Ev (JX K E xe) tb ρ M y) (hc : Ev (JX K E xe) tc ρ M x) (hn : WalkNo K M T y x xe) :
    W (JX K E xe) (tMeth (He.ga K "Table") "walked" (spD K (pr_Table_walked_x K)) [] E to (tCons tb (tCons tc tNil))) ρ M R :=
  w_methX ho hT.ob (tf_no (by decide +kernel) (by decide +kernel) (by decide +kernel) (by decide +kernel)) (ea_cons hb (ea_cons hc ea_nil)) ⟨_, _, _, rfl, T, rfl, hT, hO, hn⟩
end
theorem ok_Table_walked_x (hTx : Tx K mg) : OkM P w K mg base (L2.CX P w) 5  (He.ma K (He.ga K "Table") "walked") ["self", "way", "wish"] (pr_Table_walked_x K) := by
  obtain ⟨_, G_need_wish, b_need_wish, k_need_wish, g_need_wish⟩ := ok_need_wish (P := P) (w := w) (base := base) hTx
  obtain ⟨_, G_need_wish_x, b_need_wish_x, k_need_wish_x, g_need_wish_x⟩ := ok_need_wish_x (P := P) (w := w) (base := base) hTx
  obtain ⟨_, G_Table_numbers, b_Table_numbers⟩ := ok_Table_numbers (P := P) (w := w) (base := base) hTx
  obtain ⟨_, G_Table_place_of, b_Table_place_of⟩ := ok_Table_place_of (P := P) (w := w) (base := base) hTx
  obtain ⟨_, G_Table_place_of_x, b_Table_place_of_x⟩ := ok_Table_place_of_x (P := P) (w := w) (base := base) hTx
  obtain ⟨_, F⟩ := hTx.fnM 34 s_Table_walked "Table" "walked" "Table.walked" 47
  refine ⟨_, ?_, F.binds (ps := ["self", "way", "wish"]) fun _ _ _ _ _ _ us hl => match us, hl with | [_, _, _], _ => rfl⟩
  refine fn_dlX F sc_Table_walked (fun _ _ _ _ h => q3_len h) (fun cdv A outer s H E hr => ⟨_, (pss_cons (ps_if (pt_cmp (pc_isN (pv 1)))
    (pss_cons (ps_expr (pe_ei (pe_call G_need_wish (hr.mono (by decide)) rfl g_need_wish k_need_wish b_need_wish .nil pass0 (pa_cons (pv 2) (pa_cons (kx_fld (K := K) rfl (pv 0) rfl) pa_nil))) (pe_call G_need_wish_x (hr.mono (by decide)) rfl g_need_wish_x k_need_wish_x b_need_wish_x .nil (passes_call (takes_of rfl rfl rfl rfl) (fun _ _ _ _ z => z)) (pa_cons (pv 2) (pa_cons (kx_fld (K := K) rfl (pv 0) rfl) pa_nil)))))
    (pss_one (ps_ret (pe_meth0 (pv 0) (hTx.cl 27) (hTx.me 41) G_Table_numbers (hr.mono (by decide)) b_Table_numbers .nil pass0))))
    pss_nil)
    (pss_cons (ps_set (i := 3) sc_Table_walked.nd rfl (Or.inl rfl) (pe_ix (kx_ixL (K := K) rfl) (kx_fld (K := K) rfl (pv 0) rfl) (pe_ei (pe_meth (pv 0) (hTx.cl 27) (hTx.me 42) G_Table_place_of (hr.mono (by decide)) b_Table_place_of .nil pass0 (pa_cons (pv 1) pa_nil)) (pe_meth (pv 0) (hTx.cl 27) (hTx.me 42) G_Table_place_of_x (hr.mono (by decide)) b_Table_place_of_x .nil (passes_call (takes_of rfl rfl rfl rfl) (fun _ _ _ _ z => z)) (pa_cons (pv 1) pa_nil))) (fun _ _ => rfl)))
    (pss_cons (ps_expr (pe_ei (pe_call G_need_wish (hr.mono (by decide)) rfl g_need_wish k_need_wish b_need_wish .nil pass0 (pa_cons (pv 2) (pa_cons (kx_fld (K := K) rfl (pv 0) rfl) pa_nil))) (pe_call G_need_wish_x (hr.mono (by decide)) rfl g_need_wish_x k_need_wish_x b_need_wish_x .nil (passes_call (takes_of rfl rfl rfl rfl) (fun _ _ _ _ z => z)) (pa_cons (pv 2) (pa_cons (kx_fld (K := K) rfl (pv 0) rfl) pa_nil)))))
    (pss_one ps_never)))), ?_⟩)
  try dsimp only [cx_K, cx_nK]
  rintro _ M nx xe ⟨s, y, x, rfl, T, rfl, hT, hO, hn⟩
  show S (JX K E xe) _ [some (.ref T.p), some y, some x, none] M _
  have hwd : ∀ ρ' : Ro, ρ'[0]? = some (some (.ref T.p)) → Ev (JX K E xe) (tFld K (tVar 0) "width") ρ' M (.int T.w) := fun ρ' h => ev_fld (ev_var h) hT.ob (hTx.cl 27) (hTx.na 77) tf_width
  rcases hn with ⟨hy, hb, hx⟩ | ⟨way, rfl, hy, hb, hx⟩
  · have e : isNon y = false := by
      cases y with
      | non => exact absurd rfl hy
      | _ => rfl
    refine s_seq (s_if (b := false) ((et_test (ev_isN (ev_var rfl))).is e) (fun z => nomatch z) (fun _ => s_next ?_))
    exact s_seq (s_asg (w_op ((ev_fld (ev_var rfl) hT.ob (hTx.cl 27) (hTx.na 80) tf_kept).w (w_ei2 (w_Table_place_of_x (T := T) (ev_var rfl) hT hO (ev_var rfl) hb hx)))))
  cases way with
  | none =>
    refine s_seq (s_if (b := true) ((et_test (ev_isN (ev_var rfl))).is rfl) (fun _ => ?_) (fun z => nomatch z))
    exact s_seq (s_drop (w_ei2 (w_need_wish_x (w := T.w) (ev_var rfl) (hwd _ rfl) hb hx)))
  | some c =>
    refine s_seq (s_if (b := false) ((et_test (ev_isN (ev_var rfl))).is rfl) (fun z => nomatch z) (fun _ => s_next ?_))
    obtain ⟨q, hq, rfl⟩ := List.mem_map.mp (hy c rfl)
    obtain ⟨i, hi⟩ := List.mem_iff_getElem?.mp hq
    have hat : atI (T.ks.map fun k => D.ref k.p) (i : Int) = some (.ref q.p) := atI_nat (by rw [List.getElem?_map, hi]; rfl)
    refine s_seq (s_asg (w_op ((ev_fld (ev_var rfl) hT.ob (hTx.cl 27) (hTx.na 80) tf_kept).w (w_ei1 ((ev_Table_place_of (T := T) (ev_var rfl) hT hO (ev_var rfl) hi).w (op2_ixL (.r hT.ka.li) hat ?_))))))
    exact s_seq (s_drop (w_ei2 (w_need_wish_x (w := T.w) (ev_var rfl) (hwd _ rfl) hb hx)))

/-- the numbers of the rows that fit, rising -/
def ansM (T : Tb) (wish : List Tr) : List Int := srtI ((T.th.filter fun p => fitsM p.2 wish).map (·.1))
/-- what fits of what is looked at -/
theorem look_ans {T : Tb} (h : TabOk T) {wish : List Tr} {way : Option (List Int)} (hy : WayOk T way) : srtI ((lookM T wish way).filter fun n => fitsM ((thGet T.th n).getD []) wish) = ansM T wish := by
  have key : ∀ ns : List Int, ∀ c : Int × List Int → Bool, ns.Perm ((T.th.filter c).map (·.1)) → (∀ p ∈ T.th, fitsM p.2 wish = true → c p = true) → (ns.filter fun n => fitsM ((thGet T.th n).getD []) wish).Perm ((T.th.filter fun p => fitsM p.2 wish).map (·.1)) := fun ns c hp hc => by
    have p1 := hp.filter fun n => fitsM ((thGet T.th n).getD []) wish
    refine p1.trans (List.Perm.of_eq ?_)
    rw [List.filter_map]
    congr 1
    rw [List.filter_filter]
    refine List.filter_congr fun p hpm => ?_
    show (fitsM ((thGet T.th p.1).getD []) wish && c p) = fitsM p.2 wish
    rw [thGet_of h.nd (show (p.1, p.2) ∈ T.th from hpm)]
    show (fitsM p.2 wish && c p) = fitsM p.2 wish
    cases q : fitsM p.2 wish with
    | false => rfl
    | true => rw [hc p hpm q]; rfl
  unfold ansM
  refine srtI_eq ((srtI_perm _).trans ?_) (srtI_le _)
  cases way with
  | none =>
    refine key _ (fun _ => true) ?_ fun _ _ _ => rfl
    rw [List.filter_eq_self.mpr fun _ _ => rfl]
    exact srtI_perm _
  | some c =>
    obtain ⟨q, hq, rfl⟩ := List.mem_map.mp (hy c rfl)
    obtain ⟨i, hi⟩ := List.mem_iff_getElem?.mp hq
    rw [lookM_at h hi]
    exact key _ _ ((h.kk q hq).1.str_perm wish) fun p _ hf => fits_inStr hf _
def pr_Table_ask_by (K : PySem.W.Frag) : Pr := q3 fun s y x M nx _ => ∃ (T : Tb) (way : Option (List Int)) (wish : List Tr), s = .ref T.p ∧ y = wayD way ∧ TabAt K M T ∧ TabOk T ∧ WayOk T way ∧ IsM M x (wish.map tD) ∧ WishOk T.w wish ∧ ∀ q, M q = none → nx (.ref q) (ud M q (.lst ((ansM T wish).map .int)))
section
variable {J : Jx} {ta tb tc to : TE} {ρ : Ro} {M : Mp} {E : XK} {x : D}
theorem en_Table_ask_by {T : Tb} {way : Option (List Int)} {wish : List Tr} (ho : Ev J to ρ M (.ref T.p)) (hb : Ev J tb ρ M (wayD way)) (hc : Ev J tc ρ M x) (hT : TabAt J.K M T) (hO : TabOk T) (hy : WayOk T way) (hx : IsM M x (wish.map tD)) (hw : WishOk T.w wish) :
    EvN J (tMeth (He.ga J.K "Table") "ask_by" (spD J.K (pr_Table_ask_by J.K)) [] E to (tCons tb (tCons tc tNil))) ρ M ((ansM T wish).map .int) :=
  w_meth0 ho hT.ob (tf_no (by decide +kernel) (by decide +kernel) (by decide +kernel) (by decide +kernel)) (ea_cons hb (ea_cons hc ea_nil)) ⟨_, _, _, rfl, T, way, wish, rfl, rfl, hT, hO, hy, hx, hw, fun q hq => ⟨q, hq, rfl, rfl⟩⟩
end
abbrev nm_Table_ask_by : List Str := ["self", "way", "wish", "looked", "number"]
theorem sc_Table_ask_by : FnScope nm_Table_ask_by ["self", "way", "wish"] (defScope s_Table_ask_by) := ⟨rfl, rfl, rfl, by decide +kernel, rfl, by decide +kernel, by decide +kernel⟩
theorem ok_Table_ask_by (hTx : Tx K mg) : OkM P w K mg base CX0 6  (He.ma K (He.ga K "Table") "ask_by") ["self", "way", "wish"] (pr_Table_ask_by K) := by
  obtain ⟨_, G_Table_walked, b_Table_walked⟩ := ok_Table_walked (P := P) (w := w) (base := base) hTx
  obtain ⟨_, G_fits, b_fits, k_fits, g_fits⟩ := ok_fits (P := P) (w := w) (base := base) hTx
  obtain ⟨_, F⟩ := hTx.fnM 35 s_Table_ask_by "Table" "ask_by" "Table.ask_by" 49
  refine ⟨_, ?_, F.binds (ps := ["self", "way", "wish"]) fun _ _ _ _ _ _ us hl => match us, hl with | [_, _, _], _ => rfl⟩
  refine fn_dl F sc_Table_ask_by (fun _ _ _ _ h => q3_len h) (fun cdv A outer s H E hr => ⟨_, (pss_cons (ps_set (i := 3) sc_Table_ask_by.nd rfl (Or.inl rfl) (pe_meth (pv 0) (hTx.cl 27) (hTx.me 47) G_Table_walked (hr.mono (by decide)) b_Table_walked .nil pass0 (pa_cons (pv 1) (pa_cons (pv 2) pa_nil))))
    (pss_one (ps_ret (pe_callB (kx_sortedI (K := K) rfl) (by rfl) (hTx.fr 12) (by decide +kernel) (pa_cons (pe_lc (own := [("number", 4)]) (g := gName 4) rfl sc_Table_ask_by.nd (kx_plist (K := K) rfl (pv 3)) (blkOk_by (N := nm_Table_ask_by) (sc := defScope s_Table_ask_by) (own := [("number", 4)]) (by decide +kernel)) (fun _ _ _ _ _ => pg_name (i := 4) sc_Table_ask_by.nd rfl (Or.inl rfl)) (fun _ _ _ _ _ => (pts_one (pt_val (pe_call G_fits (hr.mono (by decide)) rfl g_fits k_fits b_fits .nil pass0 (pa_cons (pe_dget (hu_of hr) (kx_fld (K := K) rfl (pv 0) rfl) (pv 4) (fun _ _ => rfl)) (pa_cons (pv 2) pa_nil)))))) (fun _ _ _ _ _ => (pv 4))) pa_nil))))), ?_⟩)
  try dsimp only [cx_K, cx_nK]
  rintro _ M nx xe ⟨s, y, x, rfl, T, way, wish, rfl, rfl, hT, hO, hy, hx, hw, k⟩
  show S (J0 K) _ [some (.ref T.p), some (wayD way), some x, none, none] M _
  obtain ⟨hlm, hll⟩ := lookM_mem (wish := wish) hO hy
  have hthl := hO.hl
  refine s_seq (s_asgE (en_Table_walked (T := T) (way := way) (wish := wish) (ev_var rfl) (ev_var rfl) (ev_var rfl) hT hO hy hx hw).ev ?_)
  rw [← look_ans hO hy] at k
  refine s_ret (EvN.w (en_sortedI (ns := (lookM T wish way).filter fun n => fitsM ((thGet T.th n).getD []) wish) (en_lc (lookM T wish way) D.int (fun n => fitsM ((thGet T.th n).getD []) wish) D.int (src_l (ev_var rfl) (.inl rfl)) (fun _ _ => trivial) (szl (by omega)) (fun M1 n sb hn => ?_) fun M1 n sb hn _ => ev_var rfl).ev .l) k)
  obtain ⟨r, hr⟩ := hlm n hn
  have hrl := hO.wi _ (thGet_mem hr)
  rw [hr]
  exact et_B (ev_fits (row := r) (wish := wish) (ev_dget (k := .inl n) (z := rowD r) (ev_fld (ev_var rfl) (sb _ _ hT.ob) (hTx.cl 27) (hTx.na 78) tf_held) (ev_var rfl) (sb _ _ hT.dc) (by rw [thD_val, hr]; rfl)) (ev_var rfl) .l (hx.sub sb).il (fun t ht => by have := hw.1 t ht; have e : r.length = T.w.toNat := hrl; omega))

def pr_Table_ask_by_x (K : PySem.W.Frag) : Pr := q3 fun s y x M _ xe => ∃ (T : Tb), s = .ref T.p ∧ TabAt K M T ∧ TabOk T ∧ WalkNo K M T y x xe
theorem ok_Table_ask_by_x (hTx : Tx K mg) : OkM P w K mg base (L2.CX P w) 6  (He.ma K (He.ga K "Table") "ask_by") ["self", "way", "wish"] (pr_Table_ask_by_x K) := by
  obtain ⟨_, G_Table_walked, b_Table_walked⟩ := ok_Table_walked (P := P) (w := w) (base := base) hTx
  obtain ⟨_, G_Table_walked_x, b_Table_walked_x⟩ := ok_Table_walked_x (P := P) (w := w) (base := base) hTx
  obtain ⟨_, F⟩ := hTx.fnM 35 s_Table_ask_by "Table" "ask_by" "Table.ask_by" 49
  refine ⟨_, ?_, F.binds (ps := ["self", "way", "wish"]) fun _ _ _ _ _ _ us hl => match us, hl with | [_, _, _], _ => rfl⟩
  refine fn_dlX F sc_Table_ask_by (fun _ _ _ _ h => q3_len h) (fun cdv A outer s H E hr => ⟨_, (pss_cons (ps_set (i := 3) sc_Table_ask_by.nd rfl (Or.inl rfl) (pe_ei (pe_meth (pv 0) (hTx.cl 27) (hTx.me 47) G_Table_walked (hr.mono (by decide)) b_Table_walked .nil pass0 (pa_cons (pv 1) (pa_cons (pv 2) pa_nil))) (pe_meth (pv 0) (hTx.cl 27) (hTx.me 47) G_Table_walked_x (hr.mono (by decide)) b_Table_walked_x .nil (passes_call (takes_of rfl rfl rfl rfl) (fun _ _ _ _ z => z)) (pa_cons (pv 1) (pa_cons (pv 2) pa_nil)))))
    (pss_one ps_never)), ?_⟩)
  try dsimp only [cx_K, cx_nK]
  rintro _ M nx xe ⟨s, y, x, rfl, T, rfl, hT, hO, hn⟩
  show S (JX K E xe) _ [some (.ref T.p), some y, some x, none, none] M _
  exact s_seq (s_asg (w_ei2 (w_Table_walked_x (T := T) (ev_var rfl) hT hO (ev_var rfl) (ev_var rfl) hn)))

theorem plan_way {T : Tb} (wish : List Tr) : WayOk T (planM T wish).1 := fun c hc => by
  have h := planM_mem T wish
  unfold costM at h
  rcases List.mem_cons.mp h with e | e
  · rw [e] at hc; cases hc
  · obtain ⟨q, hq, e⟩ := List.mem_map.mp e
    rw [← e] at hc
    cases hc
    exact List.mem_map_of_mem (f := (·.cols)) hq
def pr_Table_ask (K : PySem.W.Frag) : Pr := q2 fun s x M nx _ => ∃ (T : Tb) (wish : List Tr), s = .ref T.p ∧ TabAt K M T ∧ TabOk T ∧ IsM M x (wish.map tD) ∧ WishOk T.w wish ∧ ∀ q, M q = none → nx (.ref q) (ud M q (.lst ((ansM T wish).map .int)))
section
variable {J : Jx} {ta tb tc to : TE} {ρ : Ro} {M : Mp} {E : XK} {x : D}
theorem en_Table_ask {T : Tb} {wish : List Tr} (ho : Ev J to ρ M (.ref T.p)) (hc : Ev J tc ρ M x) (hT : TabAt J.K M T) (hO : TabOk T) (hx : IsM M x (wish.map tD)) (hw : WishOk T.w wish) :
    EvN J (tMeth (He.ga J.K "Table") "ask" (spD J.K (pr_Table_ask J.K)) [] E to (tCons tc tNil)) ρ M ((ansM T wish).map .int) :=
  w_meth0 ho hT.ob (tf_no (by decide +kernel) (by decide +kernel) (by decide +kernel) (by decide +kernel)) (ea_cons hc ea_nil) ⟨_, _, rfl, T, wish, rfl, hT, hO, hx, hw, fun q hq => ⟨q, hq, rfl, rfl⟩⟩
end
abbrev nm_Table_ask : List Str := ["self", "wish"]
theorem sc_Table_ask : FnScope nm_Table_ask ["self", "wish"] (defScope s_Table_ask) := ⟨rfl, rfl, rfl, by decide +kernel, rfl, by decide +kernel, by decide +kernel⟩
theorem ok_Table_ask (hTx : Tx K mg) : OkM P w K mg base CX0 7  (He.ma K (He.ga K "Table") "ask") ["self", "wish"] (pr_Table_ask K) := by
  obtain ⟨_, G_Table_plan, b_Table_plan⟩ := ok_Table_plan (P := P) (w := w) (base := base) hTx
  obtain ⟨_, G_Table_ask_by, b_Table_ask_by⟩ := ok_Table_ask_by (P := P) (w := w) (base := base) hTx
  obtain ⟨_, F⟩ := hTx.fnM 36 s_Table_ask "Table" "ask" "Table.ask" 56
  refine ⟨_, ?_, F.binds (ps := ["self", "wish"]) fun _ _ _ _ _ _ us hl => match us, hl with | [_, _], _ => rfl⟩
  refine fn_dl F sc_Table_ask (fun _ _ _ _ h => q2_len h) (fun cdv A outer s H E hr => ⟨_, (pss_one (ps_ret (pe_meth (pv 0) (hTx.cl 27) (hTx.me 49) G_Table_ask_by (hr.mono (by decide)) b_Table_ask_by .nil pass0 (pa_cons (pe_ix (kx_ixT (K := K) rfl) (pe_meth (pv 0) (hTx.cl 27) (hTx.me 48) G_Table_plan (hr.mono (by decide)) b_Table_plan .nil pass0 (pa_cons (pv 1) pa_nil)) pe_int (fun _ _ => rfl)) (pa_cons (pv 1) pa_nil))))), ?_⟩)
  try dsimp only [cx_K, cx_nK]
  rintro _ M nx xe ⟨s, x, rfl, T, wish, rfl, hT, hO, hx, hw, k⟩
  exact s_ret ((en_Table_ask_by (T := T) (way := (planM T wish).1) (wish := wish) (ev_var rfl) (ev_ixT (ds := [wayD (planM T wish).1, .int (planM T wish).2]) (ev_Table_plan (T := T) (wish := wish) (ev_var rfl) (ev_var rfl) hT hO hx hw) ev_int rfl) (ev_var rfl) hT hO (plan_way wish) hx hw).w k)

def pr_Table_ask_x (K : PySem.W.Frag) : Pr := q2 fun s x M _ xe => ∃ (T : Tb), s = .ref T.p ∧ TabAt K M T ∧ WishBad M T.w x ∧ xe (He.ga K "BadWish") M
theorem ok_Table_ask_x (hTx : Tx K mg) : OkM P w K mg base (L2.CX P w) 7  (He.ma K (He.ga K "Table") "ask") ["self", "wish"] (pr_Table_ask_x K) := by
  obtain ⟨_, G_Table_plan, b_Table_plan⟩ := ok_Table_plan (P := P) (w := w) (base := base) hTx
  obtain ⟨_, G_Table_plan_x, b_Table_plan_x⟩ := ok_Table_plan_x (P := P) (w := w) (base := base) hTx
  obtain ⟨_, G_Table_ask_by, b_Table_ask_by⟩ := ok_Table_ask_by (P := P) (w := w) (base := base) hTx
  obtain ⟨_, G_Table_ask_by_x, b_Table_ask_by_x⟩ := ok_Table_ask_by_x (P := P) (w := w) (base := base) hTx
  obtain ⟨_, F⟩ := hTx.fnM 36 s_Table_ask "Table" "ask" "Table.ask" 56
  refine ⟨_, ?_, F.binds (ps := ["self", "wish"]) fun _ _ _ _ _ _ us hl => match us, hl with | [_, _], _ => rfl⟩
  refine fn_dlX F sc_Table_ask (fun _ _ _ _ h => q2_len h) (fun cdv A outer s H E hr => ⟨_, (pss_one (ps_ret (pe_ei (pe_meth (pv 0) (hTx.cl 27) (hTx.me 49) G_Table_ask_by (hr.mono (by decide)) b_Table_ask_by .nil pass0 (pa_cons (pe_ix (kx_ixT (K := K) rfl) (pe_ei (pe_meth (pv 0) (hTx.cl 27) (hTx.me 48) G_Table_plan (hr.mono (by decide)) b_Table_plan .nil pass0 (pa_cons (pv 1) pa_nil)) (pe_meth (pv 0) (hTx.cl 27) (hTx.me 48) G_Table_plan_x (hr.mono (by decide)) b_Table_plan_x .nil (passes_call (takes_of rfl rfl rfl rfl) (fun _ _ _ _ z => z)) (pa_cons (pv 1) pa_nil))) pe_int (fun _ _ => rfl)) (pa_cons (pv 1) pa_nil))) (pe_meth (pv 0) (hTx.cl 27) (hTx.me 49) G_Table_ask_by_x (hr.mono (by decide)) b_Table_ask_by_x .nil (passes_call (takes_of rfl rfl rfl rfl) (fun _ _ _ _ z => z)) (pa_cons (pe_ix (kx_ixT (K := K) rfl) (pe_ei (pe_meth (pv 0) (hTx.cl 27) (hTx.me 48) G_Table_plan (hr.mono (by decide)) b_Table_plan .nil pass0 (pa_cons (pv 1) pa_nil)) (pe_meth (pv 0) (hTx.cl 27) (hTx.me 48) G_Table_plan_x (hr.mono (by decide)) b_Table_plan_x .nil (passes_call (takes_of rfl rfl rfl rfl) (fun _ _ _ _ z => z)) (pa_cons (pv 1) pa_nil))) pe_int (fun _ _ => rfl)) (pa_cons (pv 1) pa_nil)))))), ?_⟩)
  try dsimp only [cx_K, cx_nK]
  rintro _ M nx xe ⟨s, x, rfl, T, rfl, hT, hb, hx⟩
  show S (JX K E xe) _ [some (.ref T.p), some x] M _
  exact s_ret (w_ei1 (w_meth noX (fun _ _ _ _ _ _ z => z.elim) (Ev.w (ev_var rfl) ⟨T.p, _, rfl, hT.ob, tf_no (by decide +kernel) (by decide +kernel) (by decide +kernel) (by decide +kernel), wa_cons (w_op (w_ei2 (w_Table_plan_x (T := T) (ev_var rfl) hT (ev_var rfl) hb hx)))⟩)))

def atM (ns : List Int) (k : Int) : Int := if k < ns.length then ns.getD k.toNat 0 else 0
def pr_l_at (K : PySem.W.Frag) : Pr := q2 fun x y M nx _ => ∃ (ns : List Int) (k : Int), x = .frl (ns.map .int) ∧ y = .int k ∧ 0 ≤ k ∧ nx (.int (atM ns k)) M
section
variable {J : Jx} {ta tb : TE} {ρ : Ro} {M : Mp} {E : XK}
theorem ev_l_at {ns : List Int} {k : Int} (ha : Ev J ta ρ M (.frl (ns.map .int))) (hb : Ev J tb ρ M (.int k)) (h0 : 0 ≤ k) : Ev J (tCall (spD J.K (pr_l_at J.K)) [] E (tCons ta (tCons tb tNil))) ρ M (.int (atM ns k)) :=
  w_call ((ea_cons ha (ea_cons hb ea_nil)).w ⟨_, _, rfl, ns, k, rfl, rfl, h0, rfl, rfl⟩)
end
local macro_rules | `(tactic| walk_at "ev1") => `(tactic| first | with_reducible refine' ev_l_at ?_ ?_ ?_ | (show (0 : Int) ≤ _; omega))
abbrev nm_l_at : List Str := ["_law_script", "_law_k"]
theorem sc_l_at : FnScope nm_l_at ["_law_script", "_law_k"] (defScope s_l_at) := ⟨rfl, rfl, rfl, by decide +kernel, rfl, by decide +kernel, by decide +kernel⟩
theorem ok_l_at (hTx : Tx K mg) : OkF P w K mg base CX0 1 "_law_at" (He.ga K "_law_at") ["_law_script", "_law_k"] (pr_l_at K) := by
  obtain ⟨_, F⟩ := hTx.fnF 37 s_l_at "_law_at" 146
  refine ⟨_, ?_, F.binds (ps := ["_law_script", "_law_k"]) fun _ _ _ _ _ _ us hl => match us, hl with | [_, _], _ => rfl, F.kp, hTx.gl 82⟩
  refine fn_dl F sc_l_at (fun _ _ _ _ h => q2_len h) (fun cdv A outer s H E hr => ⟨_, (pss_cons (ps_if (pt_cmpR op_lt (pv 1) (pe_callB (kx_len (K := K) rfl) (by rfl) (hTx.fr 1) (by decide +kernel) (pa_cons (pv 0) pa_nil)) (nomark _))
    (pss_one (ps_ret (pe_ix (kx_ixL (K := K) rfl) (pv 0) (pv 1) (fun _ _ => rfl))))
    pss_nil)
    (pss_one (ps_ret pe_int))), ?_⟩)
  try dsimp only [cx_K, cx_nK]
  rintro _ M nx xe ⟨x, y, rfl, ns, k, rfl, rfl, h0, kk⟩
  refine s_seq (s_if (et_test (ev_B0 (ev_var rfl) (ev_len (ev_var rfl) IsL.f.q))) (fun hb => ?_) (fun hb => ?_))
  · have hk : k < ns.length := by simpa using hb
    refine s_ret ((ev_ixL (ev_var rfl) (ev_var rfl) .f (atI_int h0 hk)).w ?_)
    have e : atM ns k = ns.getD k.toNat 0 := if_pos hk
    rw [← e]
    exact kk
  · have hk : ¬ k < ns.length := by simpa using hb
    refine s_next (s_ret (ev_int.w ?_))
    have e : atM ns k = 0 := if_neg hk
    rw [← e]
    exact kk

/-- a deed that goes: the rows, the next number, the orders behind it -/
inductive ActGood (M : Mp) (T : Tb) : Int → D → D → Th → Int → List (List Int) → Prop
  | mk {w : Int} {y : D} (h0 : 0 < w) (h1 : w ≤ 6) : ActGood M T 0 (.int w) y T.th T.made (T.ks.map (·.cols))
  | put {x y : D} {r : List Int} (hq : IsQ M x (r.map .int)) (hd : ∀ z ∈ T.adr, x ≠ .ref z) (hr : (r.length : Int) = T.w) (hl : T.th.length < 200) : ActGood M T 1 x y (T.th ++ [(T.made, r)]) (T.made + 1) (T.ks.map (·.cols))
  | tell {y : D} {cols : List Int} (hc : ColOk cols T.w) (hn : cols ∉ T.ks.map (·.cols)) (hl : T.ks.length < 8) : ActGood M T 2 (ordD cols) y T.th T.made (T.ks.map (·.cols) ++ [cols])
  | forget {y : D} {i : Nat} {k : Kr} (hk : T.ks[i]? = some k) : ActGood M T 3 (ordD k.cols) y T.th T.made ((T.ks.map (·.cols)).eraseIdx i)
  | listed {y : D} {i : Nat} {k : Kr} (hk : T.ks[i]? = some k) : ActGood M T 4 (ordD k.cols) y T.th T.made (T.ks.map (·.cols))
  | ask {kind : Int} {x y : D} {wish : List Tr} (hk : kind = 5 ∨ kind = 6 ∨ kind = 7) (hx : IsM M x (wish.map tD)) (hw : WishOk T.w wish) : ActGood M T kind x y T.th T.made (T.ks.map (·.cols))
  | walk {kind : Int} {x : D} {way : Option (List Int)} {wish : List Tr} (hk : kind = 8 ∨ kind = 9) (hy : WayOk T way) (hx : IsM M x (wish.map tD)) (hw : WishOk T.w wish) : ActGood M T kind x (wayD way) T.th T.made (T.ks.map (·.cols))
  | change {y : D} {n c v : Int} {r : List Int} (hr : thGet T.th n = some r) (h0 : 0 ≤ c) (h1 : c < T.w) : ActGood M T 10 (.tup [.int n, .int c, .int v]) y (thPut T.th n (r.set c.toNat v)) T.made (T.ks.map (·.cols))
  | drop {y d e : D} {n : Int} {r : List Int} (hr : thGet T.th n = some r) : ActGood M T 11 (.tup [.int n, d, e]) y (thDrop T.th n) T.made (T.ks.map (·.cols))
theorem TStep.same {K : PySem.W.Frag} {M M' : Mp} {T : Tb} (hT : TabAt K M T) (hO : TabOk T) (s : Sub M M') : TStep K M M' T T T.th T.made (T.ks.map (·.cols)) :=
  ⟨hT.sub s, hO, rfl, rfl, rfl, rfl, rfl, Frame.of_sub s, fun _ h => .inl h⟩
def pr_l_act (K : PySem.W.Frag) : Pr := q4 fun x y z u M nx _ => ∃ (T : Tb) (kind : Int) (th : Th) (made : Int) (os : List (List Int)), x = .ref T.p ∧ y = .int kind ∧ TabAt K M T ∧ TabOk T ∧ ActGood M T kind z u th made os ∧ ∀ M' T', TStep K M M' T T' th made os → nx .non M'
section
variable {J : Jx} {ta tb tc td : TE} {ρ : Ro} {M : Mp} {E : XK} {z u : D} {R : D → Mp → Prop}
theorem w_l_act {T : Tb} {kind : Int} {th : Th} {made : Int} {os : List (List Int)} (h1 : Ev J ta ρ M (.ref T.p)) (h2 : Ev J tb ρ M (.int kind)) (h3 : Ev J tc ρ M z) (h4 : Ev J td ρ M u) (hT : TabAt J.K M T) (hO : TabOk T) (hg : ActGood M T kind z u th made os) (k : ∀ M' T', TStep J.K M M' T T' th made os → R .non M') : W J (tCall (spD J.K (pr_l_act J.K)) [] E (tCons ta (tCons tb (tCons tc (tCons td tNil))))) ρ M R :=
  w_call ((ea_cons h1 (ea_cons h2 (ea_cons h3 (ea_cons h4 ea_nil)))).w ⟨_, _, _, _, rfl, T, kind, th, made, os, rfl, rfl, hT, hO, hg, k⟩)
end
abbrev nm_l_act : List Str := ["_law_table", "_law_kind", "_law_thing", "_law_way"]
theorem sc_l_act : FnScope nm_l_act ["_law_table", "_law_kind", "_law_thing", "_law_way"] (defScope s_l_act) := ⟨rfl, rfl, rfl, by decide +kernel, rfl, by decide +kernel, by decide +kernel⟩
theorem ok_l_act (hTx : Tx K mg) : OkF P w K mg base CX0 8 "_law_act" (He.ga K "_law_act") ["_law_table", "_law_kind", "_law_thing", "_law_way"] (pr_l_act K) := by
  obtain ⟨_, G_Table_init, b_Table_init⟩ := ok_Table_init (P := P) (w := w) (base := base) hTx
  obtain ⟨_, G_Table_put, b_Table_put⟩ := ok_Table_put (P := P) (w := w) (base := base) hTx
  obtain ⟨_, G_Table_tell, b_Table_tell⟩ := ok_Table_tell (P := P) (w := w) (base := base) hTx
  obtain ⟨_, G_Table_forget, b_Table_forget⟩ := ok_Table_forget (P := P) (w := w) (base := base) hTx
  obtain ⟨_, G_Table_listed, b_Table_listed⟩ := ok_Table_listed (P := P) (w := w) (base := base) hTx
  obtain ⟨_, G_Table_costs, b_Table_costs⟩ := ok_Table_costs (P := P) (w := w) (base := base) hTx
  obtain ⟨_, G_Table_plan, b_Table_plan⟩ := ok_Table_plan (P := P) (w := w) (base := base) hTx
  obtain ⟨_, G_Table_ask, b_Table_ask⟩ := ok_Table_ask (P := P) (w := w) (base := base) hTx
  obtain ⟨_, G_Table_walked, b_Table_walked⟩ := ok_Table_walked (P := P) (w := w) (base := base) hTx
  obtain ⟨_, G_Table_ask_by, b_Table_ask_by⟩ := ok_Table_ask_by (P := P) (w := w) (base := base) hTx
  obtain ⟨_, G_Table_change, b_Table_change⟩ := ok_Table_change (P := P) (w := w) (base := base) hTx
  obtain ⟨_, G_Table_drop, b_Table_drop⟩ := ok_Table_drop (P := P) (w := w) (base := base) hTx
  obtain ⟨_, F⟩ := hTx.fnF 38 s_l_act "_law_act" 147
  refine ⟨_, ?_, F.binds (ps := ["_law_table", "_law_kind", "_law_thing", "_law_way"]) fun _ _ _ _ _ _ us hl => match us, hl with | [_, _, _, _], _ => rfl, F.kp, hTx.gl 83⟩
  refine fn_dl F sc_l_act (fun _ _ _ _ h => q4_len h) (fun cdv A outer s H E hr => ⟨_, (pss_one (ps_if (pt_cmpR op_eq (pv 1) pe_int (nomark _))
    (pss_one (ps_expr (pe_make (hTx.mr 50) G_Table_init (hr.mono (by decide)) rfl (hTx.gl 51) b_Table_init .nil pass0 (pa_cons (pv 2) pa_nil))))
    (pss_one (ps_if (pt_cmpR op_eq (pv 1) pe_int (nomark _))
    (pss_one (ps_expr (pe_meth (pv 0) (hTx.cl 27) (hTx.me 52) G_Table_put (hr.mono (by decide)) b_Table_put .nil pass0 (pa_cons (pv 2) pa_nil))))
    (pss_one (ps_if (pt_cmpR op_eq (pv 1) pe_int (nomark _))
    (pss_one (ps_expr (pe_meth (pv 0) (hTx.cl 27) (hTx.me 53) G_Table_tell (hr.mono (by decide)) b_Table_tell .nil pass0 (pa_cons (pv 2) pa_nil))))
    (pss_one (ps_if (pt_cmpR op_eq (pv 1) pe_int (nomark _))
    (pss_one (ps_expr (pe_meth (pv 0) (hTx.cl 27) (hTx.me 54) G_Table_forget (hr.mono (by decide)) b_Table_forget .nil pass0 (pa_cons (pv 2) pa_nil))))
    (pss_one (ps_if (pt_cmpR op_eq (pv 1) pe_int (nomark _))
    (pss_one (ps_expr (pe_meth (pv 0) (hTx.cl 27) (hTx.me 55) G_Table_listed (hr.mono (by decide)) b_Table_listed .nil pass0 (pa_cons (pv 2) pa_nil))))
    (pss_one (ps_if (pt_cmpR op_eq (pv 1) pe_int (nomark _))
    (pss_one (ps_expr (pe_meth (pv 0) (hTx.cl 27) (hTx.me 46) G_Table_costs (hr.mono (by decide)) b_Table_costs .nil pass0 (pa_cons (pv 2) pa_nil))))
    (pss_one (ps_if (pt_cmpR op_eq (pv 1) pe_int (nomark _))
    (pss_one (ps_expr (pe_meth (pv 0) (hTx.cl 27) (hTx.me 48) G_Table_plan (hr.mono (by decide)) b_Table_plan .nil pass0 (pa_cons (pv 2) pa_nil))))
    (pss_one (ps_if (pt_cmpR op_eq (pv 1) pe_int (nomark _))
    (pss_one (ps_expr (pe_meth (pv 0) (hTx.cl 27) (hTx.me 56) G_Table_ask (hr.mono (by decide)) b_Table_ask .nil pass0 (pa_cons (pv 2) pa_nil))))
    (pss_one (ps_if (pt_cmpR op_eq (pv 1) pe_int (nomark _))
    (pss_one (ps_expr (pe_meth (pv 0) (hTx.cl 27) (hTx.me 47) G_Table_walked (hr.mono (by decide)) b_Table_walked .nil pass0 (pa_cons (pv 3) (pa_cons (pv 2) pa_nil)))))
    (pss_one (ps_if (pt_cmpR op_eq (pv 1) pe_int (nomark _))
    (pss_one (ps_expr (pe_meth (pv 0) (hTx.cl 27) (hTx.me 49) G_Table_ask_by (hr.mono (by decide)) b_Table_ask_by .nil pass0 (pa_cons (pv 3) (pa_cons (pv 2) pa_nil)))))
    (pss_one (ps_if (pt_cmpR op_eq (pv 1) pe_int (nomark _))
    (pss_one (ps_expr (pe_meth (pv 0) (hTx.cl 27) (hTx.me 57) G_Table_change (hr.mono (by decide)) b_Table_change .nil pass0 (pa_cons (pe_ix (kx_ixT (K := K) rfl) (pv 2) pe_int (fun _ _ => rfl)) (pa_cons (pe_ix (kx_ixT (K := K) rfl) (pv 2) pe_int (fun _ _ => rfl)) (pa_cons (pe_ix (kx_ixT (K := K) rfl) (pv 2) pe_int (fun _ _ => rfl)) pa_nil))))))
    (pss_one (ps_expr (pe_meth (pv 0) (hTx.cl 27) (hTx.me 58) G_Table_drop (hr.mono (by decide)) b_Table_drop .nil pass0 (pa_cons (pe_ix (kx_ixT (K := K) rfl) (pv 2) pe_int (fun _ _ => rfl)) pa_nil)))))))))))))))))))))))))), ?_⟩)
  try dsimp only [cx_K, cx_nK]
  rintro _ M nx xe ⟨_, _, z, u, rfl, T, kind, th, made, os, rfl, rfl, hT, hO, hg, k⟩
  show S (J0 K) _ [some (.ref T.p), some (.int kind), some z, some u] M _
  have no : ∀ {ρ' : Ro} {i j : Int} {t1 t2 : TS} {P : Po} (_ : ρ'[1]? = some (some (.int i))) (_ : i ≠ j) (_ : S (J0 K) t2 ρ' M P), S (J0 K) (tIfS (tTest (tOp rEq (tVar 1) (tC (.int j)))) t1 t2) ρ' M P := fun h n s => s_if (b := false) ((et_test (ev_eqI (ev_var h) ev_int)).is (decide_eq_false n)) (fun z => nomatch z) (fun _ => s)
  have yes : ∀ {ρ' : Ro} {i : Int} {t1 t2 : TS} {P : Po} (_ : ρ'[1]? = some (some (.int i))) (_ : S (J0 K) t1 ρ' M P), S (J0 K) (tIfS (tTest (tOp rEq (tVar 1) (tC (.int i)))) t1 t2) ρ' M P := fun h s => s_if (b := true) ((et_test (ev_eqI (ev_var h) ev_int)).is (by simp)) (fun _ => s) (fun z => nomatch z)
  have same : ∀ M', Sub M M' → TStep K M M' T T T.th T.made (T.ks.map (·.cols)) := fun M' s => TStep.same hT hO s
  cases hg with
  | @mk w y h0 h1 =>
    refine yes rfl (s_drop (w_make (ea_cons (ev_var rfl) ea_nil) fun p hp => ⟨_, _, rfl, p, w, rfl, rfl, h0, h1, ud_same, fun M3 hd kl h1 h2 h3 h4 h5 h6 _ => ⟨rfl, ?_⟩⟩))
    exact k M3 T (same M3 fun a o e => h6 a o (ne_old e hp) (by rw [ud_ne (ne_old e hp)]; exact e))
  | @put x y r hq hd hr hl =>
    iterate 1 refine no rfl (by decide) ?_
    exact yes rfl (s_drop (w_Table_put (T := T) (r := r) (ev_var rfl) (ev_var rfl) hq hd hT hO hr hl fun M' st => k M' _ st))
  | @tell y cols hc hn hl =>
    iterate 2 refine no rfl (by decide) ?_
    exact yes rfl (s_drop (w_Table_tell (T := T) (cols := cols) (ev_var rfl) (ev_var rfl) hT hO hc hn hl k))
  | @forget y i q hk =>
    iterate 3 refine no rfl (by decide) ?_
    exact yes rfl (s_drop (w_meth0 (a := T.p) (ev_var rfl) hT.ob (tf_no (by decide +kernel) (by decide +kernel) (by decide +kernel) (by decide +kernel)) (ea_cons (ev_var rfl) ea_nil) ⟨_, _, rfl, T, i, q, rfl, rfl, hT, hO, hk, fun M' st => k M' _ st⟩))
  | @listed y i q hk =>
    iterate 4 refine no rfl (by decide) ?_
    exact yes rfl (s_drop ((en_Table_listed (T := T) (i := i) (k := q) (ev_var rfl) hT hO (ev_var rfl) hk).w fun q hq => k _ T (same _ (Sub.new hq))))
  | @ask kind x y wish hk hx hw =>
    rcases hk with rfl | rfl | rfl
    · iterate 5 refine no rfl (by decide) ?_
      exact yes rfl (s_drop ((en_Table_costs (T := T) (wish := wish) (ev_var rfl) (ev_var rfl) hT hO hx hw).w fun q hq => k _ T (same _ (Sub.new hq))))
    · iterate 6 refine no rfl (by decide) ?_
      exact yes rfl (s_drop ((ev_Table_plan (T := T) (wish := wish) (ev_var rfl) (ev_var rfl) hT hO hx hw).w (k _ T (same _ (Sub.refl _)))))
    · iterate 7 refine no rfl (by decide) ?_
      exact yes rfl (s_drop ((en_Table_ask (T := T) (wish := wish) (ev_var rfl) (ev_var rfl) hT hO hx hw).w fun q hq => k _ T (same _ (Sub.new hq))))
  | @walk kind x way wish hk hy hx hw =>
    rcases hk with rfl | rfl
    · iterate 8 refine no rfl (by decide) ?_
      exact yes rfl (s_drop ((en_Table_walked (T := T) (way := way) (wish := wish) (ev_var rfl) (ev_var rfl) (ev_var rfl) hT hO hy hx hw).w fun q hq => k _ T (same _ (Sub.new hq))))
    · iterate 9 refine no rfl (by decide) ?_
      exact yes rfl (s_drop ((en_Table_ask_by (T := T) (way := way) (wish := wish) (ev_var rfl) (ev_var rfl) (ev_var rfl) hT hO hy hx hw).w fun q hq => k _ T (same _ (Sub.new hq))))
  | @change y n c v r hr h0 h1 =>
    iterate 10 refine no rfl (by decide) ?_
    exact yes rfl (s_drop (w_Table_change (T := T) (n := n) (r := r) (col := c) (v := v) (ev_var rfl) (ev_ixT (ds := [.int n, .int c, .int v]) (ev_var rfl) ev_int rfl) (ev_ixT (ds := [.int n, .int c, .int v]) (ev_var rfl) ev_int rfl) (ev_ixT (ds := [.int n, .int c, .int v]) (ev_var rfl) ev_int rfl) hT hO hr h0 h1 fun M' st => k M' _ st))
  | @drop y d e n r hr =>
    iterate 11 refine no rfl (by decide) ?_
    exact s_drop (w_Table_drop (T := T) (n := n) (r := r) (ev_var rfl) (ev_ixT (ds := [.int n, d, e]) (ev_var rfl) ev_int rfl) hT hO hr fun M' st => k M' _ st)

/-- a deed that is refused -/
inductive ActBad (M : Mp) (T : Tb) : Int → D → D → Str → Prop
  | mk {x y : D} (h : WidBad M x) : ActBad M T 0 x y "BadWidth"
  | row {x y : D} (h : RowBad M T.w x) : ActBad M T 1 x y "BadRow"
  | full {x y : D} {r : List Int} (hq : IsQ M x (r.map .int)) (hr : (r.length : Int) = T.w) (hl : T.th.length = 200) : ActBad M T 1 x y "Full"
  | tell {x y : D} (h : TellBad M T x) : ActBad M T 2 x y "BadOrder"
  | way {kind : Int} {x y : D} (hk : kind = 3 ∨ kind = 4) (h : WayBad M T x) : ActBad M T kind x y "BadOrder"
  | wish {kind : Int} {x y : D} (hk : kind = 5 ∨ kind = 6 ∨ kind = 7) (h : WishBad M T.w x) : ActBad M T kind x y "BadWish"
  | walkO {kind : Int} {x y : D} (hk : kind = 8 ∨ kind = 9) (hy : y ≠ .non) (h : WayBad M T y) : ActBad M T kind x y "BadOrder"
  | walkW {kind : Int} {x : D} {way : Option (List Int)} (hk : kind = 8 ∨ kind = 9) (hy : WayOk T way) (h : WishBad M T.w x) : ActBad M T kind x (wayD way) "BadWish"
  | chR {c d e y : D} (ht : tyN M c ≠ "") (h : RowNo T c) : ActBad M T 10 (.tup [c, d, e]) y "NoRow"
  | chC {d e y : D} {n : Int} {r : List Int} (hr : thGet T.th n = some r) (ht : tyN M d ≠ "") (h : ColNo T d) : ActBad M T 10 (.tup [.int n, d, e]) y "BadColumn"
  | chV {e y : D} {n m : Int} {r : List Int} (hr : thGet T.th n = some r) (h0 : 0 ≤ m) (h1 : m < T.w) (ht : tyN M e ≠ "") (h : wholeD e = false) : ActBad M T 10 (.tup [.int n, .int m, e]) y "BadRow"
  | drop {c d e y : D} (ht : tyN M c ≠ "") (h : RowNo T c) : ActBad M T 11 (.tup [c, d, e]) y "NoRow"
def pr_l_act_x (K : PySem.W.Frag) : Pr := q4 fun x y z u M _ xe => ∃ (T : Tb) (kind : Int) (cls : Str), x = .ref T.p ∧ y = .int kind ∧ TabAt K M T ∧ TabOk T ∧ ActBad M T kind z u cls ∧ xe (He.ga K cls) M
theorem ok_l_act_x (hTx : Tx K mg) : OkF P w K mg base (L2.CX P w) 8 "_law_act" (He.ga K "_law_act") ["_law_table", "_law_kind", "_law_thing", "_law_way"] (pr_l_act_x K) := by
  obtain ⟨_, G_Table_init, b_Table_init⟩ := ok_Table_init (P := P) (w := w) (base := base) hTx
  obtain ⟨_, G_Table_init_x, b_Table_init_x⟩ := ok_Table_init_x (P := P) (w := w) (base := base) hTx
  obtain ⟨_, G_Table_put, b_Table_put⟩ := ok_Table_put (P := P) (w := w) (base := base) hTx
  obtain ⟨_, G_Table_put_x, b_Table_put_x⟩ := ok_Table_put_x (P := P) (w := w) (base := base) hTx
  obtain ⟨_, G_Table_tell, b_Table_tell⟩ := ok_Table_tell (P := P) (w := w) (base := base) hTx
  obtain ⟨_, G_Table_tell_x, b_Table_tell_x⟩ := ok_Table_tell_x (P := P) (w := w) (base := base) hTx
  obtain ⟨_, G_Table_forget, b_Table_forget⟩ := ok_Table_forget (P := P) (w := w) (base := base) hTx
  obtain ⟨_, G_Table_forget_x, b_Table_forget_x⟩ := ok_Table_forget_x (P := P) (w := w) (base := base) hTx
  obtain ⟨_, G_Table_listed, b_Table_listed⟩ := ok_Table_listed (P := P) (w := w) (base := base) hTx
  obtain ⟨_, G_Table_listed_x, b_Table_listed_x⟩ := ok_Table_listed_x (P := P) (w := w) (base := base) hTx
  obtain ⟨_, G_Table_costs, b_Table_costs⟩ := ok_Table_costs (P := P) (w := w) (base := base) hTx
  obtain ⟨_, G_Table_costs_x, b_Table_costs_x⟩ := ok_Table_costs_x (P := P) (w := w) (base := base) hTx
  obtain ⟨_, G_Table_plan, b_Table_plan⟩ := ok_Table_plan (P := P) (w := w) (base := base) hTx
  obtain ⟨_, G_Table_plan_x, b_Table_plan_x⟩ := ok_Table_plan_x (P := P) (w := w) (base := base) hTx
  obtain ⟨_, G_Table_ask, b_Table_ask⟩ := ok_Table_ask (P := P) (w := w) (base := base) hTx
  obtain ⟨_, G_Table_ask_x, b_Table_ask_x⟩ := ok_Table_ask_x (P := P) (w := w) (base := base) hTx
  obtain ⟨_, G_Table_walked, b_Table_walked⟩ := ok_Table_walked (P := P) (w := w) (base := base) hTx
  obtain ⟨_, G_Table_walked_x, b_Table_walked_x⟩ := ok_Table_walked_x (P := P) (w := w) (base := base) hTx
  obtain ⟨_, G_Table_ask_by, b_Table_ask_by⟩ := ok_Table_ask_by (P := P) (w := w) (base := base) hTx
  obtain ⟨_, G_Table_ask_by_x, b_Table_ask_by_x⟩ := ok_Table_ask_by_x (P := P) (w := w) (base := base) hTx
  obtain ⟨_, G_Table_change, b_Table_change⟩ := ok_Table_change (P := P) (w := w) (base := base) hTx
  obtain ⟨_, G_Table_change_x, b_Table_change_x⟩ := ok_Table_change_x (P := P) (w := w) (base := base) hTx
  obtain ⟨_, G_Table_drop, b_Table_drop⟩ := ok_Table_drop (P := P) (w := w) (base := base) hTx
  obtain ⟨_, G_Table_drop_x, b_Table_drop_x⟩ := ok_Table_drop_x (P := P) (w := w) (base := base) hTx
  obtain ⟨_, F⟩ := hTx.fnF 38 s_l_act "_law_act" 147
  refine ⟨_, ?_, F.binds (ps := ["_law_table", "_law_kind", "_law_thing", "_law_way"]) fun _ _ _ _ _ _ us hl => match us, hl with | [_, _, _, _], _ => rfl, F.kp, hTx.gl 83⟩
  refine fn_dlX F sc_l_act (fun _ _ _ _ h => q4_len h) (fun cdv A outer s H E hr => ⟨_, (pss_one (ps_if (pt_cmpR op_eq (pv 1) pe_int (nomark _))
    (pss_one (ps_expr (pe_ei (pe_make (hTx.mr 50) G_Table_init (hr.mono (by decide)) rfl (hTx.gl 51) b_Table_init .nil pass0 (pa_cons (pv 2) pa_nil)) (pe_make (hTx.mr 50) G_Table_init_x (hr.mono (by decide)) rfl (hTx.gl 51) b_Table_init_x .nil (passes_call (takes_of rfl rfl rfl rfl) (fun _ _ _ _ z => z)) (pa_cons (pv 2) pa_nil)))))
    (pss_one (ps_if (pt_cmpR op_eq (pv 1) pe_int (nomark _))
    (pss_one (ps_expr (pe_ei (pe_meth (pv 0) (hTx.cl 27) (hTx.me 52) G_Table_put (hr.mono (by decide)) b_Table_put .nil pass0 (pa_cons (pv 2) pa_nil)) (pe_meth (pv 0) (hTx.cl 27) (hTx.me 52) G_Table_put_x (hr.mono (by decide)) b_Table_put_x .nil (passes_call (takes_of rfl rfl rfl rfl) (fun _ _ _ _ z => z)) (pa_cons (pv 2) pa_nil)))))
    (pss_one (ps_if (pt_cmpR op_eq (pv 1) pe_int (nomark _))
    (pss_one (ps_expr (pe_ei (pe_meth (pv 0) (hTx.cl 27) (hTx.me 53) G_Table_tell (hr.mono (by decide)) b_Table_tell .nil pass0 (pa_cons (pv 2) pa_nil)) (pe_meth (pv 0) (hTx.cl 27) (hTx.me 53) G_Table_tell_x (hr.mono (by decide)) b_Table_tell_x .nil (passes_call (takes_of rfl rfl rfl rfl) (fun _ _ _ _ z => z)) (pa_cons (pv 2) pa_nil)))))
    (pss_one (ps_if (pt_cmpR op_eq (pv 1) pe_int (nomark _))
    (pss_one (ps_expr (pe_ei (pe_meth (pv 0) (hTx.cl 27) (hTx.me 54) G_Table_forget (hr.mono (by decide)) b_Table_forget .nil pass0 (pa_cons (pv 2) pa_nil)) (pe_meth (pv 0) (hTx.cl 27) (hTx.me 54) G_Table_forget_x (hr.mono (by decide)) b_Table_forget_x .nil (passes_call (takes_of rfl rfl rfl rfl) (fun _ _ _ _ z => z)) (pa_cons (pv 2) pa_nil)))))
    (pss_one (ps_if (pt_cmpR op_eq (pv 1) pe_int (nomark _))
    (pss_one (ps_expr (pe_ei (pe_meth (pv 0) (hTx.cl 27) (hTx.me 55) G_Table_listed (hr.mono (by decide)) b_Table_listed .nil pass0 (pa_cons (pv 2) pa_nil)) (pe_meth (pv 0) (hTx.cl 27) (hTx.me 55) G_Table_listed_x (hr.mono (by decide)) b_Table_listed_x .nil (passes_call (takes_of rfl rfl rfl rfl) (fun _ _ _ _ z => z)) (pa_cons (pv 2) pa_nil)))))
    (pss_one (ps_if (pt_cmpR op_eq (pv 1) pe_int (nomark _))
    (pss_one (ps_expr (pe_ei (pe_meth (pv 0) (hTx.cl 27) (hTx.me 46) G_Table_costs (hr.mono (by decide)) b_Table_costs .nil pass0 (pa_cons (pv 2) pa_nil)) (pe_meth (pv 0) (hTx.cl 27) (hTx.me 46) G_Table_costs_x (hr.mono (by decide)) b_Table_costs_x .nil (passes_call (takes_of rfl rfl rfl rfl) (fun _ _ _ _ z => z)) (pa_cons (pv 2) pa_nil)))))
    (pss_one (ps_if (pt_cmpR op_eq (pv 1) pe_int (nomark _))
    (pss_one (ps_expr (pe_ei (pe_meth (pv 0) (hTx.cl 27) (hTx.me 48) G_Table_plan (hr.mono (by decide)) b_Table_plan .nil pass0 (pa_cons (pv 2) pa_nil)) (pe_meth (pv 0) (hTx.cl 27) (hTx.me 48) G_Table_plan_x (hr.mono (by decide)) b_Table_plan_x .nil (passes_call (takes_of rfl rfl rfl rfl) (fun _ _ _ _ z => z)) (pa_cons (pv 2) pa_nil)))))
    (pss_one (ps_if (pt_cmpR op_eq (pv 1) pe_int (nomark _))
    (pss_one (ps_expr (pe_ei (pe_meth (pv 0) (hTx.cl 27) (hTx.me 56) G_Table_ask (hr.mono (by decide)) b_Table_ask .nil pass0 (pa_cons (pv 2) pa_nil)) (pe_meth (pv 0) (hTx.cl 27) (hTx.me 56) G_Table_ask_x (hr.mono (by decide)) b_Table_ask_x .nil (passes_call (takes_of rfl rfl rfl rfl) (fun _ _ _ _ z => z)) (pa_cons (pv 2) pa_nil)))))
    (pss_one (ps_if (pt_cmpR op_eq (pv 1) pe_int (nomark _))
    (pss_one (ps_expr (pe_ei (pe_meth (pv 0) (hTx.cl 27) (hTx.me 47) G_Table_walked (hr.mono (by decide)) b_Table_walked .nil pass0 (pa_cons (pv 3) (pa_cons (pv 2) pa_nil))) (pe_meth (pv 0) (hTx.cl 27) (hTx.me 47) G_Table_walked_x (hr.mono (by decide)) b_Table_walked_x .nil (passes_call (takes_of rfl rfl rfl rfl) (fun _ _ _ _ z => z)) (pa_cons (pv 3) (pa_cons (pv 2) pa_nil))))))
    (pss_one (ps_if (pt_cmpR op_eq (pv 1) pe_int (nomark _))
    (pss_one (ps_expr (pe_ei (pe_meth (pv 0) (hTx.cl 27) (hTx.me 49) G_Table_ask_by (hr.mono (by decide)) b_Table_ask_by .nil pass0 (pa_cons (pv 3) (pa_cons (pv 2) pa_nil))) (pe_meth (pv 0) (hTx.cl 27) (hTx.me 49) G_Table_ask_by_x (hr.mono (by decide)) b_Table_ask_by_x .nil (passes_call (takes_of rfl rfl rfl rfl) (fun _ _ _ _ z => z)) (pa_cons (pv 3) (pa_cons (pv 2) pa_nil))))))
    (pss_one (ps_if (pt_cmpR op_eq (pv 1) pe_int (nomark _))
    (pss_one (ps_expr (pe_ei (pe_meth (pv 0) (hTx.cl 27) (hTx.me 57) G_Table_change (hr.mono (by decide)) b_Table_change .nil pass0 (pa_cons (pe_ix (kx_ixT (K := K) rfl) (pv 2) pe_int (fun _ _ => rfl)) (pa_cons (pe_ix (kx_ixT (K := K) rfl) (pv 2) pe_int (fun _ _ => rfl)) (pa_cons (pe_ix (kx_ixT (K := K) rfl) (pv 2) pe_int (fun _ _ => rfl)) pa_nil)))) (pe_meth (pv 0) (hTx.cl 27) (hTx.me 57) G_Table_change_x (hr.mono (by decide)) b_Table_change_x .nil (passes_call (takes_of rfl rfl rfl rfl) (fun _ _ _ _ z => z)) (pa_cons (pe_ix (kx_ixT (K := K) rfl) (pv 2) pe_int (fun _ _ => rfl)) (pa_cons (pe_ix (kx_ixT (K := K) rfl) (pv 2) pe_int (fun _ _ => rfl)) (pa_cons (pe_ix (kx_ixT (K := K) rfl) (pv 2) pe_int (fun _ _ => rfl)) pa_nil)))))))
    (pss_one (ps_expr (pe_ei (pe_meth (pv 0) (hTx.cl 27) (hTx.me 58) G_Table_drop (hr.mono (by decide)) b_Table_drop .nil pass0 (pa_cons (pe_ix (kx_ixT (K := K) rfl) (pv 2) pe_int (fun _ _ => rfl)) pa_nil)) (pe_meth (pv 0) (hTx.cl 27) (hTx.me 58) G_Table_drop_x (hr.mono (by decide)) b_Table_drop_x .nil (passes_call (takes_of rfl rfl rfl rfl) (fun _ _ _ _ z => z)) (pa_cons (pe_ix (kx_ixT (K := K) rfl) (pv 2) pe_int (fun _ _ => rfl)) pa_nil))))))))))))))))))))))))))), ?_⟩)
  try dsimp only [cx_K, cx_nK]
  rintro _ M nx xe ⟨_, _, z, u, rfl, T, kind, cls, rfl, rfl, hT, hO, hb, hx⟩
  show S (JX K E xe) _ [some (.ref T.p), some (.int kind), some z, some u] M _
  have no : ∀ {ρ' : Ro} {i j : Int} {t1 t2 : TS} {P : Po} (_ : ρ'[1]? = some (some (.int i))) (_ : i ≠ j) (_ : S (JX K E xe) t2 ρ' M P), S (JX K E xe) (tIfS (tTest (tOp rEq (tVar 1) (tC (.int j)))) t1 t2) ρ' M P := fun h n s => s_if (b := false) ((et_test (ev_eqI (ev_var h) ev_int)).is (decide_eq_false n)) (fun z => nomatch z) (fun _ => s)
  have yes : ∀ {ρ' : Ro} {i : Int} {t1 t2 : TS} {P : Po} (_ : ρ'[1]? = some (some (.int i))) (_ : S (JX K E xe) t1 ρ' M P), S (JX K E xe) (tIfS (tTest (tOp rEq (tVar 1) (tC (.int i)))) t1 t2) ρ' M P := fun h s => s_if (b := true) ((et_test (ev_eqI (ev_var h) ev_int)).is (by simp)) (fun _ => s) (fun z => nomatch z)
  have ix : ∀ {ρ' : Ro} {c d e : D} (_ : ρ'[2]? = some (some (.tup [c, d, e]))) (j : Int) (z : D) (_ : atI [c, d, e] j = some z), Ev (JX K E xe) (tOp (rIxT K) (tVar 2) (tC (.int j))) ρ' M z := fun h j z hj => ev_ixT (ev_var h) ev_int hj
  cases hb with
  | mk h => exact yes rfl (s_drop (w_ei2 (w_makeXw (ea_cons (ev_var rfl) ea_nil) fun p hp => ⟨_, _, rfl, p, rfl, ⟨tyN_sub (Sub.new hp) h.1, h.2⟩, M, Sub.new hp, hx⟩)))
  | row h =>
    iterate 1 refine no rfl (by decide) ?_
    exact yes rfl (s_drop (w_ei2 (w_methX (ev_var rfl) hT.ob (tf_no (by decide +kernel) (by decide +kernel) (by decide +kernel) (by decide +kernel)) (ea_cons (ev_var rfl) ea_nil) ⟨_, _, rfl, T, rfl, hT, .inl ⟨h, hx⟩⟩)))
  | full hq hr hl =>
    iterate 1 refine no rfl (by decide) ?_
    exact yes rfl (s_drop (w_ei2 (w_methX (ev_var rfl) hT.ob (tf_no (by decide +kernel) (by decide +kernel) (by decide +kernel) (by decide +kernel)) (ea_cons (ev_var rfl) ea_nil) ⟨_, _, rfl, T, rfl, hT, .inr ⟨_, hq, hr, hl, hx⟩⟩)))
  | tell h =>
    iterate 2 refine no rfl (by decide) ?_
    exact yes rfl (s_drop (w_ei2 (w_methX (ev_var rfl) hT.ob (tf_no (by decide +kernel) (by decide +kernel) (by decide +kernel) (by decide +kernel)) (ea_cons (ev_var rfl) ea_nil) ⟨_, _, rfl, T, rfl, hT, hO, h, hx⟩)))
  | way hk h =>
    rcases hk with rfl | rfl
    · iterate 3 refine no rfl (by decide) ?_
      exact yes rfl (s_drop (w_ei2 (w_methX (ev_var rfl) hT.ob (tf_no (by decide +kernel) (by decide +kernel) (by decide +kernel) (by decide +kernel)) (ea_cons (ev_var rfl) ea_nil) ⟨_, _, rfl, T, rfl, hT, hO, h, hx⟩)))
    · iterate 4 refine no rfl (by decide) ?_
      exact yes rfl (s_drop (w_ei2 (w_methX (ev_var rfl) hT.ob (tf_no (by decide +kernel) (by decide +kernel) (by decide +kernel) (by decide +kernel)) (ea_cons (ev_var rfl) ea_nil) ⟨_, _, rfl, T, rfl, hT, hO, h, hx⟩)))
  | wish hk h =>
    rcases hk with rfl | rfl | rfl
    · iterate 5 refine no rfl (by decide) ?_
      exact yes rfl (s_drop (w_ei2 (w_Table_costs_x (T := T) (ev_var rfl) hT (ev_var rfl) h hx)))
    · iterate 6 refine no rfl (by decide) ?_
      exact yes rfl (s_drop (w_ei2 (w_Table_plan_x (T := T) (ev_var rfl) hT (ev_var rfl) h hx)))
    · iterate 7 refine no rfl (by decide) ?_
      exact yes rfl (s_drop (w_ei2 (w_methX (ev_var rfl) hT.ob (tf_no (by decide +kernel) (by decide +kernel) (by decide +kernel) (by decide +kernel)) (ea_cons (ev_var rfl) ea_nil) ⟨_, _, rfl, T, rfl, hT, h, hx⟩)))
  | walkO hk hy h =>
    rcases hk with rfl | rfl
    · iterate 8 refine no rfl (by decide) ?_
      exact yes rfl (s_drop (w_ei2 (w_Table_walked_x (T := T) (ev_var rfl) hT hO (ev_var rfl) (ev_var rfl) (.inl ⟨hy, h, hx⟩))))
    · iterate 9 refine no rfl (by decide) ?_
      exact yes rfl (s_drop (w_ei2 (w_methX (ev_var rfl) hT.ob (tf_no (by decide +kernel) (by decide +kernel) (by decide +kernel) (by decide +kernel)) (ea_cons (ev_var rfl) (ea_cons (ev_var rfl) ea_nil)) ⟨_, _, _, rfl, T, rfl, hT, hO, .inl ⟨hy, h, hx⟩⟩)))
  | walkW hk hy h =>
    rcases hk with rfl | rfl
    · iterate 8 refine no rfl (by decide) ?_
      exact yes rfl (s_drop (w_ei2 (w_Table_walked_x (T := T) (ev_var rfl) hT hO (ev_var rfl) (ev_var rfl) (.inr ⟨_, rfl, hy, h, hx⟩))))
    · iterate 9 refine no rfl (by decide) ?_
      exact yes rfl (s_drop (w_ei2 (w_methX (ev_var rfl) hT.ob (tf_no (by decide +kernel) (by decide +kernel) (by decide +kernel) (by decide +kernel)) (ea_cons (ev_var rfl) (ea_cons (ev_var rfl) ea_nil)) ⟨_, _, _, rfl, T, rfl, hT, hO, .inr ⟨_, rfl, hy, h, hx⟩⟩)))
  | chR ht h =>
    iterate 10 refine no rfl (by decide) ?_
    exact yes rfl (s_drop (w_ei2 (w_methX (ev_var rfl) hT.ob (tf_no (by decide +kernel) (by decide +kernel) (by decide +kernel) (by decide +kernel)) (ea_cons (ix rfl 0 _ rfl) (ea_cons (ix rfl 1 _ rfl) (ea_cons (ix rfl 2 _ rfl) ea_nil))) ⟨_, _, _, _, rfl, T, rfl, hT, .inl ⟨ht, h, hx⟩⟩)))
  | chC hr ht h =>
    iterate 10 refine no rfl (by decide) ?_
    exact yes rfl (s_drop (w_ei2 (w_methX (ev_var rfl) hT.ob (tf_no (by decide +kernel) (by decide +kernel) (by decide +kernel) (by decide +kernel)) (ea_cons (ix rfl 0 _ rfl) (ea_cons (ix rfl 1 _ rfl) (ea_cons (ix rfl 2 _ rfl) ea_nil))) ⟨_, _, _, _, rfl, T, rfl, hT, .inr ⟨_, _, rfl, hr, .inl ⟨ht, h, hx⟩⟩⟩)))
  | chV hr h0 h1 ht h =>
    iterate 10 refine no rfl (by decide) ?_
    exact yes rfl (s_drop (w_ei2 (w_methX (ev_var rfl) hT.ob (tf_no (by decide +kernel) (by decide +kernel) (by decide +kernel) (by decide +kernel)) (ea_cons (ix rfl 0 _ rfl) (ea_cons (ix rfl 1 _ rfl) (ea_cons (ix rfl 2 _ rfl) ea_nil))) ⟨_, _, _, _, rfl, T, rfl, hT, .inr ⟨_, _, rfl, hr, .inr ⟨_, rfl, h0, h1, ht, h, hx⟩⟩⟩)))
  | drop ht h =>
    iterate 11 refine no rfl (by decide) ?_
    exact s_drop (w_ei2 (w_methX (ev_var rfl) hT.ob (tf_no (by decide +kernel) (by decide +kernel) (by decide +kernel) (by decide +kernel)) (ea_cons (ix rfl 0 _ rfl) ea_nil) ⟨_, _, rfl, T, rfl, hT, ht, h, hx⟩))

/-- what is said of what is raised -/
inductive Wd : Str → Str → Prop
  | w0 : Wd "BadWidth" "bad width"
  | w1 : Wd "BadRow" "bad row"
  | w2 : Wd "Full" "full"
  | w3 : Wd "BadOrder" "bad order"
  | w4 : Wd "BadWish" "bad wish"
  | w5 : Wd "NoRow" "no row"
  | w6 : Wd "BadColumn" "bad column"
theorem Wd.ne {c w : Str} (h : Wd c w) : decide (w = "given") = false := by cases h <;> decide +kernel
def SaidK (K : PySem.W.Frag) (M : Mp) (T : Tb) (kind : Int) (z u : D) (R : Str → Mp → Prop) : Prop :=
  (∃ th made os, ActGood M T kind z u th made os ∧ ∀ M' T', TStep K M M' T T' th made os → R "given" M') ∨ ∃ cls wd, ActBad M T kind z u cls ∧ Wd cls wd ∧ R wd M
def pr_l_said (K : PySem.W.Frag) : Pr := q4 fun x y z u M nx _ => ∃ (T : Tb) (kind : Int), x = .ref T.p ∧ y = .int kind ∧ TabAt K M T ∧ TabOk T ∧ SaidK K M T kind z u fun w M' => nx (.str w) M'
section
variable {J : Jx} {ta tb tc td : TE} {ρ : Ro} {M : Mp} {E : XK} {z u : D} {R : D → Mp → Prop}
theorem w_l_said {T : Tb} {kind : Int} (h1 : Ev J ta ρ M (.ref T.p)) (h2 : Ev J tb ρ M (.int kind)) (h3 : Ev J tc ρ M z) (h4 : Ev J td ρ M u) (hT : TabAt J.K M T) (hO : TabOk T) (k : SaidK J.K M T kind z u fun w M' => R (.str w) M') : W J (tCall (spD J.K (pr_l_said J.K)) [] E (tCons ta (tCons tb (tCons tc (tCons td tNil))))) ρ M R :=
  w_call ((ea_cons h1 (ea_cons h2 (ea_cons h3 (ea_cons h4 ea_nil)))).w ⟨_, _, _, _, rfl, T, kind, rfl, rfl, hT, hO, k⟩)
end
abbrev nm_l_said : List Str := ["_law_table", "_law_kind", "_law_thing", "_law_way"]
theorem sc_l_said : FnScope nm_l_said ["_law_table", "_law_kind", "_law_thing", "_law_way"] (defScope s_l_said) := ⟨rfl, rfl, rfl, by decide +kernel, rfl, by decide +kernel, by decide +kernel⟩
theorem ok_l_said (hTx : Tx K mg) : OkF P w K mg base CX0 9 "_law_said" (He.ga K "_law_said") ["_law_table", "_law_kind", "_law_thing", "_law_way"] (pr_l_said K) := by
  obtain ⟨_, G_l_act, b_l_act, k_l_act, g_l_act⟩ := ok_l_act (P := P) (w := w) (base := base) hTx
  obtain ⟨_, G_l_act_x, b_l_act_x, k_l_act_x, g_l_act_x⟩ := ok_l_act_x (P := P) (w := w) (base := base) hTx
  obtain ⟨_, F⟩ := hTx.fnF 39 s_l_said "_law_said" 148
  refine ⟨_, ?_, F.binds (ps := ["_law_table", "_law_kind", "_law_thing", "_law_way"]) fun _ _ _ _ _ _ us hl => match us, hl with | [_, _, _, _], _ => rfl, F.kp, hTx.gl 112⟩
  refine fn_dl F sc_l_said (fun _ _ _ _ h => q4_len h) (fun cdv A outer s H E hr => ⟨_, (pss_cons (ps_tryM (K := K) rfl rfl rfl takes0 (fun W pn xe tk po => (pss_one (ps_expr (pe_ei (pe_call G_l_act (hr.mono (by decide)) rfl g_l_act k_l_act b_l_act .nil pass0 (pa_cons (pv 0) (pa_cons (pv 1) (pa_cons (pv 2) (pa_cons (pv 3) pa_nil))))) (pe_callS G_l_act_x (hr.mono (by decide)) rfl g_l_act_x k_l_act_x b_l_act_x (fun σ => passAt tk σ) (pa_cons (pv 0) (pa_cons (pv 1) (pa_cons (pv 2) (pa_cons (pv 3) pa_nil)))))))))
    (HdsOk.cons ⟨by rfl, by decide, .inl (hTx.gl 18)⟩ (fun a oe cls d pn hz hf => (pss_one (ps_ret pe_str))) (HdsOk.cons ⟨by rfl, by decide, .inl (hTx.gl 22)⟩ (fun a oe cls d pn hz hf => (pss_one (ps_ret pe_str))) (HdsOk.cons ⟨by rfl, by decide, .inl (hTx.gl 25)⟩ (fun a oe cls d pn hz hf => (pss_one (ps_ret pe_str))) (HdsOk.cons ⟨by rfl, by decide, .inl (hTx.gl 33)⟩ (fun a oe cls d pn hz hf => (pss_one (ps_ret pe_str))) (HdsOk.cons ⟨by rfl, by decide, .inl (hTx.gl 9)⟩ (fun a oe cls d pn hz hf => (pss_one (ps_ret pe_str))) (HdsOk.cons ⟨by rfl, by decide, .inl (hTx.gl 20)⟩ (fun a oe cls d pn hz hf => (pss_one (ps_ret pe_str))) (HdsOk.cons ⟨by rfl, by decide, .inl (hTx.gl 31)⟩ (fun a oe cls d pn hz hf => (pss_one (ps_ret pe_str))) HdsOk.nil))))))))
    (pss_one (ps_ret pe_str))), ?_⟩)
  try dsimp only [cx_K, cx_nK]
  rintro _ M nx xe ⟨_, _, z, u, rfl, T, kind, rfl, rfl, hT, hO, k⟩
  show S (J0 K) _ [some (.ref T.p), some (.int kind), some z, some u] M _
  rcases k with ⟨th, made, os, hg, k⟩ | ⟨cls, wd, hb, hw, k⟩
  · refine s_seq (s_tryM fun W => ?_)
    exact s_drop (w_ei1 (w_l_act (T := T) (kind := kind) (ev_var rfl) (ev_var rfl) (ev_var rfl) (ev_var rfl) hT hO hg fun M' T' st => s_retE ev_str (k M' T' st)))
  cases hw
  · refine s_seq (s_tryM fun W => ?_)
    exact s_drop (w_ei2 (w_callS ((ea_cons (ev_var rfl) (ea_cons (ev_var rfl) (ea_cons (ev_var rfl) (ea_cons (ev_var rfl) ea_nil)))).w ⟨_, _, _, _, rfl, T, kind, "BadWidth", rfl, rfl, hT, hO, hb, hd_at (hd_yes (hTx.xm 84) fun a ha => s_retE ev_str k)⟩)))
  · refine s_seq (s_tryM fun W => ?_)
    exact s_drop (w_ei2 (w_callS ((ea_cons (ev_var rfl) (ea_cons (ev_var rfl) (ea_cons (ev_var rfl) (ea_cons (ev_var rfl) ea_nil)))).w ⟨_, _, _, _, rfl, T, kind, "BadRow", rfl, rfl, hT, hO, hb, hd_at (hd_no (hTx.xm 85) (hd_yes (hTx.xm 86) fun a ha => s_retE ev_str k))⟩)))
  · refine s_seq (s_tryM fun W => ?_)
    exact s_drop (w_ei2 (w_callS ((ea_cons (ev_var rfl) (ea_cons (ev_var rfl) (ea_cons (ev_var rfl) (ea_cons (ev_var rfl) ea_nil)))).w ⟨_, _, _, _, rfl, T, kind, "Full", rfl, rfl, hT, hO, hb, hd_at (hd_no (hTx.xm 87) (hd_no (hTx.xm 88) (hd_yes (hTx.xm 89) fun a ha => s_retE ev_str k)))⟩)))
  · refine s_seq (s_tryM fun W => ?_)
    exact s_drop (w_ei2 (w_callS ((ea_cons (ev_var rfl) (ea_cons (ev_var rfl) (ea_cons (ev_var rfl) (ea_cons (ev_var rfl) ea_nil)))).w ⟨_, _, _, _, rfl, T, kind, "BadOrder", rfl, rfl, hT, hO, hb, hd_at (hd_no (hTx.xm 90) (hd_no (hTx.xm 91) (hd_no (hTx.xm 92) (hd_yes (hTx.xm 93) fun a ha => s_retE ev_str k))))⟩)))
  · refine s_seq (s_tryM fun W => ?_)
    exact s_drop (w_ei2 (w_callS ((ea_cons (ev_var rfl) (ea_cons (ev_var rfl) (ea_cons (ev_var rfl) (ea_cons (ev_var rfl) ea_nil)))).w ⟨_, _, _, _, rfl, T, kind, "BadWish", rfl, rfl, hT, hO, hb, hd_at (hd_no (hTx.xm 94) (hd_no (hTx.xm 95) (hd_no (hTx.xm 96) (hd_no (hTx.xm 97) (hd_yes (hTx.xm 98) fun a ha => s_retE ev_str k)))))⟩)))
  · refine s_seq (s_tryM fun W => ?_)
    exact s_drop (w_ei2 (w_callS ((ea_cons (ev_var rfl) (ea_cons (ev_var rfl) (ea_cons (ev_var rfl) (ea_cons (ev_var rfl) ea_nil)))).w ⟨_, _, _, _, rfl, T, kind, "NoRow", rfl, rfl, hT, hO, hb, hd_at (hd_no (hTx.xm 99) (hd_no (hTx.xm 100) (hd_no (hTx.xm 101) (hd_no (hTx.xm 102) (hd_no (hTx.xm 103) (hd_yes (hTx.xm 104) fun a ha => s_retE ev_str k))))))⟩)))
  · refine s_seq (s_tryM fun W => ?_)
    exact s_drop (w_ei2 (w_callS ((ea_cons (ev_var rfl) (ea_cons (ev_var rfl) (ea_cons (ev_var rfl) (ea_cons (ev_var rfl) ea_nil)))).w ⟨_, _, _, _, rfl, T, kind, "BadColumn", rfl, rfl, hT, hO, hb, hd_at (hd_no (hTx.xm 105) (hd_no (hTx.xm 106) (hd_no (hTx.xm 107) (hd_no (hTx.xm 108) (hd_no (hTx.xm 109) (hd_no (hTx.xm 110) (hd_yes (hTx.xm 111) fun a ha => s_retE ev_str k)))))))⟩)))

def pr_l_any (K : PySem.W.Frag) : Pr := q4 fun x y z u M nx _ => ∃ (T : Tb) (kind : Int) (cls wd : Str), x = .ref T.p ∧ y = .int kind ∧ TabAt K M T ∧ TabOk T ∧ ActBad M T kind z u cls ∧ Wd cls wd ∧ nx (.bl true) M
section
variable {J : Jx} {ta tb tc td : TE} {ρ : Ro} {M : Mp} {E : XK} {z u : D}
theorem ev_l_any {T : Tb} {kind : Int} {cls wd : Str} (h1 : Ev J ta ρ M (.ref T.p)) (h2 : Ev J tb ρ M (.int kind)) (h3 : Ev J tc ρ M z) (h4 : Ev J td ρ M u) (hT : TabAt J.K M T) (hO : TabOk T) (hb : ActBad M T kind z u cls) (hw : Wd cls wd) : Ev J (tCall (spD J.K (pr_l_any J.K)) [] E (tCons ta (tCons tb (tCons tc (tCons td tNil))))) ρ M (.bl true) :=
  w_call ((ea_cons h1 (ea_cons h2 (ea_cons h3 (ea_cons h4 ea_nil)))).w ⟨_, _, _, _, rfl, T, kind, cls, wd, rfl, rfl, hT, hO, hb, hw, rfl, rfl⟩)
end
abbrev nm_l_any : List Str := ["_law_table", "_law_kind", "_law_thing", "_law_way", "e", "_law_ways"]
theorem sc_l_any : FnScope nm_l_any ["_law_table", "_law_kind", "_law_thing", "_law_way"] (defScope s_l_any) := ⟨rfl, rfl, rfl, by decide +kernel, rfl, by decide +kernel, by decide +kernel⟩
theorem ok_l_any (hTx : Tx K mg) : OkF P w K mg base CX0 9 "_law_any" (He.ga K "_law_any") ["_law_table", "_law_kind", "_law_thing", "_law_way"] (pr_l_any K) := by
  obtain ⟨_, G_l_act, b_l_act, k_l_act, g_l_act⟩ := ok_l_act (P := P) (w := w) (base := base) hTx
  obtain ⟨_, G_l_act_x, b_l_act_x, k_l_act_x, g_l_act_x⟩ := ok_l_act_x (P := P) (w := w) (base := base) hTx
  obtain ⟨_, F⟩ := hTx.fnF 40 s_l_any "_law_any" 149
  refine ⟨_, ?_, F.binds (ps := ["_law_table", "_law_kind", "_law_thing", "_law_way"]) fun _ _ _ _ _ _ us hl => match us, hl with | [_, _, _, _], _ => rfl, F.kp, hTx.gl 120⟩
  refine fn_dl F sc_l_any (fun _ _ _ _ h => q4_len h) (fun cdv A outer s H E hr => ⟨_, (pss_cons (ps_tryA (K := K) (i := 4) rfl rfl rfl sc_l_any.nd rfl rfl ⟨by rfl, by decide, .inl (hTx.gl 60)⟩ takes0 (fun W pn xe tk po => (pss_one (ps_expr (pe_ei (pe_call G_l_act (hr.mono (by decide)) rfl g_l_act k_l_act b_l_act .nil pass0 (pa_cons (pv 0) (pa_cons (pv 1) (pa_cons (pv 2) (pa_cons (pv 3) pa_nil))))) (pe_callS G_l_act_x (hr.mono (by decide)) rfl g_l_act_x k_l_act_x b_l_act_x (fun σ => passAt tk σ) (pa_cons (pv 0) (pa_cons (pv 1) (pa_cons (pv 2) (pa_cons (pv 3) pa_nil)))))))))
    (fun a oe cls d pn hz hf => pss_exc (K := K) (fun C e1 e2 ec => (pss_cons (ps_set (i := 5) sc_l_any.nd rfl (Or.inl rfl) (pe_op op_add (pe_op op_add (pe_callTy call_int1 (by rfl) (hTx.fr 2) (by decide +kernel) (pa_cons (pe_callB (kx_isE (K := K) rfl ec (zc_of hz e1 e2) hf) (by rfl) (hTx.fr 3) (by decide +kernel) (pa_cons (pv 4) (pa_cons (pe_glob (v := .ref (He.ga K "BadWidth")) rfl (hTx.gl 18) rfl) pa_nil))) pa_nil)) (pe_callTy call_int1 (by rfl) (hTx.fr 2) (by decide +kernel) (pa_cons (pe_callB (kx_isE (K := K) rfl ec (zc_of hz e1 e2) hf) (by rfl) (hTx.fr 3) (by decide +kernel) (pa_cons (pv 4) (pa_cons (pe_glob (v := .ref (He.ga K "BadRow")) rfl (hTx.gl 22) rfl) pa_nil))) pa_nil))) (pe_callTy call_int1 (by rfl) (hTx.fr 2) (by decide +kernel) (pa_cons (pe_callB (kx_isE (K := K) rfl ec (zc_of hz e1 e2) hf) (by rfl) (hTx.fr 3) (by decide +kernel) (pa_cons (pv 4) (pa_cons (pe_glob (v := .ref (He.ga K "Full")) rfl (hTx.gl 25) rfl) pa_nil))) pa_nil))))
    (pss_cons (ps_set (i := 5) sc_l_any.nd rfl (Or.inl rfl) (pe_op op_add (pe_op op_add (pe_op op_add (pv 5) (pe_callTy call_int1 (by rfl) (hTx.fr 2) (by decide +kernel) (pa_cons (pe_callB (kx_isE (K := K) rfl ec (zc_of hz e1 e2) hf) (by rfl) (hTx.fr 3) (by decide +kernel) (pa_cons (pv 4) (pa_cons (pe_glob (v := .ref (He.ga K "BadOrder")) rfl (hTx.gl 33) rfl) pa_nil))) pa_nil))) (pe_callTy call_int1 (by rfl) (hTx.fr 2) (by decide +kernel) (pa_cons (pe_callB (kx_isE (K := K) rfl ec (zc_of hz e1 e2) hf) (by rfl) (hTx.fr 3) (by decide +kernel) (pa_cons (pv 4) (pa_cons (pe_glob (v := .ref (He.ga K "BadWish")) rfl (hTx.gl 9) rfl) pa_nil))) pa_nil))) (pe_callTy call_int1 (by rfl) (hTx.fr 2) (by decide +kernel) (pa_cons (pe_callB (kx_isE (K := K) rfl ec (zc_of hz e1 e2) hf) (by rfl) (hTx.fr 3) (by decide +kernel) (pa_cons (pv 4) (pa_cons (pe_glob (v := .ref (He.ga K "NoRow")) rfl (hTx.gl 20) rfl) pa_nil))) pa_nil))))
    (pss_one (ps_ret (pe_and (pe_callB (kx_isE (K := K) rfl ec (zc_of hz e1 e2) hf) (by rfl) (hTx.fr 3) (by decide +kernel) (pa_cons (pv 4) (pa_cons (pe_bltn (v := .ty "ValueError") (by rfl) (hTx.fr 59) (by decide +kernel) rfl) pa_nil))) (pe_one (pe_cmpR op_eq (pe_op op_add (pv 5) (pe_callTy call_int1 (by rfl) (hTx.fr 2) (by decide +kernel) (pa_cons (pe_callB (kx_isE (K := K) rfl ec (zc_of hz e1 e2) hf) (by rfl) (hTx.fr 3) (by decide +kernel) (pa_cons (pv 4) (pa_cons (pe_glob (v := .ref (He.ga K "BadColumn")) rfl (hTx.gl 31) rfl) pa_nil))) pa_nil))) pe_int (nomark _)))))))))))
    (pss_one (ps_ret pe_bl))), ?_⟩)
  try dsimp only [cx_K, cx_nK]
  rintro _ M nx xe ⟨_, _, z, u, rfl, T, kind, cls, wd, rfl, rfl, hT, hO, hb, hw, k⟩
  show S (J0 K) _ [some (.ref T.p), some (.int kind), some z, some u, none, none] M _
  cases hw
  · refine s_seq (s_tryA fun W => ?_)
    refine s_drop (w_ei2 (w_callS ((ea_cons (ev_var rfl) (ea_cons (ev_var rfl) (ea_cons (ev_var rfl) (ea_cons (ev_var rfl) ea_nil)))).w ⟨_, _, _, _, rfl, T, kind, "BadWidth", rfl, rfl, hT, hO, hb, (hTx.xm 113), fun a ha => ?_⟩)))
    refine s_exc (hTx.xi 0) ?_
    refine s_seq (s_asgE (ev_I0 (ev_I0 (ev_int1 (ev_isE (C := He.ga K "BadWidth") (b := true) (ev_var rfl) (ev_c fun _ => .ref _) (hTx.kr 1))) (ev_int1 (ev_isE (C := He.ga K "BadWidth") (b := false) (ev_var rfl) (ev_c fun _ => .ref _) (hTx.kr 2)))) (ev_int1 (ev_isE (C := He.ga K "BadWidth") (b := false) (ev_var rfl) (ev_c fun _ => .ref _) (hTx.kr 3)))) ?_)
    refine s_seq (s_asgE (ev_I0 (ev_I0 (ev_I0 (ev_var rfl) (ev_int1 (ev_isE (C := He.ga K "BadWidth") (b := false) (ev_var rfl) (ev_c fun _ => .ref _) (hTx.kr 4)))) (ev_int1 (ev_isE (C := He.ga K "BadWidth") (b := false) (ev_var rfl) (ev_c fun _ => .ref _) (hTx.kr 5)))) (ev_int1 (ev_isE (C := He.ga K "BadWidth") (b := false) (ev_var rfl) (ev_c fun _ => .ref _) (hTx.kr 6)))) ?_)
    exact s_retE (Ev.is (ev_andV (b := true) (c := true) (ev_isEt (C := He.ga K "BadWidth") (ev_var rfl) ev_ty (hTx.kt 7)) fun _ => (ev_eqI (ev_I0 (ev_var rfl) (ev_int1 (ev_isE (C := He.ga K "BadWidth") (b := false) (ev_var rfl) (ev_c fun _ => .ref _) (hTx.kr 8)))) ev_int).is (by simp)) rfl) k
  · refine s_seq (s_tryA fun W => ?_)
    refine s_drop (w_ei2 (w_callS ((ea_cons (ev_var rfl) (ea_cons (ev_var rfl) (ea_cons (ev_var rfl) (ea_cons (ev_var rfl) ea_nil)))).w ⟨_, _, _, _, rfl, T, kind, "BadRow", rfl, rfl, hT, hO, hb, (hTx.xm 114), fun a ha => ?_⟩)))
    refine s_exc (hTx.xi 9) ?_
    refine s_seq (s_asgE (ev_I0 (ev_I0 (ev_int1 (ev_isE (C := He.ga K "BadRow") (b := false) (ev_var rfl) (ev_c fun _ => .ref _) (hTx.kr 10))) (ev_int1 (ev_isE (C := He.ga K "BadRow") (b := true) (ev_var rfl) (ev_c fun _ => .ref _) (hTx.kr 11)))) (ev_int1 (ev_isE (C := He.ga K "BadRow") (b := false) (ev_var rfl) (ev_c fun _ => .ref _) (hTx.kr 12)))) ?_)
    refine s_seq (s_asgE (ev_I0 (ev_I0 (ev_I0 (ev_var rfl) (ev_int1 (ev_isE (C := He.ga K "BadRow") (b := false) (ev_var rfl) (ev_c fun _ => .ref _) (hTx.kr 13)))) (ev_int1 (ev_isE (C := He.ga K "BadRow") (b := false) (ev_var rfl) (ev_c fun _ => .ref _) (hTx.kr 14)))) (ev_int1 (ev_isE (C := He.ga K "BadRow") (b := false) (ev_var rfl) (ev_c fun _ => .ref _) (hTx.kr 15)))) ?_)
    exact s_retE (Ev.is (ev_andV (b := true) (c := true) (ev_isEt (C := He.ga K "BadRow") (ev_var rfl) ev_ty (hTx.kt 16)) fun _ => (ev_eqI (ev_I0 (ev_var rfl) (ev_int1 (ev_isE (C := He.ga K "BadRow") (b := false) (ev_var rfl) (ev_c fun _ => .ref _) (hTx.kr 17)))) ev_int).is (by simp)) rfl) k
  · refine s_seq (s_tryA fun W => ?_)
    refine s_drop (w_ei2 (w_callS ((ea_cons (ev_var rfl) (ea_cons (ev_var rfl) (ea_cons (ev_var rfl) (ea_cons (ev_var rfl) ea_nil)))).w ⟨_, _, _, _, rfl, T, kind, "Full", rfl, rfl, hT, hO, hb, (hTx.xm 115), fun a ha => ?_⟩)))
    refine s_exc (hTx.xi 18) ?_
    refine s_seq (s_asgE (ev_I0 (ev_I0 (ev_int1 (ev_isE (C := He.ga K "Full") (b := false) (ev_var rfl) (ev_c fun _ => .ref _) (hTx.kr 19))) (ev_int1 (ev_isE (C := He.ga K "Full") (b := false) (ev_var rfl) (ev_c fun _ => .ref _) (hTx.kr 20)))) (ev_int1 (ev_isE (C := He.ga K "Full") (b := true) (ev_var rfl) (ev_c fun _ => .ref _) (hTx.kr 21)))) ?_)
    refine s_seq (s_asgE (ev_I0 (ev_I0 (ev_I0 (ev_var rfl) (ev_int1 (ev_isE (C := He.ga K "Full") (b := false) (ev_var rfl) (ev_c fun _ => .ref _) (hTx.kr 22)))) (ev_int1 (ev_isE (C := He.ga K "Full") (b := false) (ev_var rfl) (ev_c fun _ => .ref _) (hTx.kr 23)))) (ev_int1 (ev_isE (C := He.ga K "Full") (b := false) (ev_var rfl) (ev_c fun _ => .ref _) (hTx.kr 24)))) ?_)
    exact s_retE (Ev.is (ev_andV (b := true) (c := true) (ev_isEt (C := He.ga K "Full") (ev_var rfl) ev_ty (hTx.kt 25)) fun _ => (ev_eqI (ev_I0 (ev_var rfl) (ev_int1 (ev_isE (C := He.ga K "Full") (b := false) (ev_var rfl) (ev_c fun _ => .ref _) (hTx.kr 26)))) ev_int).is (by simp)) rfl) k
  · refine s_seq (s_tryA fun W => ?_)
    refine s_drop (w_ei2 (w_callS ((ea_cons (ev_var rfl) (ea_cons (ev_var rfl) (ea_cons (ev_var rfl) (ea_cons (ev_var rfl) ea_nil)))).w ⟨_, _, _, _, rfl, T, kind, "BadOrder", rfl, rfl, hT, hO, hb, (hTx.xm 116), fun a ha => ?_⟩)))
    refine s_exc (hTx.xi 27) ?_
    refine s_seq (s_asgE (ev_I0 (ev_I0 (ev_int1 (ev_isE (C := He.ga K "BadOrder") (b := false) (ev_var rfl) (ev_c fun _ => .ref _) (hTx.kr 28))) (ev_int1 (ev_isE (C := He.ga K "BadOrder") (b := false) (ev_var rfl) (ev_c fun _ => .ref _) (hTx.kr 29)))) (ev_int1 (ev_isE (C := He.ga K "BadOrder") (b := false) (ev_var rfl) (ev_c fun _ => .ref _) (hTx.kr 30)))) ?_)
    refine s_seq (s_asgE (ev_I0 (ev_I0 (ev_I0 (ev_var rfl) (ev_int1 (ev_isE (C := He.ga K "BadOrder") (b := true) (ev_var rfl) (ev_c fun _ => .ref _) (hTx.kr 31)))) (ev_int1 (ev_isE (C := He.ga K "BadOrder") (b := false) (ev_var rfl) (ev_c fun _ => .ref _) (hTx.kr 32)))) (ev_int1 (ev_isE (C := He.ga K "BadOrder") (b := false) (ev_var rfl) (ev_c fun _ => .ref _) (hTx.kr 33)))) ?_)
    exact s_retE (Ev.is (ev_andV (b := true) (c := true) (ev_isEt (C := He.ga K "BadOrder") (ev_var rfl) ev_ty (hTx.kt 34)) fun _ => (ev_eqI (ev_I0 (ev_var rfl) (ev_int1 (ev_isE (C := He.ga K "BadOrder") (b := false) (ev_var rfl) (ev_c fun _ => .ref _) (hTx.kr 35)))) ev_int).is (by simp)) rfl) k
  · refine s_seq (s_tryA fun W => ?_)
    refine s_drop (w_ei2 (w_callS ((ea_cons (ev_var rfl) (ea_cons (ev_var rfl) (ea_cons (ev_var rfl) (ea_cons (ev_var rfl) ea_nil)))).w ⟨_, _, _, _, rfl, T, kind, "BadWish", rfl, rfl, hT, hO, hb, (hTx.xm 117), fun a ha => ?_⟩)))
    refine s_exc (hTx.xi 36) ?_
    refine s_seq (s_asgE (ev_I0 (ev_I0 (ev_int1 (ev_isE (C := He.ga K "BadWish") (b := false) (ev_var rfl) (ev_c fun _ => .ref _) (hTx.kr 37))) (ev_int1 (ev_isE (C := He.ga K "BadWish") (b := false) (ev_var rfl) (ev_c fun _ => .ref _) (hTx.kr 38)))) (ev_int1 (ev_isE (C := He.ga K "BadWish") (b := false) (ev_var rfl) (ev_c fun _ => .ref _) (hTx.kr 39)))) ?_)
    refine s_seq (s_asgE (ev_I0 (ev_I0 (ev_I0 (ev_var rfl) (ev_int1 (ev_isE (C := He.ga K "BadWish") (b := false) (ev_var rfl) (ev_c fun _ => .ref _) (hTx.kr 40)))) (ev_int1 (ev_isE (C := He.ga K "BadWish") (b := true) (ev_var rfl) (ev_c fun _ => .ref _) (hTx.kr 41)))) (ev_int1 (ev_isE (C := He.ga K "BadWish") (b := false) (ev_var rfl) (ev_c fun _ => .ref _) (hTx.kr 42)))) ?_)
    exact s_retE (Ev.is (ev_andV (b := true) (c := true) (ev_isEt (C := He.ga K "BadWish") (ev_var rfl) ev_ty (hTx.kt 43)) fun _ => (ev_eqI (ev_I0 (ev_var rfl) (ev_int1 (ev_isE (C := He.ga K "BadWish") (b := false) (ev_var rfl) (ev_c fun _ => .ref _) (hTx.kr 44)))) ev_int).is (by simp)) rfl) k
  · refine s_seq (s_tryA fun W => ?_)
    refine s_drop (w_ei2 (w_callS ((ea_cons (ev_var rfl) (ea_cons (ev_var rfl) (ea_cons (ev_var rfl) (ea_cons (ev_var rfl) ea_nil)))).w ⟨_, _, _, _, rfl, T, kind, "NoRow", rfl, rfl, hT, hO, hb, (hTx.xm 118), fun a ha => ?_⟩)))
    refine s_exc (hTx.xi 45) ?_
    refine s_seq (s_asgE (ev_I0 (ev_I0 (ev_int1 (ev_isE (C := He.ga K "NoRow") (b := false) (ev_var rfl) (ev_c fun _ => .ref _) (hTx.kr 46))) (ev_int1 (ev_isE (C := He.ga K "NoRow") (b := false) (ev_var rfl) (ev_c fun _ => .ref _) (hTx.kr 47)))) (ev_int1 (ev_isE (C := He.ga K "NoRow") (b := false) (ev_var rfl) (ev_c fun _ => .ref _) (hTx.kr 48)))) ?_)
    refine s_seq (s_asgE (ev_I0 (ev_I0 (ev_I0 (ev_var rfl) (ev_int1 (ev_isE (C := He.ga K "NoRow") (b := false) (ev_var rfl) (ev_c fun _ => .ref _) (hTx.kr 49)))) (ev_int1 (ev_isE (C := He.ga K "NoRow") (b := false) (ev_var rfl) (ev_c fun _ => .ref _) (hTx.kr 50)))) (ev_int1 (ev_isE (C := He.ga K "NoRow") (b := true) (ev_var rfl) (ev_c fun _ => .ref _) (hTx.kr 51)))) ?_)
    exact s_retE (Ev.is (ev_andV (b := true) (c := true) (ev_isEt (C := He.ga K "NoRow") (ev_var rfl) ev_ty (hTx.kt 52)) fun _ => (ev_eqI (ev_I0 (ev_var rfl) (ev_int1 (ev_isE (C := He.ga K "NoRow") (b := false) (ev_var rfl) (ev_c fun _ => .ref _) (hTx.kr 53)))) ev_int).is (by simp)) rfl) k
  · refine s_seq (s_tryA fun W => ?_)
    refine s_drop (w_ei2 (w_callS ((ea_cons (ev_var rfl) (ea_cons (ev_var rfl) (ea_cons (ev_var rfl) (ea_cons (ev_var rfl) ea_nil)))).w ⟨_, _, _, _, rfl, T, kind, "BadColumn", rfl, rfl, hT, hO, hb, (hTx.xm 119), fun a ha => ?_⟩)))
    refine s_exc (hTx.xi 54) ?_
    refine s_seq (s_asgE (ev_I0 (ev_I0 (ev_int1 (ev_isE (C := He.ga K "BadColumn") (b := false) (ev_var rfl) (ev_c fun _ => .ref _) (hTx.kr 55))) (ev_int1 (ev_isE (C := He.ga K "BadColumn") (b := false) (ev_var rfl) (ev_c fun _ => .ref _) (hTx.kr 56)))) (ev_int1 (ev_isE (C := He.ga K "BadColumn") (b := false) (ev_var rfl) (ev_c fun _ => .ref _) (hTx.kr 57)))) ?_)
    refine s_seq (s_asgE (ev_I0 (ev_I0 (ev_I0 (ev_var rfl) (ev_int1 (ev_isE (C := He.ga K "BadColumn") (b := false) (ev_var rfl) (ev_c fun _ => .ref _) (hTx.kr 58)))) (ev_int1 (ev_isE (C := He.ga K "BadColumn") (b := false) (ev_var rfl) (ev_c fun _ => .ref _) (hTx.kr 59)))) (ev_int1 (ev_isE (C := He.ga K "BadColumn") (b := false) (ev_var rfl) (ev_c fun _ => .ref _) (hTx.kr 60)))) ?_)
    exact s_retE (Ev.is (ev_andV (b := true) (c := true) (ev_isEt (C := He.ga K "BadColumn") (ev_var rfl) ev_ty (hTx.kt 61)) fun _ => (ev_eqI (ev_I0 (ev_var rfl) (ev_int1 (ev_isE (C := He.ga K "BadColumn") (b := true) (ev_var rfl) (ev_c fun _ => .ref _) (hTx.kr 62)))) ev_int).is (by simp)) rfl) k

def pr_l_width (K : PySem.W.Frag) : Pr := q1 fun x M nx _ => ∃ c : Int, x = .int c ∧ (∀ w, c % 8 = 7 → 1 ≤ w → w ≤ 6 → nx (.int w) M) ∧ ∀ d, c % 8 ≠ 7 → (∀ M', WidBad M' d) → nx d M
section
variable {J : Jx} {ta : TE} {ρ : Ro} {M : Mp} {E : XK} {R : D → Mp → Prop}
theorem w_l_width {c : Int} (ha : Ev J ta ρ M (.int c)) (k1 : ∀ w, c % 8 = 7 → 1 ≤ w → w ≤ 6 → R (.int w) M) (k2 : ∀ d, c % 8 ≠ 7 → (∀ M', WidBad M' d) → R d M) : W J (tCall (spD J.K (pr_l_width J.K)) [] E (tCons ta tNil)) ρ M R :=
  w_call ((ea_cons ha ea_nil).w ⟨_, rfl, c, rfl, k1, k2⟩)
end
abbrev nm_l_width : List Str := ["_law_cell", "_law_far"]
theorem sc_l_width : FnScope nm_l_width ["_law_cell"] (defScope s_l_width) := ⟨rfl, rfl, rfl, by decide +kernel, rfl, by decide +kernel, by decide +kernel⟩
theorem ok_l_width (hTx : Tx K mg) : OkF P w K mg base CX0 1 "_law_width" (He.ga K "_law_width") ["_law_cell"] (pr_l_width K) := by
  obtain ⟨_, F⟩ := hTx.fnF 41 s_l_width "_law_width" 150
  refine ⟨_, ?_, F.binds (ps := ["_law_cell"]) fun _ _ _ _ _ _ us hl => match us, hl with | [_], _ => rfl, F.kp, hTx.gl 121⟩
  refine fn_dl F sc_l_width (fun _ _ _ _ h => q1_len h) (fun cdv A outer s H E hr => ⟨_, (pss_cons (ps_set (i := 1) sc_l_width.nd rfl (Or.inl rfl) (pe_op op_mod (pe_op op_fdiv (pv 0) pe_int) (pe_op op_powW pe_int pe_int)))
    (pss_one (ps_ret (pe_ix (kx_ixL (K := K) rfl) (pe_lst (pa_cons pe_int (pa_cons pe_int (pa_cons (pe_op op_sub (pe_un un_neg pe_int) (pv 1)) (pa_cons (pe_op op_add pe_int (pv 1)) (pa_cons pe_bl (pa_cons pe_non (pa_cons pe_str (pa_cons (pe_op op_add pe_int (pe_op op_mod (pv 1) pe_int)) pa_nil))))))))) (pe_op op_mod (pv 0) pe_int) (fun _ _ => rfl))))), ?_⟩)
  try dsimp only [cx_K, cx_nK]
  rintro _ M nx xe ⟨_, rfl, c, rfl, k1, k2⟩
  show S (J0 K) _ [some (.int c), none] M _
  refine s_seq (s_asgE (by walk_at "ev") ?_)
  have f0 : 0 ≤ c / 8 % 10 ^ (30 : Int).toNat := Int.emod_nonneg _ (by decide)
  revert f0
  generalize c / 8 % 10 ^ (30 : Int).toNat = far
  intro f0
  have e8 := Int.emod_nonneg c (show (8 : Int) ≠ 0 by decide)
  have e8' := Int.emod_lt_of_pos c (show (0 : Int) < 8 by decide)
  have e6 := Int.emod_nonneg far (show (6 : Int) ≠ 0 by decide)
  have e6' := Int.emod_lt_of_pos far (show (0 : Int) < 6 by decide)
  obtain ⟨d, hd, hk⟩ : ∃ d, atI [.int 0, .int 7, .int (-1 - far), .int (7 + far), .bl true, .non, .str "3", .int (1 + far % 6)] (c % 8) = some d ∧ nx d M := by
    have bad : ∀ w : Int, ¬ (1 ≤ w ∧ w ≤ 6) → ∀ M', WidBad M' (.int w) := fun w h M' => ⟨tyN_fl rfl, fun v e => by cases e; exact h⟩
    have odd : ∀ x : D, flatD x = true → wholeD x = false → ∀ M', WidBad M' x := fun x h h2 M' => ⟨tyN_fl h, fun v e => by rw [e] at h2; cases h2⟩
    rcases (show c % 8 = 0 ∨ c % 8 = 1 ∨ c % 8 = 2 ∨ c % 8 = 3 ∨ c % 8 = 4 ∨ c % 8 = 5 ∨ c % 8 = 6 ∨ c % 8 = 7 by omega) with e | e | e | e | e | e | e | e
    · exact ⟨_, by rw [e]; rfl, k2 _ (by omega) (bad _ (by omega))⟩
    · exact ⟨_, by rw [e]; rfl, k2 _ (by omega) (bad _ (by omega))⟩
    · exact ⟨_, by rw [e]; rfl, k2 _ (by omega) (bad _ (by omega))⟩
    · exact ⟨_, by rw [e]; rfl, k2 _ (by omega) (bad _ (by omega))⟩
    · exact ⟨_, by rw [e]; rfl, k2 _ (by omega) (odd _ rfl rfl)⟩
    · exact ⟨_, by rw [e]; rfl, k2 _ (by omega) (odd _ rfl rfl)⟩
    · exact ⟨_, by rw [e]; rfl, k2 _ (by omega) (odd _ rfl rfl)⟩
    · exact ⟨_, by rw [e]; rfl, k1 _ e (by omega) (by omega)⟩
  exact s_retE (ev_ixL (en_lst (ds := [.int 0, .int 7, .int (-1 - far), .int (7 + far), .bl true, .non, .str "3", .int (1 + far % 6)]) (by walk_at "ev") (sz (by simp))).ev (by walk_at "ev") .l hd) hk

/-- a row that the law holds for good -/
def rowGood (c pl : Int) : Bool := decide (c % 9 = 8) || (decide (c % 9 = 7) && decide (pl / 6 % 2 = 0))
def RowGot (M M' : Mp) (w : Int) (good : Bool) (d : D) : Prop :=
  (good = true ∧ ∃ r : List Int, (r.length : Int) = w ∧ (d = .tup (r.map .int) ∨ ∃ p, d = .ref p ∧ M p = none ∧ M' p = some (.lst (r.map .int)))) ∨
  (good = false ∧ RowBad M' w d ∧ ((∃ p ds, d = .ref p ∧ M p = none ∧ M' p = some (.lst ds)) ∨ (tyN M' d ≠ "" ∧ tyN M' d ≠ "list")))
/-- the row, under work -/
def RowSt (lim w wy : Int) (ds : List D) : Prop :=
  (wy < lim ∧ (∀ d ∈ ds, flatD d = true) ∧ ((ds.length : Int) ≠ w ∨ (ds.length : Int) = w ∧ ∃ d ∈ ds, wholeD d = false)) ∨ (lim ≤ wy ∧ ∃ r : List Int, ds = r.map .int ∧ (r.length : Int) = w)
theorem RowSt.up {lim w wy : Int} {ds : List D} (h : RowSt lim w wy ds) (hn : wy ≠ lim) : RowSt (lim + 1) w wy ds := by
  rcases h with ⟨h1, h2⟩ | ⟨h1, h2⟩
  · exact .inl ⟨by omega, h2⟩
  · exact .inr ⟨by omega, h2⟩
theorem flat_int {r : List Int} : ∀ d ∈ r.map D.int, flatD d = true := fun d hd => by
  obtain ⟨n, _, rfl⟩ := List.mem_map.mp hd
  rfl
def pr_l_row (K : PySem.W.Frag) : Pr := q3 fun x y z M nx _ => ∃ c pl w : Int, x = .int c ∧ y = .int pl ∧ z = .int w ∧ 3 ≤ w ∧ w ≤ 6 ∧ ∀ d M', Sub M M' → RowGot M M' w (rowGood c pl) d → nx d M'
section
variable {J : Jx} {ta tb tc : TE} {ρ : Ro} {M : Mp} {E : XK} {R : D → Mp → Prop}
theorem w_l_row {c pl w : Int} (ha : Ev J ta ρ M (.int c)) (hb : Ev J tb ρ M (.int pl)) (hc : Ev J tc ρ M (.int w)) (w3 : 3 ≤ w) (w6 : w ≤ 6) (k : ∀ d M', Sub M M' → RowGot M M' w (rowGood c pl) d → R d M') : W J (tCall (spD J.K (pr_l_row J.K)) [] E (tCons ta (tCons tb (tCons tc tNil)))) ρ M R :=
  w_call ((ea_cons ha (ea_cons hb (ea_cons hc ea_nil))).w ⟨_, _, _, rfl, c, pl, w, rfl, rfl, rfl, w3, w6, k⟩)
end
abbrev nm_l_row : List Str := ["_law_cell", "_law_place", "_law_width_here", "_law_row_here", "_law_k", "_law_at_here", "_law_way"]
theorem sc_l_row : FnScope nm_l_row ["_law_cell", "_law_place", "_law_width_here"] (defScope s_l_row) := ⟨rfl, rfl, rfl, by decide +kernel, rfl, by decide +kernel, by decide +kernel⟩
theorem ok_l_row (hTx : Tx K mg) : OkF P w K mg base CX0 1 "_law_row" (He.ga K "_law_row") ["_law_cell", "_law_place", "_law_width_here"] (pr_l_row K) := by
  obtain ⟨_, F⟩ := hTx.fnF 42 s_l_row "_law_row" 151
  refine ⟨_, ?_, F.binds (ps := ["_law_cell", "_law_place", "_law_width_here"]) fun _ _ _ _ _ _ us hl => match us, hl with | [_, _, _], _ => rfl, F.kp, hTx.gl 122⟩
  refine fn_dl F sc_l_row (fun _ _ _ _ h => q3_len h) (fun cdv A outer s H E hr => ⟨_, (pss_cons (ps_setLc (i := 3) (own := [("_law_k", 4)]) (g := gName 4) rfl sc_l_row.nd rfl rfl (sw_true rfl rfl rfl (by decide +kernel)) (pi_range1 rfl (hTx.fr 61) (pa_cons (pv 2) pa_nil)) (blkOk_by (N := nm_l_row) (sc := defScope s_l_row) (own := [("_law_k", 4)]) (by decide +kernel)) (fun _ _ _ _ _ => pg_name (i := 4) sc_l_row.nd rfl (Or.inl rfl)) (fun _ _ _ _ _ => pts_nil) (fun _ _ _ _ _ => (pe_op op_add (pe_op op_mod (pe_op op_fdiv (pv 0) pe_int) pe_int) (pv 4))))
    (pss_cons (ps_set (i := 5) sc_l_row.nd rfl (Or.inl rfl) (pe_op op_mod (pv 1) (pv 2)))
    (pss_cons (ps_set (i := 6) sc_l_row.nd rfl (Or.inl rfl) (pe_op op_mod (pv 0) pe_int))
    (pss_cons (ps_if (pt_cmpR op_lt (pv 6) pe_int (nomark _))
    (pss_one (ps_asg (pe_ix (kx_ixL (K := K) rfl) (pe_lst (pa_cons pe_bl (pa_cons pe_non (pa_cons pe_str (pa_cons (pe_lst (pa_cons pe_int pa_nil)) pa_nil))))) (pv 6) (fun _ _ => rfl)) (pg_sub (pv 3) (pv 5) set_list)))
    pss_nil)
    (pss_cons (ps_if (pt_cmpR op_eq (pv 6) pe_int (nomark _))
    (pss_one (ps_set (i := 3) sc_l_row.nd rfl (Or.inl rfl) (pe_slice (kx_sl (K := K) rfl) (pv 3) po_none (po_some (pe_un un_neg pe_int)))))
    pss_nil)
    (pss_cons (ps_if (pt_cmpR op_eq (pv 6) pe_int (nomark _))
    (pss_one (ps_set (i := 3) sc_l_row.nd rfl (Or.inl rfl) (pe_op op_cat (pv 3) (pe_lst (pa_cons pe_int pa_nil)))))
    pss_nil)
    (pss_cons (ps_if (pt_cmpR op_eq (pv 6) pe_int (nomark _))
    (pss_one (ps_ret (pe_slice sl_str pe_str po_none (po_some (pv 2)))))
    pss_nil)
    (pss_cons (ps_if (PW.pt (pw_and (pt_cmpR op_eq (pv 6) pe_int (nomark _)) (pw_and1 (pt_cmpR op_eq (pe_op op_mod (pe_op op_fdiv (pv 1) pe_int) pe_int) pe_int (nomark _)))))
    (pss_one (ps_ret pe_non))
    pss_nil)
    (pss_cons (ps_if (pt_cmpR op_eq (pe_op op_mod (pe_op op_fdiv (pv 1) pe_int) pe_int) pe_int (nomark _))
    (pss_one (ps_ret (pe_callTy (kx_tuple (K := K) rfl) (by rfl) (hTx.fr 5) (by decide +kernel) (pa_cons (pv 3) pa_nil))))
    pss_nil)
    (pss_one (ps_ret (pv 3)))))))))))), ?_⟩)
  try dsimp only [cx_K, cx_nK]
  rintro _ M nx xe ⟨_, _, _, rfl, c, pl, w, rfl, rfl, rfl, w3, w6, k⟩
  show S (J0 K) _ [some (.int c), some (.int pl), some (.int w), none, none, none, none] M _
  refine s_seq (s_asg ((en_rngI (n := w) (fun j => c / 9 % 5 + j) (ev_var rfl) (by omega) (by omega) (fun M1 j sb j0 j1 => by walk_at "ev")).w fun p hp => ?_))
  have hl : ((((List.range w.toNat).map fun (j : Nat) => c / 9 % 5 + (j : Int)).length : Nat) : Int) = w := by rw [List.length_map, List.length_range]; omega
  revert hl
  generalize ((List.range w.toNat).map fun (j : Nat) => c / 9 % 5 + (j : Int)) = r
  intro hl
  refine s_seq (s_asgE (ev_I (ev_var rfl) (ev_var rfl) (by show (0 : Int) < w; omega)) ?_)
  have a0 := Int.emod_nonneg pl (show w ≠ 0 by omega)
  have a1 := Int.emod_lt_of_pos pl (show 0 < w by omega)
  revert a0 a1
  generalize pl % w = at'
  intro a0 a1
  refine s_seq (s_asgE (by walk_at "ev") ?_)
  have y0 := Int.emod_nonneg c (show (9 : Int) ≠ 0 by decide)
  have y1 := Int.emod_lt_of_pos c (show (0 : Int) < 9 by decide)
  obtain ⟨wy, hwy⟩ : ∃ wy, c % 9 = wy := ⟨_, rfl⟩
  have hg : rowGood c pl = (decide (wy = 8) || (decide (wy = 7) && decide (pl / 6 % 2 = 0))) := by unfold rowGood; rw [hwy]
  rw [hg] at k
  rw [hwy] at y0 y1 ⊢
  clear hg hwy
  -- one thing in it
  refine s_cut (fun ρ' M' => ∃ ds, M' = ud M p (.lst ds) ∧ RowSt 4 w wy ds ∧ ρ' = [some (.int c), some (.int pl), some (.int w), some (.ref p), none, some (.int at'), some (.int wy)]) ?_ ?_
  · refine s_if (b := decide (wy < 4)) (et_test (by walk_at "ev")) (fun h => ?_) (fun h => s_next ⟨_, rfl, .inr ⟨by have := of_decide_eq_false h; omega, r, rfl, hl⟩, rfl⟩)
    have h4 : wy < 4 := of_decide_eq_true h
    obtain ⟨z, hz, hm⟩ := atI_mem (ds := [.bl true, .non, .str "1", .lst [.int 1]]) (k := wy) y0 (by simpa using h4)
    have hf : flatD z = true ∧ wholeD z = false := by
      simp only [List.mem_cons, List.not_mem_nil, or_false] at hm
      rcases hm with rfl | rfl | rfl | rfl <;> exact ⟨rfl, rfl⟩
    have hj : at'.toNat < (r.map D.int).length := by rw [List.length_map]; omega
    refine s_setL (a := p) (k := at') (j := at'.toNat) (ds := r.map .int) (x := z) (ev_ixL (en_lst (ds := [.bl true, .non, .str "1", .lst [.int 1]]) (ea_cons ev_bl (ea_cons ev_non (ea_cons ev_str (ea_cons (en_lst (ds := [.int 1]) (ea_cons ev_int ea_nil) (sz (by simp))).ev ea_nil)))) (sz (by simp))).ev (ev_var rfl) .l hz) (ev_var rfl) (ev_var rfl) ud_same (by unfold ixN; rw [if_pos a0, if_pos (by rw [List.length_map]; omega)]) ?_
    refine ⟨_, ud_ud, .inl ⟨h4, fun d hd => ?_, .inr ⟨by rw [List.length_set, List.length_map]; exact hl, z, List.mem_iff_getElem?.mpr ⟨at'.toNat, List.getElem?_set_self hj⟩, hf.2⟩⟩, rfl⟩
    rcases List.mem_or_eq_of_mem_set hd with hd | rfl
    · exact flat_int d hd
    · exact hf.1
  rintro ρ' M1 ⟨ds, rfl, hds, rfl⟩
  -- one too few
  refine s_cut (fun ρ' M' => ∃ q ds, Sub M M' ∧ M q = none ∧ M' q = some (.lst ds) ∧ RowSt 5 w wy ds ∧ ρ' = [some (.int c), some (.int pl), some (.int w), some (.ref q), none, some (.int at'), some (.int wy)]) ?_ ?_
  · refine s_if (b := decide (wy = 4)) (et_test (by walk_at "ev")) (fun h => ?_) (fun h => s_next ⟨p, ds, Sub.new hp, hp, ud_same, hds.up (of_decide_eq_false h), rfl⟩)
    have h4 : wy = 4 := of_decide_eq_true h
    obtain ⟨_, r', rfl, hr'⟩ : 4 ≤ wy ∧ ∃ r : List Int, ds = r.map .int ∧ (r.length : Int) = w := by
      rcases hds with ⟨h1, _⟩ | h1
      · omega
      · exact h1
    refine s_asg (EvN.w (en_sl (ds := r'.map .int) (ev_var rfl) eo_no (eo_of (by walk_at "ev")) (.r ud_same)) fun q hq => ⟨q, _, (Sub.new hp).mut ((Sub.new hp).back hq), (Sub.new hp).back hq, ud_same, .inl ⟨by omega, ?_, .inl ?_⟩, rfl⟩)
    · intro d hd
      unfold cutD at hd
      exact flat_int d (List.mem_of_mem_drop (List.mem_of_mem_take hd))
    · unfold cutD
      have e : HT.sIx (r'.map D.int).length 0 none = 0 := rfl
      have e2 : HT.sIx (r'.map D.int).length (r'.map D.int).length (some (-1)) ≤ (r'.map D.int).length - 1 := by
        show (if (-1 : Int) < 0 then ((-1 : Int) + ((r'.map D.int).length : Int)).toNat else min (-1 : Int).toNat (r'.map D.int).length) ≤ _
        rw [if_pos (by decide)]
        omega
      rw [List.length_take, List.length_drop]
      rw [List.length_map] at e2 ⊢
      omega
  rintro ρ' M1 ⟨q, ds, sb, hq, hq1, hds, rfl⟩
  clear hp hl
  -- one too many
  refine s_cut (fun ρ' M' => ∃ q ds, Sub M M' ∧ M q = none ∧ M' q = some (.lst ds) ∧ RowSt 6 w wy ds ∧ ρ' = [some (.int c), some (.int pl), some (.int w), some (.ref q), none, some (.int at'), some (.int wy)]) ?_ ?_
  · refine s_if (b := decide (wy = 5)) (et_test (by walk_at "ev")) (fun h => ?_) (fun h => s_next ⟨q, ds, sb, hq, hq1, hds.up (of_decide_eq_false h), rfl⟩)
    have h5 : wy = 5 := of_decide_eq_true h
    obtain ⟨_, r', rfl, hr'⟩ : 5 ≤ wy ∧ ∃ r : List Int, ds = r.map .int ∧ (r.length : Int) = w := by
      rcases hds with ⟨h1, _⟩ | h1
      · omega
      · exact h1
    refine s_asg (EvN.w (en_cat (ds := r'.map .int) (es := [.int 0]) (ev_var rfl) (en_lst (ds := [.int 0]) (ea_cons ev_int ea_nil) (sz (by simp))).ev (.r hq1) .l (sz (by rw [List.length_map]; simp; omega))) fun q2 hq2 => ⟨q2, _, sb.trans (Sub.new hq2), sb.back hq2, ud_same, .inl ⟨by omega, ?_, .inl ?_⟩, rfl⟩)
    · intro d hd
      rcases List.mem_append.mp hd with hd | hd
      · exact flat_int d hd
      · rw [List.mem_singleton.mp hd]; rfl
    · rw [List.length_append, List.length_map]
      simp
      omega
  clear sb hq hq1 hds q ds
  rintro ρ' M2 ⟨q, ds, sb, hq, hq1, hds, rfl⟩
  -- a text
  refine s_seq (s_if (b := decide (wy = 6)) (et_test (by walk_at "ev")) (fun h => ?_) (fun h => s_next ?_))
  · have h6 : wy = 6 := of_decide_eq_true h
    refine s_retE (ev_slS ev_str eo_no (eo_of (ev_var rfl)) (by decide +kernel)) (k _ M2 sb (.inr ⟨by rw [h6]; rfl, .inl ⟨tyN_fl rfl, (by decide : "str" ≠ "list"), (by decide : "str" ≠ "tuple")⟩, .inr ⟨tyN_fl rfl, (by decide : "str" ≠ "list")⟩⟩))
  have h6 := of_decide_eq_false h
  -- None
  refine s_seq (s_if (b := decide (wy = 7) && decide (pl / 6 % 2 = 1)) (by walk_at "ev") (fun h => ?_) (fun h => s_next ?_))
  · obtain ⟨h7, h71⟩ := Bool.and_eq_true_iff.mp h
    have h7 : wy = 7 := of_decide_eq_true h7
    have h71 : pl / 6 % 2 = 1 := of_decide_eq_true h71
    refine s_retE ev_non (k _ M2 sb (.inr ⟨?_, .inl ⟨tyN_fl rfl, (by decide : "NoneType" ≠ "list"), (by decide : "NoneType" ≠ "tuple")⟩, .inr ⟨tyN_fl rfl, (by decide : "NoneType" ≠ "list")⟩⟩))
    rw [h7, decide_eq_false (show ¬ pl / 6 % 2 = 0 by omega)]
    rfl
  have h7 : wy = 7 → pl / 6 % 2 = 0 := fun e => by
    have e2 : ¬ pl / 6 % 2 = 1 := fun z => by rw [decide_eq_true e, decide_eq_true z] at h; cases h
    omega
  have good : 6 ≤ wy → (decide (wy = 8) || (decide (wy = 7) && decide (pl / 6 % 2 = 0))) = true := fun e => by
    rcases (show wy = 7 ∨ wy = 8 by omega) with e | e
    · rw [decide_eq_true e, decide_eq_true (h7 e)]; simp
    · rw [decide_eq_true e]; rfl
  have bad : wy < 6 → (decide (wy = 8) || (decide (wy = 7) && decide (pl / 6 % 2 = 0))) = false := fun e => by
    rw [decide_eq_false (show ¬ wy = 8 by omega), decide_eq_false (show ¬ wy = 7 by omega)]; rfl
  refine s_seq (s_if (et_test (by walk_at "ev")) (fun _ => ?_) (fun _ => s_next ?_))
  · refine s_retE (ev_tuple (ds := ds) (ev_var rfl) (IsL.r hq1).q) (k _ M2 sb ?_)
    rcases hds with ⟨h1, h2, h3⟩ | ⟨h1, r', rfl, hr'⟩
    · exact .inr ⟨bad h1, .inr ⟨ds, .t, fun d hd => tyN_fl (h2 d hd), h3⟩, .inr ⟨tyN_fl rfl, (by decide : "tuple" ≠ "list")⟩⟩
    · exact .inl ⟨good h1, r', hr', .inl rfl⟩
  · refine s_retE (ev_var rfl) (k _ M2 sb ?_)
    rcases hds with ⟨h1, h2, h3⟩ | ⟨h1, r', rfl, hr'⟩
    · exact .inr ⟨bad h1, .inr ⟨ds, (IsL.r hq1).q, fun d hd => tyN_fl (h2 d hd), h3⟩, .inl ⟨q, ds, rfl, hq, hq1⟩⟩
    · exact .inl ⟨good h1, r', hr', .inr ⟨q, rfl, hq, hq1⟩⟩

/-- an order under work: a list of the ledger, of plain things -/
structure OrdSt (M M' : Mp) (q : Addr) (ds : List D) (n : Nat) : Prop where
  sb : Sub M M'
  no : M q = none
  at' : M' q = some (.lst ds)
  l1 : 1 ≤ ds.length
  l2 : ds.length ≤ n
  pl : ∀ d ∈ ds, plainD 1 d = true
theorem four_ord {M : Mp} {q0 q1 q2 q3 p : Addr} {M0 M1 M2 M3 M4 : Mp} (e0 : M0 = ud M q0 (.lst [.int 0])) (e1 : M1 = ud M0 q1 (.lst [.int 2, .int 0])) (e2 : M2 = ud M1 q2 (.lst [.int 1, .int 2])) (e3 : M3 = ud M2 q3 (.lst [.int 2, .int 1, .int 0])) (e4 : M4 = ud M3 p (.lst [.ref q0, .ref q1, .ref q2, .ref q3]))
    (h0 : M q0 = none) (h1 : M0 q1 = none) (h2 : M1 q2 = none) (h3 : M2 q3 = none) (hp : M3 p = none) {i : Int} (i0 : 0 ≤ i) (i4 : i < 4) : ∃ q ds, atI [D.ref q0, D.ref q1, D.ref q2, D.ref q3] i = some (D.ref q) ∧ OrdSt M M4 q ds 3 := by
  have s0 : Sub M M0 := e0 ▸ Sub.new h0
  have s1 : Sub M0 M1 := e1 ▸ Sub.new h1
  have s2 : Sub M1 M2 := e2 ▸ Sub.new h2
  have s3 : Sub M2 M3 := e3 ▸ Sub.new h3
  have s4 : Sub M3 M4 := e4 ▸ Sub.new hp
  have sb := s0.trans (s1.trans (s2.trans (s3.trans s4)))
  rcases (show i = 0 ∨ i = 1 ∨ i = 2 ∨ i = 3 by omega) with e | e | e | e
  · exact ⟨q0, [.int 0], by rw [e]; rfl, sb, h0, (s1.trans (s2.trans (s3.trans s4))) _ _ (e0 ▸ ud_same), by decide, by decide, by simp [plainD]⟩
  · exact ⟨q1, [.int 2, .int 0], by rw [e]; rfl, sb, s0.back h1, (s2.trans (s3.trans s4)) _ _ (e1 ▸ ud_same), by decide, by decide, by simp [plainD]⟩
  · exact ⟨q2, [.int 1, .int 2], by rw [e]; rfl, sb, s0.back (s1.back h2), (s3.trans s4) _ _ (e2 ▸ ud_same), by decide, by decide, by simp [plainD]⟩
  · exact ⟨q3, [.int 2, .int 1, .int 0], by rw [e]; rfl, sb, s0.back (s1.back (s2.back h3)), s4 _ _ (e3 ▸ ud_same), by decide, by decide, by simp [plainD]⟩
def pr_l_order (K : PySem.W.Frag) : Pr := q3 fun x y z M nx _ => ∃ c pl w : Int, x = .int c ∧ y = .int pl ∧ z = .int w ∧ 3 ≤ w ∧ w ≤ 6 ∧ ∀ d M', Sub M M' → plainD 2 d = true → (∀ ds, d = .tup ds → ds.length ≤ 1000) → nx d M'
section
variable {J : Jx} {ta tb tc : TE} {ρ : Ro} {M : Mp} {E : XK} {R : D → Mp → Prop}
theorem w_l_order {c pl w : Int} (ha : Ev J ta ρ M (.int c)) (hb : Ev J tb ρ M (.int pl)) (hc : Ev J tc ρ M (.int w)) (w3 : 3 ≤ w) (w6 : w ≤ 6) (k : ∀ d M', Sub M M' → plainD 2 d = true → (∀ ds, d = .tup ds → ds.length ≤ 1000) → R d M') : W J (tCall (spD J.K (pr_l_order J.K)) [] E (tCons ta (tCons tb (tCons tc tNil)))) ρ M R :=
  w_call ((ea_cons ha (ea_cons hb (ea_cons hc ea_nil))).w ⟨_, _, _, rfl, c, pl, w, rfl, rfl, rfl, w3, w6, k⟩)
end
abbrev nm_l_order : List Str := ["_law_cell", "_law_place", "_law_width_here", "_law_order_here", "_law_at_here", "_law_way"]
theorem sc_l_order : FnScope nm_l_order ["_law_cell", "_law_place", "_law_width_here"] (defScope s_l_order) := ⟨rfl, rfl, rfl, by decide +kernel, rfl, by decide +kernel, by decide +kernel⟩
theorem ok_l_order (hTx : Tx K mg) : OkF P w K mg base CX0 1 "_law_order" (He.ga K "_law_order") ["_law_cell", "_law_place", "_law_width_here"] (pr_l_order K) := by
  obtain ⟨_, F⟩ := hTx.fnF 43 s_l_order "_law_order" 152
  refine ⟨_, ?_, F.binds (ps := ["_law_cell", "_law_place", "_law_width_here"]) fun _ _ _ _ _ _ us hl => match us, hl with | [_, _, _], _ => rfl, F.kp, hTx.gl 123⟩
  refine fn_dl F sc_l_order (fun _ _ _ _ h => q3_len h) (fun cdv A outer s H E hr => ⟨_, (pss_cons (ps_set (i := 3) sc_l_order.nd rfl (Or.inl rfl) (pe_ix (kx_ixL (K := K) rfl) (pe_lst (pa_cons (pe_lst (pa_cons pe_int pa_nil)) (pa_cons (pe_lst (pa_cons pe_int (pa_cons pe_int pa_nil))) (pa_cons (pe_lst (pa_cons pe_int (pa_cons pe_int pa_nil))) (pa_cons (pe_lst (pa_cons pe_int (pa_cons pe_int (pa_cons pe_int pa_nil)))) pa_nil))))) (pe_op op_mod (pe_op op_fdiv (pv 0) pe_int) pe_int) (fun _ _ => rfl)))
    (pss_cons (ps_set (i := 4) sc_l_order.nd rfl (Or.inl rfl) (pe_op op_mod (pv 1) (pe_callB (kx_len (K := K) rfl) (by rfl) (hTx.fr 1) (by decide +kernel) (pa_cons (pv 3) pa_nil))))
    (pss_cons (ps_set (i := 5) sc_l_order.nd rfl (Or.inl rfl) (pe_op op_mod (pv 0) pe_int))
    (pss_cons (ps_if (pt_cmpR op_eq (pe_op op_mod (pe_op op_fdiv (pv 1) pe_int) pe_int) pe_int (nomark _))
    (pss_one (ps_set (i := 5) sc_l_order.nd rfl (Or.inl rfl) (pe_callB (call_max2 rfl) (by rfl) (hTx.fr 10) (by decide +kernel) (pa_cons (pv 5) (pa_cons pe_int pa_nil)))))
    pss_nil)
    (pss_cons (ps_if (pt_cmpR op_lt (pv 5) pe_int (nomark _))
    (pss_one (ps_asg (pe_ix (kx_ixL (K := K) rfl) (pe_lst (pa_cons pe_bl (pa_cons pe_non (pa_cons (pe_ix (kx_ixL (K := K) rfl) (pe_lst (pa_cons pe_str (pa_cons (pe_lst (pa_cons pe_int pa_nil)) pa_nil))) (pe_op op_mod (pe_op op_fdiv (pv 0) pe_int) pe_int) (fun _ _ => rfl)) (pa_cons (pv 2) (pa_cons (pe_un un_neg pe_int) (pa_cons (pe_op op_add (pv 2) (pe_op op_mod (pe_op op_fdiv (pv 0) pe_int) (pe_op op_powW pe_int pe_int))) pa_nil))))))) (pv 5) (fun _ _ => rfl)) (pg_sub (pv 3) (pv 4) set_list)))
    pss_nil)
    (pss_cons (ps_if (pt_cmpR op_eq (pv 5) pe_int (nomark _))
    (pss_one (ps_expr (pe_bm PySem.F.plainAttrs_list PySem.F.slot_list_insert PySem.F.type_list_insert mt_insert (pv 3) (pa_cons (pv 4) (pa_cons (pe_ix (kx_ixL (K := K) rfl) (pv 3) (pe_op op_mod (pe_op op_fdiv (pv 1) pe_int) (pe_callB (kx_len (K := K) rfl) (by rfl) (hTx.fr 1) (by decide +kernel) (pa_cons (pv 3) pa_nil))) (fun _ _ => rfl)) pa_nil)))))
    pss_nil)
    (pss_cons (ps_if (PW.pt (pw_and (pt_cmpR op_eq (pv 5) pe_int (nomark _)) (pw_and1 (pt_cmpR op_eq (pe_op op_mod (pe_op op_fdiv (pv 1) pe_int) pe_int) pe_int (nomark _)))))
    (pss_one (ps_ret (pe_ix (kx_ixL (K := K) rfl) (pe_lst (pa_cons pe_int (pa_cons (pe_tup pa_nil) (pa_cons (pe_tup (pa_cons pe_bl (pa_cons pe_int pa_nil))) (pa_cons (pe_tup (pa_cons pe_bl pa_nil)) pa_nil))))) (pe_op op_mod (pe_op op_fdiv (pv 1) pe_int) pe_int) (fun _ _ => rfl))))
    pss_nil)
    (pss_cons (ps_if (PW.pt (pw_and (pt_cmpR op_eq (pv 5) pe_int (nomark _)) (pw_and1 (pt_cmpR op_eq (pe_op op_mod (pe_op op_fdiv (pv 1) pe_int) pe_int) pe_int (nomark _)))))
    (pss_one (ps_ret (pv 3)))
    pss_nil)
    (pss_one (ps_ret (pe_callTy (kx_tuple (K := K) rfl) (by rfl) (hTx.fr 5) (by decide +kernel) (pa_cons (pv 3) pa_nil)))))))))))), ?_⟩)
  try dsimp only [cx_K, cx_nK]
  rintro _ M nx xe ⟨_, _, _, rfl, c, pl, w, rfl, rfl, rfl, w3, w6, k⟩
  show S (J0 K) _ [some (.int c), some (.int pl), some (.int w), none, none, none] M _
  have e4 := Int.emod_nonneg (c / 9) (show (4 : Int) ≠ 0 by decide)
  have e4' := Int.emod_lt_of_pos (c / 9) (show (0 : Int) < 4 by decide)
  refine s_seq (s_asg (w_op (w_lst (wa_cons (EvN.w (en_lst (ds := [.int 0]) (ea_cons ev_int ea_nil) (sz (by simp))) fun q0 h0 => wa_cons (EvN.w (en_lst (ds := [.int 2, .int 0]) (ea_cons ev_int (ea_cons ev_int ea_nil)) (sz (by simp))) fun q1 h1 => wa_cons (EvN.w (en_lst (ds := [.int 1, .int 2]) (ea_cons ev_int (ea_cons ev_int ea_nil)) (sz (by simp))) fun q2 h2 => wa_cons (EvN.w (en_lst (ds := [.int 2, .int 1, .int 0]) (ea_cons ev_int (ea_cons ev_int (ea_cons ev_int ea_nil))) (sz (by simp))) fun q3 h3 => wa_nil ⟨sz (by simp), fun p hp => ?_⟩))))))))
  obtain ⟨q, ds, hat, hS⟩ := four_ord rfl rfl rfl rfl rfl h0 h1 h2 h3 hp e4 e4'
  refine Ev.w (by walk_at "ev") (op2_ixL (.r ud_same) hat ?_)
  revert hS
  generalize (ud _ p (.lst [.ref q0, .ref q1, .ref q2, .ref q3])) = M1
  intro hS
  clear h0 h1 h2 h3 hp hat
  have l1 := hS.l1
  have l2 := hS.l2
  refine s_seq (s_asgE (ev_I (ev_var rfl) (ev_len (ev_var rfl) (IsL.r hS.at').q) (by show (0 : Int) < _; omega)) ?_)
  have a0 := Int.emod_nonneg pl (show (ds.length : Int) ≠ 0 by omega)
  have a1 := Int.emod_lt_of_pos pl (show (0 : Int) < ds.length by omega)
  revert a0 a1
  generalize pl % (ds.length : Int) = at'
  intro a0 a1
  refine s_seq (s_asgE (by walk_at "ev") ?_)
  refine s_cut (fun ρ' M' => M' = M1 ∧ ∃ wy, 0 ≤ wy ∧ ρ' = [some (.int c), some (.int pl), some (.int w), some (.ref q), some (.int at'), some (.int wy)]) ?_ ?_
  · have y0 := Int.emod_nonneg c (show (9 : Int) ≠ 0 by decide)
    exact s_if (by walk_at "ev") (fun _ => s_asgE (by walk_at "ev") ⟨rfl, _, by omega, rfl⟩) (fun _ => s_next ⟨rfl, _, y0, rfl⟩)
  rintro ρ' M' ⟨rfl, wy, y0, rfl⟩
  -- one thing in it
  refine s_cut (fun ρ' M2 => ∃ ds, OrdSt M M2 q ds 3 ∧ at' < ds.length ∧ ρ' = [some (.int c), some (.int pl), some (.int w), some (.ref q), some (.int at'), some (.int wy)]) ?_ ?_
  · refine s_if (b := decide (wy < 6)) (et_test (by walk_at "ev")) (fun h => ?_) (fun h => s_next ⟨ds, hS, a1, rfl⟩)
    have h6 : wy < 6 := of_decide_eq_true h
    have e2 := Int.emod_nonneg (c / 9) (show (2 : Int) ≠ 0 by decide)
    have e2' := Int.emod_lt_of_pos (c / 9) (show (0 : Int) < 2 by decide)
    obtain ⟨u, hu, hum⟩ := atI_mem (ds := [.str "0", .lst [.int 0]]) (k := c / 9 % 2) e2 (by simpa using e2')
    have hup : plainD 1 u = true := by
      simp only [List.mem_cons, List.not_mem_nil, or_false] at hum
      rcases hum with rfl | rfl
      · decide +kernel
      · rfl
    obtain ⟨z, hz, hzm⟩ := atI_mem (ds := [.bl true, .non, u, .int w, .int (-1), .int (w + c / 36 % 10 ^ (30 : Int).toNat)]) (k := wy) y0 (by simpa using h6)
    have hzp : plainD 1 z = true := by
      simp only [List.mem_cons, List.not_mem_nil, or_false] at hzm
      rcases hzm with rfl | rfl | rfl | rfl | rfl | rfl
      · rfl
      · rfl
      · exact hup
      · rfl
      · rfl
      · rfl
    refine s_setL (a := q) (k := at') (j := at'.toNat) (ds := ds) (x := z) (ev_ixL (en_lst (ds := [.bl true, .non, u, .int w, .int (-1), .int (w + c / 36 % 10 ^ (30 : Int).toNat)]) (ea_cons ev_bl (ea_cons ev_non (ea_cons (ev_ixL (en_lst (ds := [.str "0", .lst [.int 0]]) (ea_cons ev_str (ea_cons (en_lst (ds := [.int 0]) (ea_cons ev_int ea_nil) (sz (by simp))).ev ea_nil)) (sz (by simp))).ev (by walk_at "ev") .l hu) (ea_cons (ev_var rfl) (ea_cons (by walk_at "ev") (ea_cons (by walk_at "ev") ea_nil)))))) (sz (by simp))).ev (ev_var rfl) .l hz) (ev_var rfl) (ev_var rfl) hS.at' (by unfold ixN; rw [if_pos a0, if_pos (by omega)]) ?_
    refine ⟨ds.set at'.toNat z, ⟨hS.sb.mut hS.no, hS.no, ud_same, by rw [List.length_set]; exact hS.l1, by rw [List.length_set]; exact hS.l2, fun d hd => ?_⟩, by rw [List.length_set]; exact a1, rfl⟩
    rcases List.mem_or_eq_of_mem_set hd with hd | rfl
    · exact hS.pl d hd
    · exact hzp
  clear hS l1 l2 a1 ds
  rintro ρ' M2 ⟨ds, hS, a1, rfl⟩
  have l1 := hS.l1
  have l2 := hS.l2
  -- one thing more
  refine s_cut (fun ρ' M3 => ∃ ds, OrdSt M M3 q ds 4 ∧ ρ' = [some (.int c), some (.int pl), some (.int w), some (.ref q), some (.int at'), some (.int wy)]) ?_ ?_
  · refine s_if (b := decide (wy = 6)) (et_test (by walk_at "ev")) (fun h => ?_) (fun h => s_next ⟨ds, ⟨hS.sb, hS.no, hS.at', hS.l1, by omega, hS.pl⟩, rfl⟩)
    have i0 := Int.emod_nonneg (pl / 4) (show (ds.length : Int) ≠ 0 by omega)
    have i1 := Int.emod_lt_of_pos (pl / 4) (show (0 : Int) < ds.length by omega)
    obtain ⟨z, hz, hzm⟩ := atI_mem i0 i1
    refine s_drop (w_insert (a := q) (i := at') (ds := ds) (x := z) (ev_var rfl) hS.at' (ev_var rfl) (ev_ixL (ds := ds) (ev_var rfl) (ev_I (by walk_at "ev") (ev_len (ev_var rfl) (IsL.r hS.at').q) (by show (0 : Int) < _; omega)) (.r hS.at') hz) (szl (by omega)) a0 (by omega) ?_)
    refine ⟨ds.take at'.toNat ++ [z] ++ ds.drop at'.toNat, ⟨hS.sb.mut hS.no, hS.no, ud_same, by simp; omega, by simp; omega, fun d hd => ?_⟩, rfl⟩
    rcases List.mem_append.mp hd with hd | hd
    · rcases List.mem_append.mp hd with hd | hd
      · exact hS.pl d (List.mem_of_mem_take hd)
      · rw [List.mem_singleton.mp hd]; exact hS.pl z hzm
    · exact hS.pl d (List.mem_of_mem_drop hd)
  clear hS l1 l2 a1 ds
  rintro ρ' M3 ⟨ds, hS, rfl⟩
  have hpl : ds.all (plainD 1) = true := List.all_eq_true.mpr hS.pl
  -- what is none
  have f4 := Int.emod_nonneg (pl / 12) (show (4 : Int) ≠ 0 by decide)
  have f4' := Int.emod_lt_of_pos (pl / 12) (show (0 : Int) < 4 by decide)
  refine s_seq (s_if (by walk_at "ev") (fun _ => ?_) (fun _ => s_next ?_))
  · obtain ⟨z, hz, hzm⟩ := atI_mem (ds := [.int 0, .tup [], .tup [.bl true, .int 0], .tup [.bl false]]) (k := pl / 12 % 4) f4 (by simpa using f4')
    have hzp : plainD 2 z = true ∧ ∀ ds, z = .tup ds → ds.length ≤ 1000 := by
      simp only [List.mem_cons, List.not_mem_nil, or_false] at hzm
      rcases hzm with rfl | rfl | rfl | rfl
      · exact ⟨rfl, fun ds e => by cases e⟩
      · exact ⟨rfl, fun ds e => by cases e; decide⟩
      · exact ⟨rfl, fun ds e => by cases e; decide⟩
      · exact ⟨rfl, fun ds e => by cases e; decide⟩
    exact s_retE (ev_ixL (en_lst (ds := [.int 0, .tup [], .tup [.bl true, .int 0], .tup [.bl false]]) (ea_cons ev_int (ea_cons (ev_tup (ds := []) ea_nil (Nat.zero_le _)) (ea_cons (ev_tup (ds := [.bl true, .int 0]) (ea_cons ev_bl (ea_cons ev_int ea_nil)) (sz (by simp))) (ea_cons (ev_tup (ds := [.bl false]) (ea_cons ev_bl ea_nil) (sz (by simp))) ea_nil)))) (sz (by simp))).ev (by walk_at "ev") .l hz) (k z M3 hS.sb hzp.1 hzp.2)
  refine s_seq (s_if (by walk_at "ev") (fun _ => ?_) (fun _ => s_next ?_))
  · refine s_freeze (a := q) (i := 3) hS.at' rfl ?_
    exact s_retE (ev_var rfl) (k (.lst ds) _ (hS.sb.del hS.no) hpl (fun ds e => by cases e))
  · exact s_retE (ev_tuple (ds := ds) (ev_var rfl) (IsL.r hS.at').q) (k (.tup ds) M3 hS.sb hpl (fun es e => by cases e; have := hS.l2; omega))

theorem plain_tup {n : Nat} {x : D} {M : Mp} (h : plainD n x = true) (t : tyN M x = "tuple") : ∃ ds, x = .tup ds := by
  cases x with
  | tup ds => exact ⟨ds, rfl⟩
  | ty m => cases n <;> cases h
  | ref a => cases n <;> cases h
  | non => exact absurd t (by decide : ("NoneType" : String) ≠ "tuple")
  | bl b => exact absurd t (by decide : ("bool" : String) ≠ "tuple")
  | int i => exact absurd t (by decide : ("int" : String) ≠ "tuple")
  | str s => exact absurd t (by decide : ("str" : String) ≠ "tuple")
  | lst ds => exact absurd t (by decide : ("list" : String) ≠ "tuple")
  | frl ds => exact absurd t (by decide : ("list" : String) ≠ "tuple")
theorem ordB_no {w : Int} {x : D} (h : ∀ ds, x ≠ .tup ds) : ordB w x = false := by
  cases x with
  | tup ds => exact absurd rfl (h ds)
  | _ => rfl
def pr_l_good_order (K : PySem.W.Frag) : Pr := q2 fun x y M nx _ => ∃ (w : Int) (n : Nat), y = .int w ∧ plainD (n + 1) x = true ∧ (∀ ds, x = .tup ds → ds.length ≤ 1000) ∧ nx (.bl (ordB w x)) M
section
variable {J : Jx} {ta tb : TE} {ρ : Ro} {M : Mp} {E : XK} {x : D}
theorem ev_l_good_order {w : Int} {n : Nat} (ha : Ev J ta ρ M x) (hb : Ev J tb ρ M (.int w)) (hp : plainD (n + 1) x = true) (hl : ∀ ds, x = .tup ds → ds.length ≤ 1000) : Ev J (tCall (spD J.K (pr_l_good_order J.K)) [] E (tCons ta (tCons tb tNil))) ρ M (.bl (ordB w x)) :=
  w_call ((ea_cons ha (ea_cons hb ea_nil)).w ⟨_, _, rfl, w, n, rfl, hp, hl, rfl, rfl⟩)
end
abbrev nm_l_good_order : List Str := ["_law_order_here", "_law_width_here", "_law_one"]
theorem sc_l_good_order : FnScope nm_l_good_order ["_law_order_here", "_law_width_here"] (defScope s_l_good_order) := ⟨rfl, rfl, rfl, by decide +kernel, rfl, by decide +kernel, by decide +kernel⟩
theorem ok_l_good_order (hTx : Tx K mg) : OkF P w K mg base CX0 1 "_law_good_order" (He.ga K "_law_good_order") ["_law_order_here", "_law_width_here"] (pr_l_good_order K) := by
  obtain ⟨_, F⟩ := hTx.fnF 44 s_l_good_order "_law_good_order" 153
  refine ⟨_, ?_, F.binds (ps := ["_law_order_here", "_law_width_here"]) fun _ _ _ _ _ _ us hl => match us, hl with | [_, _], _ => rfl, F.kp, hTx.gl 124⟩
  refine fn_dl F sc_l_good_order (fun _ _ _ _ h => q2_len h) (fun cdv A outer s H E hr => ⟨_, (pss_cons (ps_if (PW.pt (pw_or (pt_not (pt_val (pe_callB (kx_isi (K := K) rfl) (by rfl) (hTx.fr 3) (by decide +kernel) (pa_cons (pv 0) (pa_cons (pe_bltn (v := .ty "tuple") (by rfl) (hTx.fr 5) (by decide +kernel) rfl) pa_nil))))) (pw_or1 (pt_cmpR op_eq (pe_callB (kx_len (K := K) rfl) (by rfl) (hTx.fr 1) (by decide +kernel) (pa_cons (pv 0) pa_nil)) pe_int (nomark _)))))
    (pss_one (ps_ret pe_bl))
    pss_nil)
    (pss_cons (ps_for PassesOwn.never rfl (kx_ptup (K := K) rfl (pv 0)) (pg_name (i := 2) sc_l_good_order.nd rfl (Or.inl rfl))
    (pss_one (ps_if (PW.pt (pw_or (pt_val (pe_callB (kx_isi (K := K) rfl) (by rfl) (hTx.fr 3) (by decide +kernel) (pa_cons (pv 2) (pa_cons (pe_bltn (v := .ty "bool") (by rfl) (hTx.fr 4) (by decide +kernel) rfl) pa_nil)))) (pw_or (pt_not (pt_val (pe_callB (kx_isi (K := K) rfl) (by rfl) (hTx.fr 3) (by decide +kernel) (pa_cons (pv 2) (pa_cons (pe_bltn (v := .ty "int") (by rfl) (hTx.fr 2) (by decide +kernel) rfl) pa_nil))))) (pw_or1 (pt_not (pt_chain op_le op_lt pe_int (pv 2) (pv 1)))))))
    (pss_one (ps_ret pe_bl))
    pss_nil)))
    (pss_one (ps_ret (pe_cmpR op_eq (pe_lenSetT rfl (by rfl) (hTx.fr 1) (by rfl) (hTx.fr 34) (pv 0)) (pe_callB (kx_len (K := K) rfl) (by rfl) (hTx.fr 1) (by decide +kernel) (pa_cons (pv 0) pa_nil)) (nomark _)))))), ?_⟩)
  try dsimp only [cx_K, cx_nK]
  rintro _ M nx xe ⟨x, _, rfl, w, n, rfl, hp, hl, k⟩
  show S (J0 K) _ [some x, some (.int w), none] M _
  have ht := plain_ty (M := M) hp
  by_cases hx : ∃ ds, x = .tup ds
  rotate_left
  · have e : tyN M x ≠ "tuple" := fun z => hx (plain_tup hp z)
    rw [ordB_no fun ds z => hx ⟨ds, z⟩] at k
    refine s_seq (s_if (b := true) ?_ (fun _ => s_retE ev_bl k) (fun z => nomatch z))
    exact et_or (b := true) (c := false) (et_not (b := false) ((et_B (ev_isi (ev_var rfl) ev_ty (kit_tl M x ht).1 ht)).is (decide_eq_false e))) fun z => nomatch z
  obtain ⟨ds, rfl⟩ := hx
  have hl := hl ds rfl
  have hty := plain_tys (M := M) hp
  have eb : ordB w (.tup ds) = (!ds.isEmpty && (ds.all (colB w) && decide (colsOf ds).Nodup)) := rfl
  refine s_seq (s_if (b := decide ((ds.length : Int) = 0)) ?_ (fun h => ?_) (fun h => s_next ?_))
  · exact (et_or (b := false) (c := decide ((ds.length : Int) = 0)) (et_not (b := true) (et_B (ev_isiT (b := true) "tuple" (ev_var rfl) ev_ty rfl (by decide +kernel) (by decide)))) fun _ => et_test (ev_eqI (ev_len (ev_var rfl) .t) ev_int)).is (by simp)
  · have e : ds = [] := List.length_eq_zero_iff.mp (by have := of_decide_eq_true h; omega)
    rw [eb, e] at k
    exact s_retE ev_bl k
  have he : ds.isEmpty = false := by
    cases ds with
    | nil => exact absurd (of_decide_eq_false h) (fun z => z rfl)
    | cons a l => rfl
  rw [eb, he] at k
  refine s_seq (s_for (src_t (ev_var rfl)) (fun i ρ' M' => M' = M ∧ (∃ a, ρ' = [some (.tup ds), some (.int w), a]) ∧ ∀ j, j < i → ∀ d, ds[j]? = some d → colB w d = true) ⟨rfl, ⟨_, rfl⟩, fun j hj => absurd hj (Nat.not_lt_zero _)⟩ (fun _ _ _ _ => trivial) ?_ ?_)
  · rintro i d ρ' M' hdd ⟨rfl, ⟨a, rfl⟩, hg⟩
    have hdm := List.mem_of_getElem? hdd
    have hd := hty d hdm
    refine sg_name ?_
    refine s_if (b := !colB w d) ?_ (fun hw => ?_) (fun hw => s_next ⟨rfl, ⟨_, rfl⟩, fun j hj e he => ?_⟩)
    · rcases whole_cases d with h | ⟨m, rfl⟩
      · have e : colB w d = false := by
          cases d with
          | int i => cases h
          | _ => rfl
        rw [e]
        obtain ⟨a, b, h1, h2, h3⟩ := whole_kit M' d hd
        rw [h] at h3
        cases b with
        | true => exact et_or (b := true) (c := false) (et_B (ev_isi (ev_var rfl) ev_ty h2 hd)) fun z => nomatch z
        | false =>
          have ea : a = false := by
            cases a with
            | false => rfl
            | true => cases h3
          rw [ea] at h1
          exact et_or (b := false) (c := true) (et_B (ev_isi (ev_var rfl) ev_ty h2 hd)) fun _ => et_or (b := true) (c := false) (et_not (b := false) (et_B (ev_isi (ev_var rfl) ev_ty h1 hd))) fun z => nomatch z
      · refine (et_or (b := false) (c := !colB w (.int m)) (et_B (ev_isiT (b := false) "int" (ev_var rfl) ev_ty rfl (by decide +kernel) (by decide))) fun _ => (et_or (b := false) (c := !colB w (.int m)) (et_not (b := true) (et_B (ev_isiT (b := true) "int" (ev_var rfl) ev_ty rfl (by decide +kernel) (by decide)))) fun _ => ?_)).is (by simp)
        exact et_not (b := colB w (.int m)) (et_test (ev_chainB (f := fun i j => decide (i ≤ j)) (g := fun i j => decide (i < j)) ev_int (ev_var rfl) (ev_var rfl)))
    · have e : ds.all (colB w) = false := by
        rw [List.all_eq_false]
        exact ⟨d, hdm, by rw [show colB w d = false by simpa using hw]; exact Bool.false_ne_true⟩
      rw [e] at k
      exact s_retE ev_bl k
    · rcases Nat.lt_or_eq_of_le (Nat.le_of_lt_succ hj) with z | z
      · exact hg j z e he
      · rw [z, hdd] at he
        cases he
        simpa using hw
  rintro ρ' M' ⟨rfl, ⟨a, rfl⟩, hg⟩
  have hall : ∀ d ∈ ds, colB w d = true := fun d hd => by
    obtain ⟨j, hj⟩ := List.mem_iff_getElem?.mp hd
    exact hg j (lt_of_get hj) d hj
  rw [List.all_eq_true.mpr hall] at k
  obtain ⟨cols, rfl, hc⟩ := cols_of hall
  rw [colsOf_ints] at k
  refine s_ret (w_op (w_lenSet (ev_var rfl) (by rw [← List.length_map (f := D.int)]; exact hl) fun m hm hn => Ev.w (ev_len (ev_var rfl) .t) (op2_eqI ?_)))
  have e : decide ((m : Int) = ((cols.map D.int).length : Int)) = (!false && (true && decide cols.Nodup)) := by
    rw [List.length_map, Bool.eq_iff_iff]
    simp
    rw [← hn]
    omega
  rw [e]
  exact k

/-- a wish that the law holds for good -/
def wishGood (c pl : Int) : Bool := if c % 4 = 0 then decide (pl / 21 % 21 = 20) else if c % 4 = 1 then decide (c / 4 % 2 = 0) else decide (c % 4 = 3) || !decide (c / 4 % 4 = 1)
/-- a thing that tells its type by itself, and so do those in it -/
def flatT : D → Bool
  | .tup ds => ds.all flatD
  | x => flatD x
theorem flatT_ty {M : Mp} {x : D} (h : flatT x = true) : TripTy M x := by
  cases x with
  | tup ds => exact ⟨tyN_fl rfl, fun es e d hd => by cases e; exact tyN_fl (List.all_eq_true.mp h d hd)⟩
  | ty n => cases h
  | ref a => cases h
  | _ => exact ⟨tyN_fl rfl, fun es e => by cases e⟩
theorem flatT_tD (t : Tr) : flatT (tD t) = true := by
  obtain ⟨a, b, c⟩ := t
  cases b <;> cases c <;> rfl
def WishDs (w : Int) (ds : List D) : Prop := ds.length > 20 ∨ ds.length ≤ 20 ∧ (∀ d ∈ ds, flatT d = true) ∧ ∃ d ∈ ds, tripB w d = false
theorem WishDs.bad {M : Mp} {w : Int} {x : D} {ds : List D} (h : WishDs w ds) (hx : IsM M x ds) : WishBad M w x := by
  rcases h with h | ⟨h1, h2, h3⟩
  · exact .inr ⟨ds, hx, .inl h⟩
  · exact .inr ⟨ds, hx, .inr ⟨h1, fun d hd => flatT_ty (h2 d hd), h3⟩⟩
def WishGot (M M' : Mp) (w : Int) (good : Bool) (d : D) : Prop :=
  (good = true ∧ ∃ p wish, d = .ref p ∧ M p = none ∧ M' p = some (.lst (wish.map tD)) ∧ WishOk w wish) ∨
  (good = false ∧ WishBad M' w d ∧ ((∃ p ds, d = .ref p ∧ M p = none ∧ M' p = some (.lst ds)) ∨ (tyN M' d ≠ "" ∧ tyN M' d ≠ "list")))
abbrev some1 (w : Int) : List D := [.lst [.int 0, .int 1, .int 2], .tup [.int 0, .int 1], .tup [.int 0, .int 1, .int 2, .int 3], .tup [.int w, .non, .non], .tup [.int (-1), .int 1, .int 1], .tup [.bl true, .int 1, .int 1], .tup [.non, .int 1, .int 1]]
abbrev some2 : List D := [.tup [.str "0", .int 1, .int 1], .tup [.int 0, .bl true, .non], .tup [.int 0, .non, .bl false], .tup [.int 0, .str "1", .non], .tup [.int 0, .int 1, .lst [.int 2]], .non, .tup [.lst [.int 0], .int 1, .int 1]]
theorem some_bad {w : Int} : ∀ z ∈ some1 w ++ some2, flatT z = true ∧ tripB w z = false := fun z hz => by
  rcases List.mem_append.mp hz with h | h
  · simp only [some1, List.mem_cons, List.not_mem_nil, or_false] at h
    rcases h with rfl | rfl | rfl | rfl | rfl | rfl | rfl
    · exact ⟨rfl, rfl⟩
    · exact ⟨rfl, rfl⟩
    · exact ⟨rfl, rfl⟩
    · exact ⟨rfl, by simp [tripB, colB]⟩
    · exact ⟨rfl, by simp [tripB, colB]⟩
    · exact ⟨rfl, rfl⟩
    · exact ⟨rfl, rfl⟩
  · simp only [some2, List.mem_cons, List.not_mem_nil, or_false] at h
    rcases h with rfl | rfl | rfl | rfl | rfl | rfl | rfl
    · exact ⟨rfl, rfl⟩
    · exact ⟨rfl, by simp [tripB, endB]⟩
    · exact ⟨rfl, by simp [tripB, endB]⟩
    · exact ⟨rfl, by simp [tripB, endB]⟩
    · exact ⟨rfl, by simp [tripB, endB]⟩
    · exact ⟨rfl, rfl⟩
    · exact ⟨rfl, rfl⟩
theorem rep_one {α : Type} (x : α) (n : Nat) : (List.replicate n [x]).flatten = List.replicate n x := by
  induction n with
  | zero => rfl
  | succ n ih => rw [List.replicate_succ, List.replicate_succ, List.flatten_cons, ih]; rfl
def pr_l_wish (K : PySem.W.Frag) : Pr := q3 fun x y z M nx _ => ∃ c pl w : Int, x = .int c ∧ y = .int pl ∧ z = .int w ∧ 3 ≤ w ∧ w ≤ 6 ∧ ∀ d M', Sub M M' → WishGot M M' w (wishGood c pl) d → nx d M'
section
variable {J : Jx} {ta tb tc : TE} {ρ : Ro} {M : Mp} {E : XK} {R : D → Mp → Prop}
theorem w_l_wish {c pl w : Int} (ha : Ev J ta ρ M (.int c)) (hb : Ev J tb ρ M (.int pl)) (hc : Ev J tc ρ M (.int w)) (w3 : 3 ≤ w) (w6 : w ≤ 6) (k : ∀ d M', Sub M M' → WishGot M M' w (wishGood c pl) d → R d M') : W J (tCall (spD J.K (pr_l_wish J.K)) [] E (tCons ta (tCons tb (tCons tc tNil)))) ρ M R :=
  w_call ((ea_cons ha (ea_cons hb (ea_cons hc ea_nil))).w ⟨_, _, _, rfl, c, pl, w, rfl, rfl, rfl, w3, w6, k⟩)
end
abbrev nm_l_wish : List Str := ["_law_cell", "_law_place", "_law_width_here", "_law_some", "_law_size", "_law_wish_here", "_law_k"]
theorem sc_l_wish : FnScope nm_l_wish ["_law_cell", "_law_place", "_law_width_here"] (defScope s_l_wish) := ⟨rfl, rfl, rfl, by decide +kernel, rfl, by decide +kernel, by decide +kernel⟩
theorem ok_l_wish (hTx : Tx K mg) : OkF P w K mg base CX0 1 "_law_wish" (He.ga K "_law_wish") ["_law_cell", "_law_place", "_law_width_here"] (pr_l_wish K) := by
  obtain ⟨_, F⟩ := hTx.fnF 45 s_l_wish "_law_wish" 154
  refine ⟨_, ?_, F.binds (ps := ["_law_cell", "_law_place", "_law_width_here"]) fun _ _ _ _ _ _ us hl => match us, hl with | [_, _, _], _ => rfl, F.kp, hTx.gl 125⟩
  refine fn_dl F sc_l_wish (fun _ _ _ _ h => q3_len h) (fun cdv A outer s H E hr => ⟨_, (pss_cons (ps_set (i := 3) sc_l_wish.nd rfl (Or.inl rfl) (pe_lst (pa_cons (pe_lst (pa_cons pe_int (pa_cons pe_int (pa_cons pe_int pa_nil)))) (pa_cons (pe_tup (pa_cons pe_int (pa_cons pe_int pa_nil))) (pa_cons (pe_tup (pa_cons pe_int (pa_cons pe_int (pa_cons pe_int (pa_cons pe_int pa_nil))))) (pa_cons (pe_tup (pa_cons (pv 2) (pa_cons pe_non (pa_cons pe_non pa_nil)))) (pa_cons (pe_tup (pa_cons (pe_un un_neg pe_int) (pa_cons pe_int (pa_cons pe_int pa_nil)))) (pa_cons (pe_tup (pa_cons pe_bl (pa_cons pe_int (pa_cons pe_int pa_nil)))) (pa_cons (pe_tup (pa_cons pe_non (pa_cons pe_int (pa_cons pe_int pa_nil)))) pa_nil)))))))))
    (pss_cons (ps_set (i := 3) sc_l_wish.nd rfl (Or.inl rfl) (pe_op op_cat (pv 3) (pe_lst (pa_cons (pe_tup (pa_cons pe_str (pa_cons pe_int (pa_cons pe_int pa_nil)))) (pa_cons (pe_tup (pa_cons pe_int (pa_cons pe_bl (pa_cons pe_non pa_nil)))) (pa_cons (pe_tup (pa_cons pe_int (pa_cons pe_non (pa_cons pe_bl pa_nil)))) (pa_cons (pe_tup (pa_cons pe_int (pa_cons pe_str (pa_cons pe_non pa_nil)))) (pa_cons (pe_tup (pa_cons pe_int (pa_cons pe_int (pa_cons (pe_lst (pa_cons pe_int pa_nil)) pa_nil)))) (pa_cons pe_non (pa_cons (pe_tup (pa_cons (pe_lst (pa_cons pe_int pa_nil)) (pa_cons pe_int (pa_cons pe_int pa_nil)))) pa_nil))))))))))
    (pss_cons (ps_set (i := 4) sc_l_wish.nd rfl (Or.inl rfl) (pe_op op_mod (pe_op op_fdiv (pv 1) pe_int) pe_int))
    (pss_cons (ps_setLc (i := 5) (own := [("_law_k", 6)]) (g := gName 6) rfl sc_l_wish.nd rfl rfl (sw_true rfl rfl rfl (by decide +kernel)) (pi_range1 rfl (hTx.fr 61) (pa_cons (pv 4) pa_nil)) (blkOk_by (N := nm_l_wish) (sc := defScope s_l_wish) (own := [("_law_k", 6)]) (by decide +kernel)) (fun _ _ _ _ _ => pg_name (i := 6) sc_l_wish.nd rfl (Or.inl rfl)) (fun _ _ _ _ _ => pts_nil) (fun _ _ _ _ _ => (pe_tup (pa_cons (pe_op op_mod (pv 6) (pv 2)) (pa_cons pe_non (pa_cons pe_int pa_nil))))))
    (pss_cons (ps_if (PW.pt (pw_and (pt_cmpR op_eq (pe_op op_mod (pv 0) pe_int) pe_int (nomark _)) (pw_and1 (pt_cmpR op_lt (pv 4) pe_int (nomark _)))))
    (pss_one (ps_expr (pe_bm PySem.F.plainAttrs_list PySem.F.slot_list_insert PySem.F.type_list_insert mt_insert (pv 5) (pa_cons (pe_op op_mod (pv 1) (pe_op op_add (pv 4) pe_int)) (pa_cons (pe_ix (kx_ixL (K := K) rfl) (pv 3) (pe_op op_mod (pe_op op_fdiv (pv 0) pe_int) pe_int) (fun _ _ => rfl)) pa_nil)))))
    pss_nil)
    (pss_cons (ps_if (pt_cmpR op_eq (pe_op op_mod (pv 0) pe_int) pe_int (nomark _))
    (pss_one (ps_set (i := 5) sc_l_wish.nd rfl (Or.inl rfl) (pe_op op_cat (pv 5) (pe_op op_rep (pe_lst (pa_cons (pe_tup (pa_cons pe_int (pa_cons pe_int (pa_cons pe_int pa_nil)))) pa_nil)) (pe_op op_sub (pe_op op_add pe_int (pe_op op_mod (pe_op op_fdiv (pv 0) pe_int) pe_int)) (pv 4))))))
    pss_nil)
    (pss_cons (ps_if (PW.pt (pw_and (pt_cmpR op_eq (pe_op op_mod (pv 0) pe_int) pe_int (nomark _)) (pw_and1 (pt_cmpR op_eq (pe_op op_mod (pe_op op_fdiv (pv 0) pe_int) pe_int) pe_int (nomark _)))))
    (pss_one (ps_ret (pe_ix (kx_ixL (K := K) rfl) (pe_lst (pa_cons (pe_callTy (kx_tuple (K := K) rfl) (by rfl) (hTx.fr 5) (by decide +kernel) (pa_cons (pv 5) pa_nil)) (pa_cons pe_non (pa_cons pe_dnewK pa_nil)))) (pe_op op_mod (pe_op op_fdiv (pv 0) pe_int) pe_int) (fun _ _ => rfl))))
    pss_nil)
    (pss_one (ps_ret (pv 5)))))))))), ?_⟩)
  try dsimp only [cx_K, cx_nK]
  rintro _ M nx xe ⟨_, _, _, rfl, c, pl, w, rfl, rfl, rfl, w3, w6, k⟩
  show S (J0 K) _ [some (.int c), some (.int pl), some (.int w), none, none, none, none] M _
  refine s_seq (s_asgE (en_lst (ds := some1 w) (ea_cons (en_lst (ds := [.int 0, .int 1, .int 2]) (by walk_at "ev") (sz (by simp))).ev (ea_cons (ev_tup (ds := [.int 0, .int 1]) (by walk_at "ev") (sz (by simp))) (ea_cons (ev_tup (ds := [.int 0, .int 1, .int 2, .int 3]) (by walk_at "ev") (sz (by simp))) (ea_cons (ev_tup (ds := [.int w, .non, .non]) (by walk_at "ev") (sz (by simp))) (ea_cons (ev_tup (ds := [.int (-1), .int 1, .int 1]) (by walk_at "ev") (sz (by simp))) (ea_cons (ev_tup (ds := [.bl true, .int 1, .int 1]) (by walk_at "ev") (sz (by simp))) (ea_cons (ev_tup (ds := [.non, .int 1, .int 1]) (by walk_at "ev") (sz (by simp))) ea_nil))))))) (sz (by simp))).ev ?_)
  refine s_seq (s_asgE (en_cat (ds := some1 w) (es := some2) (ev_var rfl) (en_lst (ds := some2) (ea_cons (ev_tup (ds := [.str "0", .int 1, .int 1]) (by walk_at "ev") (sz (by simp))) (ea_cons (ev_tup (ds := [.int 0, .bl true, .non]) (by walk_at "ev") (sz (by simp))) (ea_cons (ev_tup (ds := [.int 0, .non, .bl false]) (by walk_at "ev") (sz (by simp))) (ea_cons (ev_tup (ds := [.int 0, .str "1", .non]) (by walk_at "ev") (sz (by simp))) (ea_cons (ev_tup (ds := [.int 0, .int 1, .lst [.int 2]]) (ea_cons ev_int (ea_cons ev_int (ea_cons (en_lst (ds := [.int 2]) (by walk_at "ev") (sz (by simp))).ev ea_nil))) (sz (by simp))) (ea_cons ev_non (ea_cons (ev_tup (ds := [.lst [.int 0], .int 1, .int 1]) (ea_cons (en_lst (ds := [.int 0]) (by walk_at "ev") (sz (by simp))).ev (by walk_at "ev")) (sz (by simp))) ea_nil))))))) (sz (by simp))).ev .l .l (sz (by simp))).ev ?_)
  obtain ⟨so, hso⟩ : ∃ so, so = some1 w ++ some2 := ⟨_, rfl⟩
  have hsl : so.length = 14 := by rw [hso]; rfl
  have hsb := some_bad (w := w)
  rw [← hso] at hsb ⊢
  clear hso
  refine s_seq (s_asgE (by walk_at "ev") ?_)
  have z0 := Int.emod_nonneg (pl / 21) (show (21 : Int) ≠ 0 by decide)
  have z1 := Int.emod_lt_of_pos (pl / 21) (show (0 : Int) < 21 by decide)
  obtain ⟨size, hsize⟩ : ∃ size, pl / 21 % 21 = size := ⟨_, rfl⟩
  have hg : wishGood c pl = if c % 4 = 0 then decide (size = 20) else if c % 4 = 1 then decide (c / 4 % 2 = 0) else decide (c % 4 = 3) || !decide (c / 4 % 4 = 1) := by unfold wishGood; rw [hsize]
  rw [hsize] at z0 z1 ⊢
  clear hsize
  refine s_seq (s_asg (EvN.w (EvN.is (es := ((List.range size.toNat).map fun (j : Nat) => (((j : Int) % w, none, some 1) : Tr)).map tD) (en_rng (n := size) (fun j => tD (j % w, none, some 1)) (ev_var rfl) (by omega) (by omega) (fun M1 j sb j0 j1 => ev_tup (ds := [.int (j % w), .non, .int 1]) (ea_cons (ev_I (ev_var rfl) (ev_var rfl) (by show (0 : Int) < w; omega)) (ea_cons ev_non (ea_cons ev_int ea_nil))) (sz (by simp)))) (by rw [List.map_map] <;> rfl)) fun p hp => ?_))
  have hl : (((List.range size.toNat).map fun (j : Nat) => (((j : Int) % w, none, some 1) : Tr)).length : Int) = size := by rw [List.length_map, List.length_range]; omega
  have hc : ∀ t ∈ (List.range size.toNat).map fun (j : Nat) => (((j : Int) % w, none, some 1) : Tr), 0 ≤ t.1 ∧ t.1 < w := fun t ht => by
    obtain ⟨j, _, rfl⟩ := List.mem_map.mp ht
    exact ⟨Int.emod_nonneg _ (by omega), Int.emod_lt_of_pos _ (by omega)⟩
  revert hl hc
  generalize ((List.range size.toNat).map fun (j : Nat) => (((j : Int) % w, none, some 1) : Tr)) = wish
  intro hl hc
  -- a wrong one put in
  refine s_cut (fun ρ' M' => ∃ ds, M' = ud M p (.lst ds) ∧ ((c % 4 = 0 ∧ size < 20 ∧ WishDs w ds) ∨ (¬ (c % 4 = 0 ∧ size < 20) ∧ ds = wish.map tD)) ∧ ρ' = [some (.int c), some (.int pl), some (.int w), some (.lst so), some (.int size), some (.ref p), none]) ?_ ?_
  · refine s_if (b := decide (c % 4 = 0) && decide (size < 20)) (by walk_at "ev") (fun h => ?_) (fun h => s_next ⟨_, rfl, .inr ⟨fun z => (by rw [decide_eq_true z.1, decide_eq_true z.2] at h; cases h), rfl⟩, rfl⟩)
    obtain ⟨h1, h2⟩ := Bool.and_eq_true_iff.mp h
    have h1 : c % 4 = 0 := of_decide_eq_true h1
    have h2 : size < 20 := of_decide_eq_true h2
    have i0 := Int.emod_nonneg pl (show size + 1 ≠ 0 by omega)
    have i1 := Int.emod_lt_of_pos pl (show 0 < size + 1 by omega)
    obtain ⟨z, hz, hzm⟩ := atI_mem (ds := so) (k := c / 4 % 14) (Int.emod_nonneg _ (by decide)) (by rw [hsl]; exact Int.emod_lt_of_pos _ (by decide))
    refine s_drop (w_insert (a := p) (i := pl % (size + 1)) (ds := wish.map tD) (x := z) (ev_var rfl) ud_same (ev_I (ev_var rfl) (ev_I0 (ev_var rfl) ev_int) (by show (0 : Int) < size + 1; omega)) (ev_ixL (ds := so) (ev_var rfl) (by walk_at "ev") .l hz) (szl (by rw [List.length_map]; omega)) i0 (by omega) ?_)
    refine ⟨_, ud_ud, .inl ⟨h1, h2, .inr ⟨by simp; omega, fun d hd => ?_, z, by simp, (hsb z hzm).2⟩⟩, rfl⟩
    rcases List.mem_append.mp hd with hd | hd
    · rcases List.mem_append.mp hd with hd | hd
      · obtain ⟨t, _, rfl⟩ := List.mem_map.mp (List.mem_of_mem_take hd)
        exact flatT_tD t
      · rw [List.mem_singleton.mp hd]; exact (hsb z hzm).1
    · obtain ⟨t, _, rfl⟩ := List.mem_map.mp (List.mem_of_mem_drop hd)
      exact flatT_tD t
  rintro ρ' M1 ⟨ds, rfl, hds, rfl⟩
  -- up to 20 or 21
  refine s_cut (fun ρ' M' => ∃ q ds, Sub M M' ∧ M q = none ∧ M' q = some (.lst ds) ∧ ((WishDs w ds ∧ wishGood c pl = false ∧ c % 4 ≠ 2) ∨ ∃ wish, ds = wish.map tD ∧ WishOk w wish ∧ (c % 4 = 2 ∨ wishGood c pl = true)) ∧ ρ' = [some (.int c), some (.int pl), some (.int w), some (.lst so), some (.int size), some (.ref q), none]) ?_ ?_
  · refine s_if (b := decide (c % 4 = 1)) (by walk_at "ev") (fun h => ?_) (fun h => s_next ⟨p, ds, Sub.new hp, hp, ud_same, ?_, rfl⟩)
    · have h1 : c % 4 = 1 := of_decide_eq_true h
      rw [if_neg (by omega), if_pos h1] at hg
      have hd : ds = wish.map tD := by
        rcases hds with ⟨h2, _⟩ | ⟨_, h2⟩
        · omega
        · exact h2
      subst hd
      have e0 := Int.emod_nonneg (c / 4) (show (2 : Int) ≠ 0 by decide)
      have e1 := Int.emod_lt_of_pos (c / 4) (show (0 : Int) < 2 by decide)
      refine s_asg (EvN.w (en_cat (ds := wish.map tD) (es := (List.replicate (20 + c / 4 % 2 - size).toNat [tD (0, some 1, some 2)]).flatten) (ev_var rfl) (en_rep (ds := [tD (0, some 1, some 2)]) (k := 20 + c / 4 % 2 - size) (en_lst (ds := [tD (0, some 1, some 2)]) (ea_cons (ev_tup (ds := [.int 0, .int 1, .int 2]) (by walk_at "ev") (sz (by simp))) ea_nil) (sz (by simp))).ev (by walk_at "ev") .l (by omega) (by omega) (sz (by simp; omega))).ev (.r ud_same) .l (sz (by rw [rep_one]; simp; omega))) fun q hq => ?_)
      rw [rep_one]
      refine ⟨q, _, (Sub.new hp).mut ((Sub.new hp).back hq), (Sub.new hp).back hq, ud_same, ?_, rfl⟩
      rcases (show c / 4 % 2 = 0 ∨ c / 4 % 2 = 1 by omega) with e | e
      · refine .inr ⟨wish ++ List.replicate (20 + c / 4 % 2 - size).toNat (0, some 1, some 2), by rw [List.map_append, List.map_replicate], ⟨fun t ht => ?_, by rw [List.length_append, List.length_replicate]; omega⟩, .inr (by rw [hg]; exact decide_eq_true e)⟩
        rcases List.mem_append.mp ht with ht | ht
        · exact hc t ht
        · rw [(List.mem_replicate.mp ht).2]; exact ⟨Int.le_refl 0, by show (0 : Int) < w; omega⟩
      · exact .inl ⟨.inl (by rw [List.length_append, List.length_replicate, List.length_map]; omega), by rw [hg]; exact decide_eq_false (by omega), by omega⟩
    · have h1 : ¬ c % 4 = 1 := of_decide_eq_false h
      rcases hds with ⟨h2, h3, h4⟩ | ⟨h2, rfl⟩
      · rw [if_pos h2] at hg
        exact .inl ⟨h4, by rw [hg]; exact decide_eq_false (by omega), by omega⟩
      · refine .inr ⟨wish, rfl, ⟨hc, by omega⟩, ?_⟩
        by_cases h0 : c % 4 = 0
        · rw [if_pos h0] at hg
          exact .inr (by rw [hg]; exact decide_eq_true (by omega))
        · rw [if_neg h0, if_neg h1] at hg
          rcases (show c % 4 = 2 ∨ c % 4 = 3 by omega) with e | e
          · exact .inl e
          · exact .inr (by rw [hg, decide_eq_true e]; rfl)
  clear hds hl hc hp
  rintro ρ' M2 ⟨q, ds, sb, hq, hq2, hds, rfl⟩
  have e3 := Int.emod_nonneg (c / 16) (show (3 : Int) ≠ 0 by decide)
  have e3' := Int.emod_lt_of_pos (c / 16) (show (0 : Int) < 3 by decide)
  refine s_seq (s_if (b := decide (c % 4 = 2) && decide (c / 4 % 4 = 1)) (by walk_at "ev") (fun h => ?_) (fun h => s_next ?_))
  · obtain ⟨h1, h2⟩ := Bool.and_eq_true_iff.mp h
    have h1 : c % 4 = 2 := of_decide_eq_true h1
    have h2 : c / 4 % 4 = 1 := of_decide_eq_true h2
    rw [if_neg (by omega), if_neg (by omega), decide_eq_false (show ¬ c % 4 = 3 by omega), decide_eq_true h2] at hg
    refine s_ret (w_op (w_lst (wa_cons ((ev_tuple (ds := ds) (ev_var rfl) (IsL.r hq2).q).w (wa_cons (ev_non.w (wa_cons (w_dnew fun a ha => wa_nil ⟨sz (by simp), fun b hb => ?_⟩))))))))
    have sb2 := Sub.new (o := .lst [.tup ds, .non, .ref a]) hb
    obtain ⟨z, hz, hzm⟩ := atI_mem (ds := [.tup ds, .non, .ref a]) (k := c / 16 % 3) e3 (by simpa using e3')
    refine Ev.w (by walk_at "ev") (op2_ixL (.r ud_same) hz (k z _ ((sb.trans (Sub.new ha)).trans sb2) (.inr ?_)))
    have ty : tyN (ud (ud M2 a (.dct [])) b (.lst [.tup ds, .non, .ref a])) z ≠ "" ∧ tyN (ud (ud M2 a (.dct [])) b (.lst [.tup ds, .non, .ref a])) z ≠ "list" := by
      simp only [List.mem_cons, List.not_mem_nil, or_false] at hzm
      rcases hzm with rfl | rfl | rfl
      · exact ⟨tyN_fl rfl, (by decide : ("tuple" : String) ≠ "list")⟩
      · exact ⟨tyN_fl rfl, (by decide : ("NoneType" : String) ≠ "list")⟩
      · have e : (ud (ud M2 a (.dct [])) b (.lst [.tup ds, .non, .ref a])) a = some (.dct []) := sb2 _ _ ud_same
        simp only [tyN, e]
        exact ⟨by decide, by decide⟩
    exact ⟨by rw [hg]; rfl, .inl ty, .inr ty⟩
  refine s_retE (ev_var rfl) (k _ M2 sb ?_)
  rcases hds with ⟨h1, h2, h3⟩ | ⟨wish2, rfl, h1, h2⟩
  · exact .inr ⟨h2, h1.bad (.r hq2), .inl ⟨q, ds, rfl, hq, hq2⟩⟩
  · refine .inl ⟨?_, q, wish2, rfl, hq, hq2, h1⟩
    rcases h2 with h2 | h2
    · rw [if_neg (by omega), if_neg (by omega)] at hg
      rw [hg]
      have : ¬ c / 4 % 4 = 1 := fun z => by rw [decide_eq_true h2, decide_eq_true z] at h; cases h
      rw [decide_eq_false this]
      simp
    · exact h2

def pr_l_good_wish (K : PySem.W.Frag) : Pr := q2 fun x y M nx _ => ∃ c pl : Int, x = .int c ∧ y = .int pl ∧ nx (.bl (wishGood c pl)) M
section
variable {J : Jx} {ta tb : TE} {ρ : Ro} {M : Mp} {E : XK}
theorem ev_l_good_wish {c pl : Int} (ha : Ev J ta ρ M (.int c)) (hb : Ev J tb ρ M (.int pl)) : Ev J (tCall (spD J.K (pr_l_good_wish J.K)) [] E (tCons ta (tCons tb tNil))) ρ M (.bl (wishGood c pl)) :=
  w_call ((ea_cons ha (ea_cons hb ea_nil)).w ⟨_, _, rfl, c, pl, rfl, rfl, rfl, rfl⟩)
end
abbrev nm_l_good_wish : List Str := ["_law_cell", "_law_place"]
theorem sc_l_good_wish : FnScope nm_l_good_wish ["_law_cell", "_law_place"] (defScope s_l_good_wish) := ⟨rfl, rfl, rfl, by decide +kernel, rfl, by decide +kernel, by decide +kernel⟩
theorem ok_l_good_wish (hTx : Tx K mg) : OkF P w K mg base CX0 1 "_law_good_wish" (He.ga K "_law_good_wish") ["_law_cell", "_law_place"] (pr_l_good_wish K) := by
  obtain ⟨_, F⟩ := hTx.fnF 46 s_l_good_wish "_law_good_wish" 155
  refine ⟨_, ?_, F.binds (ps := ["_law_cell", "_law_place"]) fun _ _ _ _ _ _ us hl => match us, hl with | [_, _], _ => rfl, F.kp, hTx.gl 126⟩
  refine fn_dl F sc_l_good_wish (fun _ _ _ _ h => q2_len h) (fun cdv A outer s H E hr => ⟨_, (pss_cons (ps_if (pt_cmpR op_eq (pe_op op_mod (pv 0) pe_int) pe_int (nomark _))
    (pss_one (ps_ret (pe_cmpR op_eq (pe_op op_mod (pe_op op_fdiv (pv 1) pe_int) pe_int) pe_int (nomark _))))
    pss_nil)
    (pss_cons (ps_if (pt_cmpR op_eq (pe_op op_mod (pv 0) pe_int) pe_int (nomark _))
    (pss_one (ps_ret (pe_cmpR op_eq (pe_op op_mod (pe_op op_fdiv (pv 0) pe_int) pe_int) pe_int (nomark _))))
    pss_nil)
    (pss_one (ps_ret (pe_or (pe_cmpR op_eq (pe_op op_mod (pv 0) pe_int) pe_int (nomark _)) (pe_one (pe_cmpR op_ne (pe_op op_mod (pe_op op_fdiv (pv 0) pe_int) pe_int) pe_int (nomark _)))))))), ?_⟩)
  try dsimp only [cx_K, cx_nK]
  rintro _ M nx xe ⟨_, _, rfl, c, pl, rfl, rfl, k⟩
  show S (J0 K) _ [some (.int c), some (.int pl)] M _
  unfold wishGood at k
  refine s_seq (s_if (b := decide (c % 4 = 0)) (by walk_at "ev") (fun h => ?_) (fun h => s_next ?_))
  · rw [if_pos (of_decide_eq_true h)] at k
    exact s_retE (by walk_at "ev") k
  rw [if_neg (of_decide_eq_false h)] at k
  refine s_seq (s_if (b := decide (c % 4 = 1)) (by walk_at "ev") (fun h => ?_) (fun h => s_next ?_))
  · rw [if_pos (of_decide_eq_true h)] at k
    exact s_retE (by walk_at "ev") k
  rw [if_neg (of_decide_eq_false h)] at k
  exact s_retE (by walk_at "ev") k

abbrev St8 : Type := List Int × List (List Int) × List (List Int) × List (List Int)
/-- the state of a table, as the law tells it -/
def stateL (s : St8) : List D := [(cL cI).d s.1, (cL (cU cI)).d s.2.1, (cL (cU cI)).d s.2.2.1, (cL (cL cI)).d s.2.2.2]
def cS : Cd St8 where
  d := fun s => .lst (stateL s)
  ok := fun s => by
    have h1 := (cL cI).ok s.1
    have h2 := (cL (cU cI)).ok s.2.1
    have h3 := (cL (cU cI)).ok s.2.2.1
    have h4 := (cL (cL cI)).ok s.2.2.2
    show okPys (stateL s) = true
    unfold stateL okPys okPys okPys okPys okPys
    rw [h1, h2, h3, h4]
    rfl
  ev := fun a b => by
    have h1 := (cL cI).ev a.1 b.1
    have h2 := (cL (cU cI)).ev a.2.1 b.2.1
    have h3 := (cL (cU cI)).ev a.2.2.1 b.2.2.1
    have h4 := (cL (cL cI)).ev a.2.2.2 b.2.2.2
    show PyData.eqvAll [toPy ((cL cI).d a.1), toPy ((cL (cU cI)).d a.2.1), toPy ((cL (cU cI)).d a.2.2.1), toPy ((cL (cL cI)).d a.2.2.2)] [toPy ((cL cI).d b.1), toPy ((cL (cU cI)).d b.2.1), toPy ((cL (cU cI)).d b.2.2.1), toPy ((cL (cL cI)).d b.2.2.2)] = _
    unfold PyData.eqvAll PyData.eqvAll PyData.eqvAll PyData.eqvAll PyData.eqvAll
    rw [h1, h2, h3, h4, Bool.eq_iff_iff]
    obtain ⟨a1, a2, a3, a4⟩ := a
    obtain ⟨b1, b2, b3, b4⟩ := b
    simp
  lay := fun s => by
    have h1 := (cL cI).lay s.1
    have h2 := (cL (cU cI)).lay s.2.1
    have h3 := (cL (cU cI)).lay s.2.2.1
    have h4 := (cL (cL cI)).lay s.2.2.2
    show PyData.canLayAll0 [toPy ((cL cI).d s.1), toPy ((cL (cU cI)).d s.2.1), toPy ((cL (cU cI)).d s.2.2.1), toPy ((cL (cL cI)).d s.2.2.2)] = true
    unfold PyData.canLayAll0 PyData.canLayAll0 PyData.canLayAll0 PyData.canLayAll0 PyData.canLayAll0
    rw [h1, h2, h3, h4]
    rfl
  dep := 4
  dle := fun s => by
    have h1 := (cL cI).dle s.1
    have h2 := (cL (cU cI)).dle s.2.1
    have h3 := (cL (cU cI)).dle s.2.2.1
    have h4 := (cL (cL cI)).dle s.2.2.2
    show (PyData.list [toPy ((cL cI).d s.1), toPy ((cL (cU cI)).d s.2.1), toPy ((cL (cU cI)).d s.2.2.1), toPy ((cL (cL cI)).d s.2.2.2)]).depth ≤ 4
    unfold PyData.depth PyData.depthAll PyData.depthAll PyData.depthAll PyData.depthAll PyData.depthAll
    have e1 : (cL cI).dep = 2 := rfl
    have e2 : (cL (cU cI)).dep = 3 := rfl
    have e3 : (cL (cL cI)).dep = 3 := rfl
    omega
def stT (T : Tb) : St8 := (srtI (T.th.map (·.1)), (srtI (T.th.map (·.1))).map (fun n => (thGet T.th n).getD []), T.ks.map (·.cols), T.ks.map fun k => numsM k.es)
def pr_l_state (K : PySem.W.Frag) : Pr := q1 fun x M nx _ => ∃ (T : Tb), x = .ref T.p ∧ TabAt K M T ∧ TabOk T ∧ ∀ p, M p = none → nx (.ref p) (ud M p (.lst (stateL (stT T))))
section
variable {J : Jx} {ta : TE} {ρ : Ro} {M : Mp} {E : XK}
theorem en_l_state {T : Tb} (ha : Ev J ta ρ M (.ref T.p)) (hT : TabAt J.K M T) (hO : TabOk T) : EvN J (tCall (spD J.K (pr_l_state J.K)) [] E (tCons ta tNil)) ρ M (stateL (stT T)) :=
  w_call ((ea_cons ha ea_nil).w ⟨_, rfl, T, rfl, hT, hO, fun p hp => ⟨p, hp, rfl, rfl⟩⟩)
end
abbrev nm_l_state : List Str := ["_law_table", "_law_numbers", "_law_rows", "_law_number", "_law_order_here"]
theorem sc_l_state : FnScope nm_l_state ["_law_table"] (defScope s_l_state) := ⟨rfl, rfl, rfl, by decide +kernel, rfl, by decide +kernel, by decide +kernel⟩
theorem ok_l_state (hTx : Tx K mg) : OkF P w K mg base CX0 5 "_law_state" (He.ga K "_law_state") ["_law_table"] (pr_l_state K) := by
  obtain ⟨_, G_Table_numbers, b_Table_numbers⟩ := ok_Table_numbers (P := P) (w := w) (base := base) hTx
  obtain ⟨_, G_Table_row, b_Table_row⟩ := ok_Table_row (P := P) (w := w) (base := base) hTx
  obtain ⟨_, G_Table_orders, b_Table_orders⟩ := ok_Table_orders (P := P) (w := w) (base := base) hTx
  obtain ⟨_, G_Table_listed, b_Table_listed⟩ := ok_Table_listed (P := P) (w := w) (base := base) hTx
  obtain ⟨_, F⟩ := hTx.fnF 47 s_l_state "_law_state" 156
  refine ⟨_, ?_, F.binds (ps := ["_law_table"]) fun _ _ _ _ _ _ us hl => match us, hl with | [_], _ => rfl, F.kp, hTx.gl 127⟩
  refine fn_dl F sc_l_state (fun _ _ _ _ h => q1_len h) (fun cdv A outer s H E hr => ⟨_, (pss_cons (ps_set (i := 1) sc_l_state.nd rfl (Or.inl rfl) (pe_meth0 (pv 0) (hTx.cl 27) (hTx.me 41) G_Table_numbers (hr.mono (by decide)) b_Table_numbers .nil pass0))
    (pss_cons (ps_setLc (i := 2) (own := [("_law_number", 3)]) (g := gName 3) rfl sc_l_state.nd rfl rfl (sw_true rfl rfl rfl (by decide +kernel)) (kx_plist (K := K) rfl (pv 1)) (blkOk_by (N := nm_l_state) (sc := defScope s_l_state) (own := [("_law_number", 3)]) (by decide +kernel)) (fun _ _ _ _ _ => pg_name (i := 3) sc_l_state.nd rfl (Or.inl rfl)) (fun _ _ _ _ _ => pts_nil) (fun _ _ _ _ _ => (pe_meth (pv 0) (hTx.cl 27) (hTx.me 62) G_Table_row (hr.mono (by decide)) b_Table_row .nil pass0 (pa_cons (pv 3) pa_nil))))
    (pss_one (ps_ret (pe_lst (pa_cons (pv 1) (pa_cons (pv 2) (pa_cons (pe_meth0 (pv 0) (hTx.cl 27) (hTx.me 37) G_Table_orders (hr.mono (by decide)) b_Table_orders .nil pass0) (pa_cons (pe_lc (own := [("_law_order_here", 4)]) (g := gName 4) rfl sc_l_state.nd (kx_plist (K := K) rfl (pe_meth0 (pv 0) (hTx.cl 27) (hTx.me 37) G_Table_orders (hr.mono (by decide)) b_Table_orders .nil pass0)) (blkOk_by (N := nm_l_state) (sc := defScope s_l_state) (own := [("_law_order_here", 4)]) (by decide +kernel)) (fun _ _ _ _ _ => pg_name (i := 4) sc_l_state.nd rfl (Or.inl rfl)) (fun _ _ _ _ _ => pts_nil) (fun _ _ _ _ _ => (pe_meth (pv 0) (hTx.cl 27) (hTx.me 55) G_Table_listed (hr.mono (by decide)) b_Table_listed .nil pass0 (pa_cons (pv 4) pa_nil)))) pa_nil))))))))), ?_⟩)
  try dsimp only [cx_K, cx_nK]
  rintro _ M nx xe ⟨_, rfl, T, rfl, hT, hO, k⟩
  show S (J0 K) _ [some (.ref T.p), none, none, none, none] M _
  have hthl := hO.hl
  have hksl := hO.kl
  have hsl : (srtI (T.th.map (·.1))).length ≤ 200 := by rw [(srtI_perm _).length_eq, List.length_map]; exact hthl
  refine s_seq (s_asgE (en_Table_numbers (T := T) (ev_var rfl) hT).ev ?_)
  refine s_seq (s_asgE (d := (cL (cU cI)).d ((srtI (T.th.map (·.1))).map fun n => (thGet T.th n).getD [])) (Ev.is (EvN.ev (en_lc1 (srtI (T.th.map (·.1))) D.int (fun n => ordD ((thGet T.th n).getD [])) (src_l (ev_var rfl) (.inl rfl)) (fun _ _ => trivial) (szl (by omega)) fun M1 n sb hn => ?_)) (by show D.lst _ = D.lst _; rw [List.map_map] <;> rfl)) ?_)
  · obtain ⟨p, hp, e⟩ := List.mem_map.mp (srtI_mem.mp hn)
    have hr := thGet_of hO.nd (show (p.1, p.2) ∈ T.th from hp)
    rw [e] at hr
    rw [hr]
    exact ev_Table_row (T := T) (ev_var rfl) (hT.sub sb) (ev_var rfl) hr
  refine s_ret (EvN.w (en_lst (ds := stateL (stT T)) (ea_cons (ev_var rfl) (ea_cons (ev_var rfl) (ea_cons (en_Table_orders (T := T) (ev_var rfl) hT (by omega)).ev (ea_cons (Ev.is (EvN.ev (en_lc1 T.ks (fun k : Kr => ordD k.cols) (fun k : Kr => rowD (numsM k.es)) (src_l (Ev.is (en_Table_orders (T := T) (ev_var rfl) hT (by omega)).ev (by rw [List.map_map] <;> rfl)) (.inl rfl)) (fun _ _ => trivial) (szl (by omega)) fun M1 q sb hq => ?_)) (by show D.lst (T.ks.map fun k => rowD (numsM k.es)) = D.lst ((T.ks.map fun k => numsM k.es).map (cL cI).d); rw [List.map_map] <;> rfl)) ea_nil)))) (sz (by show 4 ≤ 1000000; decide))) k)
  obtain ⟨i, hi⟩ := List.mem_iff_getElem?.mp hq
  exact (en_Table_listed (T := T) (i := i) (k := q) (ev_var rfl) (hT.sub sb) hO (ev_var rfl) hi).ev

def HoldK (K : PySem.W.Frag) (M : Mp) (T : Tb) (kind : Int) (z u : D) (wd : Str) (nx : Mp → Prop) : Prop :=
  (wd = "given" ∧ ∃ th made os, ActGood M T kind z u th made os ∧ ∀ M' T', TStep K M M' T T' th made os → nx M') ∨ ∃ cls, ActBad M T kind z u cls ∧ Wd cls wd ∧ nx M
def pr_l_holds (K : PySem.W.Frag) : Pr := q5 fun x y z u v M nx _ => ∃ (T : Tb) (kind : Int) (wd : Str), x = .ref T.p ∧ y = .int kind ∧ v = .str wd ∧ TabAt K M T ∧ TabOk T ∧ HoldK K M T kind z u wd fun M' => nx (.bl true) M'
section
variable {J : Jx} {ta tb tc td te : TE} {ρ : Ro} {M : Mp} {E : XK} {z u : D} {R : D → Mp → Prop}
theorem w_l_holds {T : Tb} {kind : Int} {wd : Str} (h1 : Ev J ta ρ M (.ref T.p)) (h2 : Ev J tb ρ M (.int kind)) (h3 : Ev J tc ρ M z) (h4 : Ev J td ρ M u) (h5 : Ev J te ρ M (.str wd)) (hT : TabAt J.K M T) (hO : TabOk T) (k : HoldK J.K M T kind z u wd fun M' => R (.bl true) M') : W J (tCall (spD J.K (pr_l_holds J.K)) [] E (tCons ta (tCons tb (tCons tc (tCons td (tCons te tNil)))))) ρ M R :=
  w_call ((ea_cons h1 (ea_cons h2 (ea_cons h3 (ea_cons h4 (ea_cons h5 ea_nil))))).w ⟨_, _, _, _, _, rfl, T, kind, wd, rfl, rfl, rfl, hT, hO, k⟩)
end
abbrev nm_l_holds : List Str := ["_law_table", "_law_kind", "_law_thing", "_law_way", "_law_word", "_law_state_here"]
theorem sc_l_holds : FnScope nm_l_holds ["_law_table", "_law_kind", "_law_thing", "_law_way", "_law_word"] (defScope s_l_holds) := ⟨rfl, rfl, rfl, by decide +kernel, rfl, by decide +kernel, by decide +kernel⟩
theorem ok_l_holds (hTx : Tx K mg) : OkF P w K mg base CX0 10 "_law_holds" (He.ga K "_law_holds") ["_law_table", "_law_kind", "_law_thing", "_law_way", "_law_word"] (pr_l_holds K) := by
  obtain ⟨_, G_l_state, b_l_state, k_l_state, g_l_state⟩ := ok_l_state (P := P) (w := w) (base := base) hTx
  obtain ⟨_, G_l_said, b_l_said, k_l_said, g_l_said⟩ := ok_l_said (P := P) (w := w) (base := base) hTx
  obtain ⟨_, G_l_any, b_l_any, k_l_any, g_l_any⟩ := ok_l_any (P := P) (w := w) (base := base) hTx
  obtain ⟨_, F⟩ := hTx.fnF 48 s_l_holds "_law_holds" 157
  refine ⟨_, ?_, F.binds (ps := ["_law_table", "_law_kind", "_law_thing", "_law_way", "_law_word"]) fun _ _ _ _ _ _ us hl => match us, hl with | [_, _, _, _, _], _ => rfl, F.kp, hTx.gl 128⟩
  refine fn_dl F sc_l_holds (fun _ _ _ _ h => q5_len h) (fun cdv A outer s H E hr => ⟨_, (pss_cons (ps_set (i := 5) sc_l_holds.nd rfl (Or.inl rfl) (pe_call G_l_state (hr.mono (by decide)) rfl g_l_state k_l_state b_l_state .nil pass0 (pa_cons (pv 0) pa_nil)))
    (pss_cons (ps_if (pt_cmpR op_ne (pe_call G_l_said (hr.mono (by decide)) rfl g_l_said k_l_said b_l_said .nil pass0 (pa_cons (pv 0) (pa_cons (pv 1) (pa_cons (pv 2) (pa_cons (pv 3) pa_nil))))) (pv 4) (nomark _))
    (pss_one (ps_ret pe_bl))
    pss_nil)
    (pss_cons (ps_if (pt_cmpR op_eq (pv 4) pe_str (nomark _))
    (pss_one (ps_ret pe_bl))
    pss_nil)
    (pss_one (ps_ret (pe_and (pe_call G_l_any (hr.mono (by decide)) rfl g_l_any k_l_any b_l_any .nil pass0 (pa_cons (pv 0) (pa_cons (pv 1) (pa_cons (pv 2) (pa_cons (pv 3) pa_nil))))) (pe_one (pe_cmpR (kx_eqD (K := K) rfl (hu64 hr)) (pe_call G_l_state (hr.mono (by decide)) rfl g_l_state k_l_state b_l_state .nil pass0 (pa_cons (pv 0) pa_nil)) (pv 5) (nomark _))))))))), ?_⟩)
  try dsimp only [cx_K, cx_nK]
  rintro _ M nx xe ⟨_, _, z, u, _, rfl, T, kind, wd, rfl, rfl, rfl, hT, hO, k⟩
  show S (J0 K) _ [some (.ref T.p), some (.int kind), some z, some u, some (.str wd), none] M _
  refine s_seq (s_asgE (en_l_state (T := T) (ev_var rfl) hT hO).ev ?_)
  rcases k with ⟨rfl, th, made, os, hg, k⟩ | ⟨cls, hb, hw, k⟩
  · refine s_seq (s_ifW (wt_test (w_op (w_l_said (T := T) (kind := kind) (ev_var rfl) (ev_var rfl) (ev_var rfl) (ev_var rfl) hT hO (.inl ⟨th, made, os, hg, fun M' T' st => (ev_var rfl).w (op2_neS ⟨false, by simp, fun z => (nomatch z), fun _ => s_next ?_⟩)⟩)))))
    refine s_seq (s_if (b := true) ((et_test (ev_eqS (ev_var rfl) ev_str)).is (by simp)) (fun _ => ?_) (fun z => nomatch z))
    exact s_retE ev_bl (k M' T' st)
  · refine s_seq (s_ifW (wt_test (w_op (w_l_said (T := T) (kind := kind) (ev_var rfl) (ev_var rfl) (ev_var rfl) (ev_var rfl) hT hO (.inr ⟨cls, wd, hb, hw, (ev_var rfl).w (op2_neS ⟨false, by simp, fun z => (nomatch z), fun _ => s_next ?_⟩)⟩)))))
    refine s_seq (s_if (b := false) ((et_test (ev_eqS (ev_var rfl) ev_str)).is hw.ne) (fun z => nomatch z) (fun _ => s_next ?_))
    refine s_retE (Ev.is (ev_andV (b := true) (c := true) (ev_l_any (T := T) (kind := kind) (cls := cls) (wd := wd) (ev_var rfl) (ev_var rfl) (ev_var rfl) (ev_var rfl) hT hO hb hw) fun _ => ?_) rfl) k
    exact (ev_eqC cS (a := stT T) (a' := stT T) (en_l_state (T := T) (ev_var rfl) hT hO).ev (ev_var rfl) .i .i (by decide)).is (by simp)

/-- the table that the law begins with -/
structure St3 (T : Tb) (w : Int) : Prop where
  w' : T.w = w
  made : T.made = 3
  th : T.th.map (·.1) = [0, 1, 2]
  os : T.ks.map (·.cols) = [[0], [1, 0]]
theorem St3.get {T : Tb} {w : Int} (h : St3 T w) {n : Int} (hn : n = 0 ∨ n = 1 ∨ n = 2) : ∃ r, thGet T.th n = some r := by
  cases e : thGet T.th n with
  | none =>
    have := thGet_none.mp e
    rw [h.th] at this
    rcases hn with rfl | rfl | rfl <;> simp at this
  | some r => exact ⟨r, rfl⟩
theorem St3.no {T : Tb} {w : Int} (h : St3 T w) {n : Int} (hn : ¬ (n = 0 ∨ n = 1 ∨ n = 2)) : thGet T.th n = none := by
  refine thGet_none.mpr fun z => hn ?_
  rw [h.th] at z
  simpa using z
theorem nowhole {x : D} (h : wholeD x = false) : ∀ n, x ≠ .int n := fun n e => by rw [e] at h; cases h
/-- a list with a list and a dict in it, and one thing out of it -/
theorem w_odd {J : Jx} {M0 : Mp} {ρ : Ro} {i j : Int} {x0 x1 x2 x3 x4 : D} {t0 t1 t2 t3 t4 ti : TE} {R : D → Mp → Prop} (h0 : Ev J t0 ρ M0 x0) (h1 : Ev J t1 ρ M0 x1) (h2 : Ev J t2 ρ M0 x2) (h3 : Ev J t3 ρ M0 x3) (h4 : Ev J t4 ρ M0 x4) (hi : ∀ M1, Ev J ti ρ M1 (.int i)) (i0 : 0 ≤ i) (i1 : i < 7) (hf : ∀ x ∈ [x0, x1, x2, x3, x4], flatD x = true)
    (k : ∀ z M1, Sub M0 M1 → tyN M1 z ≠ "" → (z ∈ [x0, x1, x2, x3, x4] ∨ wholeD z = false) → R z M1) : W J (tOp (rIxL J.K) (tLst (tCons t0 (tCons t1 (tCons t2 (tCons t3 (tCons t4 (tCons (tLst (tCons (tC (.int j)) tNil)) (tCons tDNewK tNil)))))))) ti) ρ M0 R := by
  refine w_op (w_lst ?_)
  refine wa_cons (h0.w ?_)
  refine wa_cons (h1.w ?_)
  refine wa_cons (h2.w ?_)
  refine wa_cons (h3.w ?_)
  refine wa_cons (h4.w ?_)
  refine wa_cons (Ev.w (en_lst (ds := [.int j]) (ea_cons ev_int ea_nil) (sz (by simp))).ev ?_)
  refine wa_cons (w_dnew fun q hq => wa_nil ⟨sz (by simp), fun p hp => ?_⟩)
  have s1 : Sub M0 (ud M0 q (.dct [])) := Sub.new hq
  have s2 : Sub (ud M0 q (.dct [])) (ud (ud M0 q (.dct [])) p (.lst [x0, x1, x2, x3, x4, .lst [.int j], .ref q])) := Sub.new hp
  obtain ⟨z, hz, hm⟩ := atI_mem (ds := [x0, x1, x2, x3, x4, .lst [.int j], .ref q]) (k := i) i0 (by simpa using i1)
  have : z ∈ [x0, x1, x2, x3, x4] ∨ z = .lst [.int j] ∨ z = .ref q := by
    simp only [List.mem_cons, List.not_mem_nil, or_false] at hm ⊢
    rcases hm with h | h | h | h | h | h | h
    · exact .inl (.inl h)
    · exact .inl (.inr (.inl h))
    · exact .inl (.inr (.inr (.inl h)))
    · exact .inl (.inr (.inr (.inr (.inl h))))
    · exact .inl (.inr (.inr (.inr (.inr h))))
    · exact .inr (.inl h)
    · exact .inr (.inr h)
  refine (hi _).w (op2_ixL (.r ud_same) hz (k z _ (s1.trans s2) ?_ ?_))
  · rcases this with h | rfl | rfl
    · exact tyN_fl (hf z h)
    · exact tyN_fl rfl
    · have e : (ud (ud M0 q (.dct [])) p (.lst [x0, x1, x2, x3, x4, .lst [.int j], .ref q])) q = some (.dct []) := s2 _ _ ud_same
      simp only [tyN, e]
      decide
  · rcases this with h | rfl | rfl
    · exact .inl h
    · exact .inr rfl
    · exact .inr rfl
def pr_l_changed (K : PySem.W.Frag) : Pr := q5 fun x y z u v M nx _ => ∃ (T : Tb) (w c pl kind : Int), x = .ref T.p ∧ y = .int w ∧ z = .int c ∧ u = .int pl ∧ v = .int kind ∧ TabAt K M T ∧ TabOk T ∧ St3 T w ∧ 3 ≤ w ∧ w ≤ 6 ∧ (kind = 10 ∨ kind = 11) ∧ ∀ M', nx (.bl true) M'
section
variable {J : Jx} {ta tb tc td te : TE} {ρ : Ro} {M : Mp} {E : XK} {R : D → Mp → Prop}
theorem w_l_changed {T : Tb} {w c pl kind : Int} (h1 : Ev J ta ρ M (.ref T.p)) (h2 : Ev J tb ρ M (.int w)) (h3 : Ev J tc ρ M (.int c)) (h4 : Ev J td ρ M (.int pl)) (h5 : Ev J te ρ M (.int kind)) (hT : TabAt J.K M T) (hO : TabOk T) (h3' : St3 T w) (w3 : 3 ≤ w) (w6 : w ≤ 6) (hk : kind = 10 ∨ kind = 11) (k : ∀ M', R (.bl true) M') : W J (tCall (spD J.K (pr_l_changed J.K)) [] E (tCons ta (tCons tb (tCons tc (tCons td (tCons te tNil)))))) ρ M R :=
  w_call ((ea_cons h1 (ea_cons h2 (ea_cons h3 (ea_cons h4 (ea_cons h5 ea_nil))))).w ⟨_, _, _, _, _, rfl, T, w, c, pl, kind, rfl, rfl, rfl, rfl, rfl, hT, hO, h3', w3, w6, hk, k⟩)
end
abbrev nm_l_changed : List Str := ["_law_table", "_law_width_here", "_law_cell", "_law_place", "_law_kind", "_law_number", "_law_column", "_law_value", "_law_word"]
theorem sc_l_changed : FnScope nm_l_changed ["_law_table", "_law_width_here", "_law_cell", "_law_place", "_law_kind"] (defScope s_l_changed) := ⟨rfl, rfl, rfl, by decide +kernel, rfl, by decide +kernel, by decide +kernel⟩
theorem ok_l_changed (hTx : Tx K mg) : OkF P w K mg base CX0 11 "_law_changed" (He.ga K "_law_changed") ["_law_table", "_law_width_here", "_law_cell", "_law_place", "_law_kind"] (pr_l_changed K) := by
  obtain ⟨_, G_l_holds, b_l_holds, k_l_holds, g_l_holds⟩ := ok_l_holds (P := P) (w := w) (base := base) hTx
  obtain ⟨_, F⟩ := hTx.fnF 49 s_l_changed "_law_changed" 158
  refine ⟨_, ?_, F.binds (ps := ["_law_table", "_law_width_here", "_law_cell", "_law_place", "_law_kind"]) fun _ _ _ _ _ _ us hl => match us, hl with | [_, _, _, _, _], _ => rfl, F.kp, hTx.gl 129⟩
  refine fn_dl F sc_l_changed (fun _ _ _ _ h => q5_len h) (fun cdv A outer s H E hr => ⟨_, (pss_cons (ps_set (i := 5) sc_l_changed.nd rfl (Or.inl rfl) (pe_ix (kx_ixL (K := K) rfl) (pe_lst (pa_cons pe_int (pa_cons pe_int (pa_cons pe_int (pa_cons (pe_ix (kx_ixL (K := K) rfl) (pe_lst (pa_cons pe_int (pa_cons (pe_op op_sub pe_int pe_int) (pa_cons pe_bl (pa_cons pe_non (pa_cons pe_str (pa_cons (pe_lst (pa_cons pe_int pa_nil)) (pa_cons pe_dnewK pa_nil)))))))) (pe_op op_mod (pe_op op_fdiv (pv 3) pe_int) pe_int) (fun _ _ => rfl)) pa_nil))))) (pe_op op_mod (pv 3) pe_int) (fun _ _ => rfl)))
    (pss_cons (ps_set (i := 6) sc_l_changed.nd rfl (Or.inl rfl) (pe_ix (kx_ixL (K := K) rfl) (pe_lst (pa_cons pe_int (pa_cons pe_int (pa_cons (pe_op op_sub (pv 1) pe_int) (pa_cons (pe_ix (kx_ixL (K := K) rfl) (pe_lst (pa_cons (pv 1) (pa_cons (pe_op op_sub pe_int pe_int) (pa_cons (pe_op op_sub pe_int pe_int) (pa_cons pe_bl (pa_cons pe_non (pa_cons (pe_lst (pa_cons pe_int pa_nil)) (pa_cons pe_dnewK pa_nil)))))))) (pe_op op_mod (pe_op op_fdiv (pv 2) pe_int) pe_int) (fun _ _ => rfl)) pa_nil))))) (pe_op op_mod (pv 2) pe_int) (fun _ _ => rfl)))
    (pss_cons (ps_set (i := 7) sc_l_changed.nd rfl (Or.inl rfl) (pe_ix (kx_ixL (K := K) rfl) (pe_lst (pa_cons pe_int (pa_cons (pe_op op_sub pe_int (pe_op op_powW pe_int pe_int)) (pa_cons pe_bl (pa_cons pe_non (pa_cons pe_str (pa_cons (pe_lst (pa_cons pe_int pa_nil)) pa_nil))))))) (pe_op op_mod (pe_op op_fdiv (pv 2) pe_int) pe_int) (fun _ _ => rfl)))
    (pss_cons (ps_set (i := 8) sc_l_changed.nd rfl (Or.inl rfl) pe_str)
    (pss_cons (ps_if (pt_cmpR op_eq (pe_op op_mod (pv 3) pe_int) pe_int (nomark _))
    (pss_one (ps_set (i := 8) sc_l_changed.nd rfl (Or.inl rfl) pe_str))
    (pss_one (ps_if (PW.pt (pw_and (pt_cmpR op_eq (pv 4) pe_int (nomark _)) (pw_and1 (pt_cmpR op_eq (pe_op op_mod (pv 2) pe_int) pe_int (nomark _)))))
    (pss_one (ps_set (i := 8) sc_l_changed.nd rfl (Or.inl rfl) pe_str))
    (pss_one (ps_if (PW.pt (pw_and (pt_cmpR op_eq (pv 4) pe_int (nomark _)) (pw_and1 (pt_cmpR op_gt (pe_op op_mod (pe_op op_fdiv (pv 2) pe_int) pe_int) pe_int (nomark _)))))
    (pss_one (ps_set (i := 8) sc_l_changed.nd rfl (Or.inl rfl) pe_str))
    pss_nil)))))
    (pss_one (ps_ret (pe_call G_l_holds (hr.mono (by decide)) rfl g_l_holds k_l_holds b_l_holds .nil pass0 (pa_cons (pv 0) (pa_cons (pv 4) (pa_cons (pe_tup (pa_cons (pv 5) (pa_cons (pv 6) (pa_cons (pv 7) pa_nil)))) (pa_cons pe_non (pa_cons (pv 8) pa_nil))))))))))))), ?_⟩)
  try dsimp only [cx_K, cx_nK]
  rintro _ M nx xe ⟨_, _, _, _, _, rfl, T, w, c, pl, kind, rfl, rfl, rfl, rfl, rfl, hT, hO, hS, w3, w6, hk, k⟩
  show S (J0 K) _ [some (.ref T.p), some (.int w), some (.int c), some (.int pl), some (.int kind), none, none, none, none] M _
  have p0 := Int.emod_nonneg pl (show (4 : Int) ≠ 0 by decide)
  have p1 := Int.emod_lt_of_pos pl (show (0 : Int) < 4 by decide)
  have c0 := Int.emod_nonneg c (show (4 : Int) ≠ 0 by decide)
  have c1 := Int.emod_lt_of_pos c (show (0 : Int) < 4 by decide)
  have v0 := Int.emod_nonneg (c / 20) (show (6 : Int) ≠ 0 by decide)
  have v1 := Int.emod_lt_of_pos (c / 20) (show (0 : Int) < 6 by decide)
  -- the number
  refine s_cut (fun ρ' M' => Sub M M' ∧ ∃ z, ((pl % 4 = 3 ∧ tyN M' z ≠ "" ∧ RowNo T z) ∨ (pl % 4 ≠ 3 ∧ ∃ n r, z = .int n ∧ thGet T.th n = some r)) ∧ ρ' = [some (.ref T.p), some (.int w), some (.int c), some (.int pl), some (.int kind), some z, none, none, none]) ?_ ?_
  · refine s_asg (w_op (w_lst (wa_cons (ev_int.w (wa_cons (ev_int.w (wa_cons (ev_int.w (wa_cons (w_odd (i := pl / 4 % 7) (x0 := .int 3) (x1 := .int (0 - 1)) (x2 := .bl true) (x3 := .non) (x4 := .str "0") ev_int (by walk_at "ev") ev_bl ev_non ev_str (fun _ => by walk_at "ev") (Int.emod_nonneg _ (by decide)) (Int.emod_lt_of_pos _ (by decide)) (by simp [flatD]) fun z M1 s1 tz hz => wa_nil ⟨sz (by simp), fun p hp => ?_⟩))))))))))
    have s2 := Sub.new (o := .lst [.int 0, .int 1, .int 2, z]) hp
    have hno : RowNo T z := by
      intro n e
      rcases hz with hz | hz
      · subst e
        simp only [List.mem_cons, List.not_mem_nil, or_false, D.int.injEq] at hz
        refine hS.no fun zz => ?_
        rcases hz with h | h | h | h | h
        · omega
        · omega
        · cases h
        · cases h
        · cases h
      · exact absurd e (nowhole hz n)
    have fin : ∀ d, atI [.int 0, .int 1, .int 2, z] (pl % 4) = some d → ((pl % 4 = 3 ∧ tyN (ud M1 p (.lst [.int 0, .int 1, .int 2, z])) d ≠ "" ∧ RowNo T d) ∨ (pl % 4 ≠ 3 ∧ ∃ n r, d = .int n ∧ thGet T.th n = some r)) := fun d hd => by
      rcases (show pl % 4 = 0 ∨ pl % 4 = 1 ∨ pl % 4 = 2 ∨ pl % 4 = 3 by omega) with e | e | e | e
      · rw [e] at hd ⊢
        cases hd
        obtain ⟨r, hr⟩ := hS.get (.inl rfl)
        exact .inr ⟨by decide, 0, r, rfl, hr⟩
      · rw [e] at hd ⊢
        cases hd
        obtain ⟨r, hr⟩ := hS.get (.inr (.inl rfl))
        exact .inr ⟨by decide, 1, r, rfl, hr⟩
      · rw [e] at hd ⊢
        cases hd
        obtain ⟨r, hr⟩ := hS.get (.inr (.inr rfl))
        exact .inr ⟨by decide, 2, r, rfl, hr⟩
      · rw [e] at hd ⊢
        cases hd
        exact .inl ⟨rfl, tyN_sub s2 tz, hno⟩
    obtain ⟨d, hd, _⟩ := atI_mem (ds := [.int 0, .int 1, .int 2, z]) (k := pl % 4) p0 (by simpa using p1)
    exact Ev.w (by walk_at "ev") (op2_ixL (.r ud_same) hd ⟨s1.trans s2, d, fin d hd, rfl⟩)
  rintro ρ' M1 ⟨s1, z, hz, rfl⟩
  -- the column
  refine s_cut (fun ρ' M' => Sub M1 M' ∧ ∃ u, ((c % 4 = 3 ∧ tyN M' u ≠ "" ∧ ColNo T u) ∨ (c % 4 ≠ 3 ∧ ∃ m, u = .int m ∧ 0 ≤ m ∧ m < T.w)) ∧ ρ' = [some (.ref T.p), some (.int w), some (.int c), some (.int pl), some (.int kind), some z, some u, none, none]) ?_ ?_
  · refine s_asg (w_op (w_lst (wa_cons (ev_int.w (wa_cons (ev_int.w (wa_cons (Ev.w (d := .int (w - 1)) (by walk_at "ev") (wa_cons (w_odd (i := c / 4 % 7) (x0 := .int w) (x1 := .int (0 - 1)) (x2 := .int (0 - 2)) (x3 := .bl true) (x4 := .non) (ev_var rfl) (by walk_at "ev") (by walk_at "ev") ev_bl ev_non (fun _ => by walk_at "ev") (Int.emod_nonneg _ (by decide)) (Int.emod_lt_of_pos _ (by decide)) (by simp [flatD]) fun z M1 s1 tz hz => wa_nil ⟨sz (by simp), fun p hp => ?_⟩))))))))))
    have s2 := Sub.new (o := .lst [.int 0, .int 1, .int (w - 1), z]) hp
    have ew := hS.w'
    have hno : ColNo T z := by
      intro n e
      rcases hz with hz | hz
      · subst e
        simp only [List.mem_cons, List.not_mem_nil, or_false, D.int.injEq] at hz
        rcases hz with h | h | h | h | h
        · omega
        · omega
        · omega
        · cases h
        · cases h
      · exact absurd e (nowhole hz n)
    have fin : ∀ d, atI [.int 0, .int 1, .int (w - 1), z] (c % 4) = some d → ((c % 4 = 3 ∧ tyN (ud M1 p (.lst [.int 0, .int 1, .int (w - 1), z])) d ≠ "" ∧ ColNo T d) ∨ (c % 4 ≠ 3 ∧ ∃ m, d = .int m ∧ 0 ≤ m ∧ m < T.w)) := fun d hd => by
      rcases (show c % 4 = 0 ∨ c % 4 = 1 ∨ c % 4 = 2 ∨ c % 4 = 3 by omega) with e | e | e | e
      · rw [e] at hd ⊢
        cases hd
        exact .inr ⟨by decide, 0, rfl, by omega, by omega⟩
      · rw [e] at hd ⊢
        cases hd
        exact .inr ⟨by decide, 1, rfl, by omega, by omega⟩
      · rw [e] at hd ⊢
        cases hd
        exact .inr ⟨by decide, w - 1, rfl, by omega, by omega⟩
      · rw [e] at hd ⊢
        cases hd
        exact .inl ⟨rfl, tyN_sub s2 tz, hno⟩
    obtain ⟨d, hd, _⟩ := atI_mem (ds := [.int 0, .int 1, .int (w - 1), z]) (k := c % 4) c0 (by simpa using c1)
    exact Ev.w (by walk_at "ev") (op2_ixL (.r ud_same) hd ⟨s1.trans s2, d, fin d hd, rfl⟩)
  rintro ρ' M2 ⟨s2, u, hu, rfl⟩
  have hz : (pl % 4 = 3 ∧ tyN M2 z ≠ "" ∧ RowNo T z) ∨ (pl % 4 ≠ 3 ∧ ∃ n r, z = .int n ∧ thGet T.th n = some r) := by
    rcases hz with ⟨h1, h2, h3⟩ | h
    · exact .inl ⟨h1, tyN_sub s2 h2, h3⟩
    · exact .inr h
  have hT := hT.sub (s1.trans s2)
  clear s1 s2
  -- the new thing
  obtain ⟨v, hv, hvm⟩ := atI_mem (ds := [.int 5, .int (0 - 10 ^ (30 : Int).toNat), .bl true, .non, .str "1", .lst [.int 1]]) (k := c / 20 % 6) v0 (by simpa using v1)
  refine s_seq (s_asgE (ev_ixL (en_lst (ds := [.int 5, .int (0 - 10 ^ (30 : Int).toNat), .bl true, .non, .str "1", .lst [.int 1]]) (ea_cons ev_int (ea_cons (by walk_at "ev") (ea_cons ev_bl (ea_cons ev_non (ea_cons ev_str (ea_cons (en_lst (ds := [.int 1]) (ea_cons ev_int ea_nil) (sz (by simp))).ev ea_nil)))))) (sz (by simp))).ev (by walk_at "ev") .l hv) ?_)
  have hv : (1 < c / 20 % 6 ∧ tyN M2 v ≠ "" ∧ wholeD v = false) ∨ (¬ 1 < c / 20 % 6 ∧ ∃ i, v = .int i) := by
    rcases (show c / 20 % 6 = 0 ∨ c / 20 % 6 = 1 ∨ c / 20 % 6 = 2 ∨ c / 20 % 6 = 3 ∨ c / 20 % 6 = 4 ∨ c / 20 % 6 = 5 by omega) with e | e | e | e | e | e <;> rw [e] at hv ⊢ <;> cases hv
    · exact .inr ⟨by decide, _, rfl⟩
    · exact .inr ⟨by decide, _, rfl⟩
    · exact .inl ⟨by decide, tyN_fl rfl, rfl⟩
    · exact .inl ⟨by decide, tyN_fl rfl, rfl⟩
    · exact .inl ⟨by decide, tyN_fl rfl, rfl⟩
    · exact .inl ⟨by decide, tyN_fl rfl, rfl⟩
  -- the word
  refine s_seq (s_asgE ev_str ?_)
  refine s_cut (fun ρ' M' => M' = M2 ∧ ∃ wd, HoldK K M2 T kind (.tup [z, u, v]) .non wd (fun M' => nx (.bl true) M') ∧ ρ' = [some (.ref T.p), some (.int w), some (.int c), some (.int pl), some (.int kind), some z, some u, some v, some (.str wd)]) ?_ ?_
  · refine s_if (b := decide (pl % 4 = 3)) (by walk_at "ev") (fun h => ?_) (fun h => ?_)
    · have h3 : pl % 4 = 3 := of_decide_eq_true h
      obtain ⟨tz, hn⟩ : tyN M2 z ≠ "" ∧ RowNo T z := by
        rcases hz with ⟨_, h⟩ | ⟨h, _⟩
        · exact h
        · exact absurd h3 h
      refine s_asgE ev_str ⟨rfl, _, .inr ⟨"NoRow", ?_, .w5, k M2⟩, rfl⟩
      rcases hk with rfl | rfl
      · exact .chR tz hn
      · exact .drop tz hn
    have h3 : ¬ pl % 4 = 3 := of_decide_eq_false h
    obtain ⟨n, r, rfl, hr⟩ : ∃ n r, z = .int n ∧ thGet T.th n = some r := by
      rcases hz with ⟨h, _⟩ | ⟨_, h⟩
      · exact absurd h h3
      · exact h
    rcases hk with rfl | rfl
    · refine s_if (b := decide ((10 : Int) = 10) && decide (c % 4 = 3)) (by walk_at "ev") (fun h => ?_) (fun h => ?_)
      · have h4 : c % 4 = 3 := of_decide_eq_true (Bool.and_eq_true_iff.mp h).2
        obtain ⟨tu, hn⟩ : tyN M2 u ≠ "" ∧ ColNo T u := by
          rcases hu with ⟨_, h⟩ | ⟨h, _⟩
          · exact h
          · exact absurd h4 h
        exact s_asgE ev_str ⟨rfl, _, .inr ⟨"BadColumn", .chC hr tu hn, .w6, k M2⟩, rfl⟩
      have h4 : ¬ c % 4 = 3 := of_decide_eq_false (by simpa using h)
      obtain ⟨m, rfl, m0, m1⟩ : ∃ m, u = .int m ∧ 0 ≤ m ∧ m < T.w := by
        rcases hu with ⟨h, _⟩ | ⟨_, h⟩
        · exact absurd h h4
        · exact h
      refine s_if (b := decide ((10 : Int) = 10) && decide (1 < c / 20 % 6)) (by walk_at "ev") (fun h => ?_) (fun h => ?_)
      · have h5 : 1 < c / 20 % 6 := of_decide_eq_true (Bool.and_eq_true_iff.mp h).2
        obtain ⟨tv, hn⟩ : tyN M2 v ≠ "" ∧ wholeD v = false := by
          rcases hv with ⟨_, h⟩ | ⟨h, _⟩
          · exact h
          · exact absurd h5 h
        exact s_asgE ev_str ⟨rfl, _, .inr ⟨"BadRow", .chV hr m0 m1 tv hn, .w1, k M2⟩, rfl⟩
      have h5 : ¬ 1 < c / 20 % 6 := of_decide_eq_false (by simpa using h)
      obtain ⟨i, rfl⟩ : ∃ i, v = .int i := by
        rcases hv with ⟨h, _⟩ | ⟨_, h⟩
        · exact absurd h h5
        · exact h
      exact s_next ⟨rfl, _, .inl ⟨rfl, _, _, _, .change hr m0 m1, fun M' T' _ => k M'⟩, rfl⟩
    · refine s_if (b := decide ((11 : Int) = 10) && decide (c % 4 = 3)) (by walk_at "ev") (fun h => by cases h) (fun h => ?_)
      refine s_if (b := decide ((11 : Int) = 10) && decide (1 < c / 20 % 6)) (by walk_at "ev") (fun h => by cases h) (fun h => ?_)
      exact s_next ⟨rfl, _, .inl ⟨rfl, _, _, _, .drop hr, fun M' T' _ => k M'⟩, rfl⟩
  rintro ρ' M3 ⟨rfl, wd, hw, rfl⟩
  exact s_ret (w_l_holds (T := T) (kind := kind) (wd := wd) (ev_var rfl) (ev_var rfl) (ev_tup (ds := [z, u, v]) (ea_cons (ev_var rfl) (ea_cons (ev_var rfl) (ea_cons (ev_var rfl) ea_nil))) (sz (by simp))) ev_non (ev_var rfl) hT hO hw)

theorem w_Table_forgetC {J : Jx} {ta tb : TE} {ρ : Ro} {M : Mp} {E : XK} {R : D → Mp → Prop} {T : Tb} {cols : List Int} {i : Nat} (ho : Ev J ta ρ M (.ref T.p)) (hb : Ev J tb ρ M (ordD cols)) (hT : TabAt J.K M T) (hO : TabOk T) (hi : (T.ks.map (·.cols))[i]? = some cols) (k : ∀ M' T', TStep J.K M M' T T' T.th T.made ((T.ks.map (·.cols)).eraseIdx i) → R .non M') :
    W J (tMeth (He.ga J.K "Table") "forget" (spD J.K (pr_Table_forget J.K)) [] E ta (tCons tb tNil)) ρ M R := by
  rw [List.getElem?_map] at hi
  cases q : T.ks[i]? with
  | none => rw [q] at hi; cases hi
  | some q' =>
    rw [q] at hi
    have e : q'.cols = cols := Option.some.inj hi
    exact w_meth0 (a := T.p) ho hT.ob (tf_no (by decide +kernel) (by decide +kernel) (by decide +kernel) (by decide +kernel)) (ea_cons hb ea_nil) ⟨_, _, rfl, T, i, q', rfl, by rw [e], hT, hO, q, fun M' st => k M' _ st⟩
theorem ev_rowRep {J : Jx} {ta tb : TE} {ρ : Ro} {M : Mp} {n w : Int} (ha : Ev J ta ρ M (.int n)) (hb : Ev J tb ρ M (.int w)) (w0 : 0 ≤ w) (w1 : w ≤ 1000) : Ev J (tOp rRep (tLst (tCons ta tNil)) tb) ρ M (.lst ((List.replicate w.toNat n).map .int)) :=
  Ev.is (en_rep (ds := [.int n]) (k := w) (en_lst (ds := [.int n]) (ea_cons ha ea_nil) (sz (by simp))).ev hb .l (by omega) (by omega) (sz (by simp; omega))).ev (by rw [rep_one, List.map_replicate])
/-- a table of rows of the numbers from nought on -/
structure StN (T : Tb) (w : Int) (n : Nat) : Prop where
  w' : T.w = w
  made : T.made = (n : Int)
  th : T.th.map (·.1) = (List.range n).map fun (k : Nat) => (k : Int)
theorem StN.len {T : Tb} {w : Int} {n : Nat} (h : StN T w n) : T.th.length = n := by
  have := congrArg List.length h.th
  rw [List.length_map, List.length_map, List.length_range] at this
  exact this
theorem St3.n {T : Tb} {w : Int} (h : St3 T w) : StN T w 3 := ⟨h.w', h.made, h.th⟩
theorem StN.put {T T' : Tb} {w : Int} {n : Nat} {K : PySem.W.Frag} {M M' : Mp} {r : List Int} {os : List (List Int)} (h : StN T w n) (st : TStep K M M' T T' (T.th ++ [(T.made, r)]) (T.made + 1) os) : StN T' w (n + 1) :=
  ⟨st.w.trans h.w', by rw [st.made, h.made]; omega, by rw [st.th, List.map_append, h.th, List.range_succ, List.map_append, h.made]; rfl⟩
theorem StN.same {T T' : Tb} {w : Int} {n : Nat} {K : PySem.W.Frag} {M M' : Mp} {os : List (List Int)} (h : StN T w n) (st : TStep K M M' T T' T.th T.made os) : StN T' w n :=
  ⟨st.w.trans h.w', st.made.trans h.made, by rw [st.th]; exact h.th⟩
theorem StN.get {T : Tb} {w : Int} {n : Nat} (h : StN T w n) {m : Int} (m0 : 0 ≤ m) (m1 : m < n) : ∃ r, thGet T.th m = some r := by
  cases e : thGet T.th m with
  | none =>
    refine absurd ?_ (thGet_none.mp e)
    rw [h.th]
    exact List.mem_map.mpr ⟨m.toNat, List.mem_range.mpr (by omega), Int.toNat_of_nonneg m0⟩
  | some r => exact ⟨r, rfl⟩
theorem adr_no {K : PySem.W.Frag} {M : Mp} {T : Tb} (h : TabAt K M T) : ∀ x ∈ T.adr, M x ≠ none := fun x z e => by
  simp only [Tb.adr, List.mem_cons] at z
  rcases z with g | g | g | g
  · rw [g, h.ob] at e; cases e
  · rw [g, h.dc] at e; cases e
  · rw [g, h.ka.li] at e; cases e
  · obtain ⟨q, hq, g⟩ := List.mem_map.mp g
    rw [← g, (h.ka.ke q hq).en] at e; cases e
def pr_l_full (K : PySem.W.Frag) : Pr := q4 fun x y z u M nx _ => ∃ (T : Tb) (w c pl : Int), x = .ref T.p ∧ y = .int w ∧ z = .int c ∧ u = .int pl ∧ TabAt K M T ∧ TabOk T ∧ St3 T w ∧ 3 ≤ w ∧ w ≤ 6 ∧ ∀ M', nx (.bl true) M'
section
variable {J : Jx} {ta tb tc td : TE} {ρ : Ro} {M : Mp} {E : XK} {R : D → Mp → Prop}
theorem w_l_full {T : Tb} {w c pl : Int} (h1 : Ev J ta ρ M (.ref T.p)) (h2 : Ev J tb ρ M (.int w)) (h3 : Ev J tc ρ M (.int c)) (h4 : Ev J td ρ M (.int pl)) (hT : TabAt J.K M T) (hO : TabOk T) (h3' : St3 T w) (w3 : 3 ≤ w) (w6 : w ≤ 6) (k : ∀ M', R (.bl true) M') : W J (tCall (spD J.K (pr_l_full J.K)) [] E (tCons ta (tCons tb (tCons tc (tCons td tNil))))) ρ M R :=
  w_call ((ea_cons h1 (ea_cons h2 (ea_cons h3 (ea_cons h4 ea_nil)))).w ⟨_, _, _, _, rfl, T, w, c, pl, rfl, rfl, rfl, rfl, hT, hO, h3', w3, w6, k⟩)
end
abbrev nm_l_full : List Str := ["_law_table", "_law_width_here", "_law_cell", "_law_place", "_law_k", "_law_row_here", "_law_word"]
theorem sc_l_full : FnScope nm_l_full ["_law_table", "_law_width_here", "_law_cell", "_law_place"] (defScope s_l_full) := ⟨rfl, rfl, rfl, by decide +kernel, rfl, by decide +kernel, by decide +kernel⟩
theorem ok_l_full (hTx : Tx K mg) : OkF P w K mg base CX0 11 "_law_full" (He.ga K "_law_full") ["_law_table", "_law_width_here", "_law_cell", "_law_place"] (pr_l_full K) := by
  obtain ⟨_, G_Table_forget, b_Table_forget⟩ := ok_Table_forget (P := P) (w := w) (base := base) hTx
  obtain ⟨_, G_Table_put, b_Table_put⟩ := ok_Table_put (P := P) (w := w) (base := base) hTx
  obtain ⟨_, G_l_row, b_l_row, k_l_row, g_l_row⟩ := ok_l_row (P := P) (w := w) (base := base) hTx
  obtain ⟨_, G_l_holds, b_l_holds, k_l_holds, g_l_holds⟩ := ok_l_holds (P := P) (w := w) (base := base) hTx
  obtain ⟨_, G_Table_drop, b_Table_drop⟩ := ok_Table_drop (P := P) (w := w) (base := base) hTx
  obtain ⟨_, F⟩ := hTx.fnF 50 s_l_full "_law_full" 159
  refine ⟨_, ?_, F.binds (ps := ["_law_table", "_law_width_here", "_law_cell", "_law_place"]) fun _ _ _ _ _ _ us hl => match us, hl with | [_, _, _, _], _ => rfl, F.kp, hTx.gl 130⟩
  refine fn_dl F sc_l_full (fun _ _ _ _ h => q4_len h) (fun cdv A outer s H E hr => ⟨_, (pss_cons (ps_expr (pe_meth (pv 0) (hTx.cl 27) (hTx.me 54) G_Table_forget (hr.mono (by decide)) b_Table_forget .nil pass0 (pa_cons (pe_tup (pa_cons pe_int (pa_cons pe_int pa_nil))) pa_nil)))
    (pss_cons (ps_if (pt_cmpR op_eq (pe_op op_mod (pe_op op_fdiv (pv 3) pe_int) pe_int) pe_int (nomark _))
    (pss_one (ps_expr (pe_meth (pv 0) (hTx.cl 27) (hTx.me 54) G_Table_forget (hr.mono (by decide)) b_Table_forget .nil pass0 (pa_cons (pe_tup (pa_cons pe_int pa_nil)) pa_nil))))
    pss_nil)
    (pss_cons (ps_for PassesOwn.never rfl (pi_range1 rfl (hTx.fr 61) (pa_cons pe_int pa_nil)) (pg_name (i := 4) sc_l_full.nd rfl (Or.inl rfl))
    (pss_one (ps_expr (pe_meth (pv 0) (hTx.cl 27) (hTx.me 52) G_Table_put (hr.mono (by decide)) b_Table_put .nil pass0 (pa_cons (pe_op op_rep (pe_lst (pa_cons (pv 4) pa_nil)) (pv 1)) pa_nil)))))
    (pss_cons (ps_set (i := 5) sc_l_full.nd rfl (Or.inl rfl) (pe_call G_l_row (hr.mono (by decide)) rfl g_l_row k_l_row b_l_row .nil pass0 (pa_cons (pv 2) (pa_cons (pv 3) (pa_cons (pv 1) pa_nil)))))
    (pss_cons (ps_set (i := 6) sc_l_full.nd rfl (Or.inl rfl) pe_str)
    (pss_cons (ps_if (PW.pt (pw_or (pt_cmpR op_eq (pe_op op_mod (pv 2) pe_int) pe_int (nomark _)) (pw_or1 (PW.pt (pw_and (pt_cmpR op_eq (pe_op op_mod (pv 2) pe_int) pe_int (nomark _)) (pw_and1 (pt_cmpR op_eq (pe_op op_mod (pe_op op_fdiv (pv 3) pe_int) pe_int) pe_int (nomark _))))))))
    (pss_one (ps_set (i := 6) sc_l_full.nd rfl (Or.inl rfl) pe_str))
    pss_nil)
    (pss_cons (ps_if (pt_not (pt_val (pe_call G_l_holds (hr.mono (by decide)) rfl g_l_holds k_l_holds b_l_holds .nil pass0 (pa_cons (pv 0) (pa_cons pe_int (pa_cons (pv 5) (pa_cons pe_non (pa_cons (pv 6) pa_nil))))))))
    (pss_one (ps_ret pe_bl))
    pss_nil)
    (pss_cons (ps_expr (pe_meth (pv 0) (hTx.cl 27) (hTx.me 58) G_Table_drop (hr.mono (by decide)) b_Table_drop .nil pass0 (pa_cons (pe_op op_mod (pv 3) pe_int) pa_nil)))
    (pss_one (ps_ret (pe_and (pe_cmpR op_eq (pe_meth (pv 0) (hTx.cl 27) (hTx.me 52) G_Table_put (hr.mono (by decide)) b_Table_put .nil pass0 (pa_cons (pe_op op_rep (pe_lst (pa_cons pe_int pa_nil)) (pv 1)) pa_nil)) pe_int (nomark _)) (pe_one (pe_call G_l_holds (hr.mono (by decide)) rfl g_l_holds k_l_holds b_l_holds .nil pass0 (pa_cons (pv 0) (pa_cons pe_int (pa_cons (pe_op op_rep (pe_lst (pa_cons pe_int pa_nil)) (pv 1)) (pa_cons pe_non (pa_cons pe_str pa_nil)))))))))))))))))), ?_⟩)
  try dsimp only [cx_K, cx_nK]
  rintro _ M nx xe ⟨_, _, _, _, rfl, T, w, c, pl, rfl, rfl, rfl, rfl, hT, hO, hS, w3, w6, k⟩
  show S (J0 K) _ [some (.ref T.p), some (.int w), some (.int c), some (.int pl), none, none, none] M _
  refine s_seq (s_drop (w_Table_forgetC (T := T) (cols := [1, 0]) (i := 1) (ev_var rfl) (ev_tup (ds := [.int 1, .int 0]) (ea_cons ev_int (ea_cons ev_int ea_nil)) (sz (by simp))) hT hO (by rw [hS.os]; rfl) fun M1 T1 st => ?_))
  have hS1 := hS.n.same st
  have hp1 := st.p
  have ho1 : T1.ks.map (·.cols) = [[0]] := by rw [st.os, hS.os]; rfl
  have hT1 := st.at'
  have hO1 := st.ok
  clear st hS hT hO
  refine s_cut (fun ρ' M' => ∃ T2, TabAt K M' T2 ∧ TabOk T2 ∧ T2.p = T.p ∧ StN T2 w 3 ∧ ρ' = [some (.ref T.p), some (.int w), some (.int c), some (.int pl), none, none, none]) ?_ ?_
  · refine s_if (by walk_at "ev") (fun _ => ?_) (fun _ => s_next ⟨T1, hT1, hO1, hp1, hS1, rfl⟩)
    exact s_drop (w_Table_forgetC (T := T1) (cols := [0]) (i := 0) (by rw [hp1]; exact ev_var rfl) (ev_tup (ds := [.int 0]) (ea_cons ev_int ea_nil) (sz (by simp))) hT1 hO1 (by rw [ho1]; rfl) fun M2 T2 st => ⟨T2, st.at', st.ok, st.p.trans hp1, hS1.same st, rfl⟩)
  clear hT1 hO1 hp1 hS1 ho1
  rintro ρ' M1 ⟨T2, hT, hO, hp, hS, rfl⟩
  refine s_seq (s_for (src_rng1 (n := 197) ev_int (by decide) (by decide)) (fun i ρ' M' => ∃ T3 a, TabAt K M' T3 ∧ TabOk T3 ∧ T3.p = T.p ∧ StN T3 w (3 + i) ∧ ρ' = [some (.ref T.p), some (.int w), some (.int c), some (.int pl), a, none, none]) ⟨T2, _, hT, hO, hp, hS, rfl⟩ (fun _ _ _ _ => trivial) ?_ ?_)
  · rintro i d ρ' M' hdd ⟨T3, a, hT, hO, hp, hS, rfl⟩
    obtain ⟨hi, rfl⟩ := rng_get hdd
    have hi : i < 197 := hi
    refine sg_name ?_
    refine s_drop (w_Table_put (T := T3) (r := List.replicate w.toNat (0 + (i : Int))) (by rw [hp]; exact ev_var rfl) (ev_rowRep (ev_var rfl) (ev_var rfl) (by omega) (by omega)) .l (fun y hy z => nomatch z) hT hO (by rw [List.length_replicate, hS.w']; omega) (by rw [hS.len]; omega) fun M4 st => ⟨_, _, st.at', st.ok, st.p.trans hp, hS.put st, rfl⟩)
  clear hT hO hp hS
  rintro ρ' M2 ⟨T3, a, hT, hO, hp, hS, rfl⟩
  rw [rng_len] at hS
  have hS : StN T3 w 200 := hS
  refine s_seq (s_asg (w_l_row (c := c) (pl := pl) (w := w) (ev_var rfl) (ev_var rfl) (ev_var rfl) w3 w6 fun d M3 sb hd => ?_))
  have hT := hT.sub sb
  refine s_seq (s_asgE ev_str ?_)
  refine s_cut (fun ρ' M' => M' = M3 ∧ ∃ wd, (∀ Z : Mp → Prop, Z M3 → HoldK K M3 T3 1 d .non wd Z) ∧ ρ' = [some (.ref T.p), some (.int w), some (.int c), some (.int pl), a, some d, some (.str wd)]) ?_ ?_
  · refine s_if (b := rowGood c pl) (by unfold rowGood; walk_at "ev") (fun h => s_asgE ev_str ⟨rfl, _, ?_, rfl⟩) (fun h => s_next ⟨rfl, _, ?_, rfl⟩)
    · rcases hd with ⟨_, r, hr, hd⟩ | ⟨h2, _⟩
      · refine fun Z zz => .inr ⟨"Full", .full (r := r) ?_ (by rw [hS.w']; exact hr) hS.len, .w2, zz⟩
        rcases hd with rfl | ⟨p, rfl, _, hp⟩
        · exact .t
        · exact (IsL.r hp).q
      · rw [h] at h2; cases h2
    · rcases hd with ⟨h2, _⟩ | ⟨_, h2, _⟩
      · rw [h] at h2; cases h2
      · exact fun Z zz => .inr ⟨"BadRow", .row (by rw [hS.w']; exact h2), .w1, zz⟩
  rintro ρ' M' ⟨rfl, wd, hw, rfl⟩
  refine s_seq (s_ifW (wt_not (wt_B (w_l_holds (T := T3) (kind := 1) (wd := wd) (by rw [hp]; exact ev_var rfl) ev_int (ev_var rfl) ev_non (ev_var rfl) hT hO (hw _ ⟨true, rfl, fun z => (nomatch z), fun _ => s_next ?_⟩)))))
  have m0 := Int.emod_nonneg pl (show (200 : Int) ≠ 0 by decide)
  have m1 := Int.emod_lt_of_pos pl (show (0 : Int) < 200 by decide)
  obtain ⟨r, hr⟩ := hS.get m0 (by simpa using m1)
  refine s_seq (s_drop (w_Table_drop (T := T3) (n := pl % 200) (r := r) (by rw [hp]; exact ev_var rfl) (by walk_at "ev") hT hO hr fun M4 st => ?_))
  have hl : (T3.drop (pl % 200) r).th.length = 199 := by
    have := (thDrop_perm hO.nd (thGet_mem hr)).length_eq
    rw [hS.len, List.length_cons] at this
    show (thDrop T3.th (pl % 200)).length = 199
    omega
  have hm : (T3.drop (pl % 200) r).made = 200 := hS.made
  have hw' : (T3.drop (pl % 200) r).w = w := hS.w'
  have hp' : (T3.drop (pl % 200) r).p = T.p := hp
  have hT4 := st.at'
  have hO4 := st.ok
  revert hl hm hw' hp' hT4 hO4
  generalize T3.drop (pl % 200) r = T4
  intro hl hm hw' hp' hT4 hO4
  refine s_ret (w_andV (w_op (w_Table_put (T := T4) (r := List.replicate w.toNat 0) (by rw [hp']; exact ev_var rfl) (ev_rowRep ev_int (ev_var rfl) (by omega) (by omega)) .l (fun y hy z => nomatch z) hT4 hO4 (by rw [List.length_replicate, hw']; omega) (by omega) fun M6 st => ev_int.w (op2_eqI ⟨true, by rw [hm]; rfl, ?_⟩))))
  rw [if_pos rfl]
  refine w_l_holds (T := T4.put (List.replicate w.toNat 0)) (kind := 1) (wd := "full") (by rw [st.p, hp']; exact ev_var rfl) ev_int (ev_rowRep ev_int (ev_var rfl) (by omega) (by omega)) ev_non ev_str st.at' st.ok (.inr ⟨"Full", .full (r := List.replicate w.toNat 0) .l (by rw [List.length_replicate, st.w, hw']; omega) (by rw [st.th, List.length_append, hl]; rfl), .w2, k M6⟩)

theorem atI_last {α : Type} {l : List α} {z : α} : atI (l ++ [z]) (-1) = some z := by
  have e : ixN (l ++ [z]).length (-1) = some l.length := by
    unfold ixN
    rw [if_neg (by decide), if_pos (by rw [List.length_append]; simp; omega), List.length_append]
    simp
    omega
  unfold atI
  rw [e]
  simp
theorem not_mem_erase {α : Type} : ∀ {l : List α} {i : Nat} {a : α}, l.Nodup → l[i]? = some a → a ∉ l.eraseIdx i
  | [], _, _, _, h => by simp at h
  | b :: l, 0, a, hn, h => by
    have e : b = a := by simpa using h
    rw [← e]
    exact (List.nodup_cons.mp hn).1
  | b :: l, i + 1, a, hn, h => by
    have h' : l[i]? = some a := by simpa using h
    rw [List.eraseIdx_cons_succ]
    intro z
    rcases List.mem_cons.mp z with e | z
    · rw [e] at h'
      exact (List.nodup_cons.mp hn).1 (List.mem_of_getElem? h')
    · exact not_mem_erase (List.nodup_cons.mp hn).2 h' z
theorem nums_perm {cols : List Int} {th : Th} {es : List (List Int)} (h : KOrd cols th es) : (numsM es).Perm (th.map (·.1)) := by
  have p := h.perm.map fun e : List Int => e.getLastD 0
  refine p.trans (List.Perm.of_eq ?_)
  rw [List.map_map]
  refine List.map_congr_left fun q _ => ?_
  show (entryM cols q.1 q.2).getLastD 0 = q.1
  unfold entryM
  simp
abbrev os6 : List (List Int) := [[2], [0, 1], [0, 2], [2, 0], [1, 2], [2, 1]]
theorem os6_ok {w : Int} (h : 3 ≤ w) : ∀ o ∈ os6, ColOk o w := fun o ho => by
  have key : ∀ o ∈ os6, (∀ c ∈ o, 0 ≤ c ∧ c < 3) ∧ o.Nodup ∧ o ≠ [] := by decide
  obtain ⟨h1, h2, h3⟩ := key o ho
  exact ⟨fun c hc => ⟨(h1 c hc).1, by have := (h1 c hc).2; omega⟩, h2, h3⟩
theorem os6_nd : ([[0], [1, 0]] ++ os6).Nodup := by decide
def pr_l_asked (K : PySem.W.Frag) : Pr := q5 fun x y z u v M nx _ => ∃ (T : Tb) (w c pl kind : Int), x = .ref T.p ∧ y = .int w ∧ z = .int c ∧ u = .int pl ∧ v = .int kind ∧ TabAt K M T ∧ TabOk T ∧ St3 T w ∧ 3 ≤ w ∧ w ≤ 6 ∧ (kind = 2 ∨ kind = 3 ∨ kind = 4) ∧ ∀ M', nx (.bl true) M'
section
variable {J : Jx} {ta tb tc td te : TE} {ρ : Ro} {M : Mp} {E : XK} {R : D → Mp → Prop}
theorem w_l_asked {T : Tb} {w c pl kind : Int} (h1 : Ev J ta ρ M (.ref T.p)) (h2 : Ev J tb ρ M (.int w)) (h3 : Ev J tc ρ M (.int c)) (h4 : Ev J td ρ M (.int pl)) (h5 : Ev J te ρ M (.int kind)) (hT : TabAt J.K M T) (hO : TabOk T) (h3' : St3 T w) (w3 : 3 ≤ w) (w6 : w ≤ 6) (hk : kind = 2 ∨ kind = 3 ∨ kind = 4) (k : ∀ M', R (.bl true) M') : W J (tCall (spD J.K (pr_l_asked J.K)) [] E (tCons ta (tCons tb (tCons tc (tCons td (tCons te tNil)))))) ρ M R :=
  w_call ((ea_cons h1 (ea_cons h2 (ea_cons h3 (ea_cons h4 (ea_cons h5 ea_nil))))).w ⟨_, _, _, _, _, rfl, T, w, c, pl, kind, rfl, rfl, rfl, rfl, rfl, hT, hO, h3', w3, w6, hk, k⟩)
end
abbrev nm_l_asked : List Str := ["_law_table", "_law_width_here", "_law_cell", "_law_place", "_law_kind", "_law_order_here", "_law_thing", "_law_kept", "_law_word"]
theorem sc_l_asked : FnScope nm_l_asked ["_law_table", "_law_width_here", "_law_cell", "_law_place", "_law_kind"] (defScope s_l_asked) := ⟨rfl, rfl, rfl, by decide +kernel, rfl, by decide +kernel, by decide +kernel⟩
theorem ok_l_asked (hTx : Tx K mg) : OkF P w K mg base CX0 11 "_law_asked" (He.ga K "_law_asked") ["_law_table", "_law_width_here", "_law_cell", "_law_place", "_law_kind"] (pr_l_asked K) := by
  obtain ⟨_, G_Table_tell, b_Table_tell⟩ := ok_Table_tell (P := P) (w := w) (base := base) hTx
  obtain ⟨_, G_l_order, b_l_order, k_l_order, g_l_order⟩ := ok_l_order (P := P) (w := w) (base := base) hTx
  obtain ⟨_, G_Table_orders, b_Table_orders⟩ := ok_Table_orders (P := P) (w := w) (base := base) hTx
  obtain ⟨_, G_l_good_order, b_l_good_order, k_l_good_order, g_l_good_order⟩ := ok_l_good_order (P := P) (w := w) (base := base) hTx
  obtain ⟨_, G_l_holds, b_l_holds, k_l_holds, g_l_holds⟩ := ok_l_holds (P := P) (w := w) (base := base) hTx
  obtain ⟨_, G_Table_forget, b_Table_forget⟩ := ok_Table_forget (P := P) (w := w) (base := base) hTx
  obtain ⟨_, G_Table_listed, b_Table_listed⟩ := ok_Table_listed (P := P) (w := w) (base := base) hTx
  obtain ⟨_, G_Table_numbers, b_Table_numbers⟩ := ok_Table_numbers (P := P) (w := w) (base := base) hTx
  obtain ⟨_, F⟩ := hTx.fnF 51 s_l_asked "_law_asked" 160
  refine ⟨_, ?_, F.binds (ps := ["_law_table", "_law_width_here", "_law_cell", "_law_place", "_law_kind"]) fun _ _ _ _ _ _ us hl => match us, hl with | [_, _, _, _, _], _ => rfl, F.kp, hTx.gl 131⟩
  refine fn_dl F sc_l_asked (fun _ _ _ _ h => q5_len h) (fun cdv A outer s H E hr => ⟨_, (pss_cons (ps_if (PW.pt (pw_and (pt_cmpR op_eq (pv 4) pe_int (nomark _)) (pw_and (pt_cmpR op_eq (pe_op op_mod (pv 2) pe_int) pe_int (nomark _)) (pw_and1 (pt_cmpR op_eq (pe_op op_mod (pe_op op_fdiv (pv 3) pe_int) pe_int) pe_int (nomark _))))))
    (pss_one (ps_for PassesOwn.never rfl (kx_plist (K := K) rfl (pe_lst (pa_cons (pe_tup (pa_cons pe_int pa_nil)) (pa_cons (pe_tup (pa_cons pe_int (pa_cons pe_int pa_nil))) (pa_cons (pe_tup (pa_cons pe_int (pa_cons pe_int pa_nil))) (pa_cons (pe_tup (pa_cons pe_int (pa_cons pe_int pa_nil))) (pa_cons (pe_tup (pa_cons pe_int (pa_cons pe_int pa_nil))) (pa_cons (pe_tup (pa_cons pe_int (pa_cons pe_int pa_nil))) pa_nil)))))))) (pg_name (i := 5) sc_l_asked.nd rfl (Or.inl rfl))
    (pss_one (ps_expr (pe_meth (pv 0) (hTx.cl 27) (hTx.me 53) G_Table_tell (hr.mono (by decide)) b_Table_tell .nil pass0 (pa_cons (pv 5) pa_nil))))))
    pss_nil)
    (pss_cons (ps_set (i := 6) sc_l_asked.nd rfl (Or.inl rfl) (pe_call G_l_order (hr.mono (by decide)) rfl g_l_order k_l_order b_l_order .nil pass0 (pa_cons (pv 2) (pa_cons (pv 3) (pa_cons (pv 1) pa_nil)))))
    (pss_cons (ps_set (i := 7) sc_l_asked.nd rfl (Or.inl rfl) (pe_and (pe_cmpR (kx_inD (K := K) rfl (hu65 hr)) (pv 6) (pe_meth0 (pv 0) (hTx.cl 27) (hTx.me 37) G_Table_orders (hr.mono (by decide)) b_Table_orders .nil pass0) (by rfl)) (pe_one (pe_call G_l_good_order (hr.mono (by decide)) rfl g_l_good_order k_l_good_order b_l_good_order .nil pass0 (pa_cons (pv 6) (pa_cons (pv 1) pa_nil))))))
    (pss_cons (ps_set (i := 8) sc_l_asked.nd rfl (Or.inl rfl) pe_str)
    (pss_cons (ps_if (PW.pt (pw_and (pt_cmpR op_eq (pv 4) pe_int (nomark _)) (pw_and (pt_val (pe_call G_l_good_order (hr.mono (by decide)) rfl g_l_good_order k_l_good_order b_l_good_order .nil pass0 (pa_cons (pv 6) (pa_cons (pv 1) pa_nil)))) (pw_and (pt_not (pt_val (pv 7))) (pw_and1 (pt_cmpR op_lt (pe_callB (kx_len (K := K) rfl) (by rfl) (hTx.fr 1) (by decide +kernel) (pa_cons (pe_meth0 (pv 0) (hTx.cl 27) (hTx.me 37) G_Table_orders (hr.mono (by decide)) b_Table_orders .nil pass0) pa_nil)) pe_int (nomark _)))))))
    (pss_one (ps_set (i := 8) sc_l_asked.nd rfl (Or.inl rfl) pe_str))
    pss_nil)
    (pss_cons (ps_if (PW.pt (pw_and (pt_cmpR op_gt (pv 4) pe_int (nomark _)) (pw_and1 (pt_val (pv 7)))))
    (pss_one (ps_set (i := 8) sc_l_asked.nd rfl (Or.inl rfl) pe_str))
    pss_nil)
    (pss_cons (ps_if (pt_not (pt_val (pe_call G_l_holds (hr.mono (by decide)) rfl g_l_holds k_l_holds b_l_holds .nil pass0 (pa_cons (pv 0) (pa_cons (pv 4) (pa_cons (pv 6) (pa_cons pe_non (pa_cons (pv 8) pa_nil))))))))
    (pss_one (ps_ret pe_bl))
    pss_nil)
    (pss_cons (ps_if (PW.pt (pw_and (pt_cmpR op_eq (pv 4) pe_int (nomark _)) (pw_and1 (pt_val (pv 7)))))
    (pss_cons (ps_expr (pe_meth (pv 0) (hTx.cl 27) (hTx.me 54) G_Table_forget (hr.mono (by decide)) b_Table_forget .nil pass0 (pa_cons (pv 6) pa_nil)))
    (pss_one (ps_ret (pe_and (pe_call G_l_holds (hr.mono (by decide)) rfl g_l_holds k_l_holds b_l_holds .nil pass0 (pa_cons (pv 0) (pa_cons pe_int (pa_cons (pv 6) (pa_cons pe_non (pa_cons pe_str pa_nil)))))) (pe_one (pe_cmpR (kx_eqD (K := K) rfl (hu64 hr)) (pe_ix (kx_ixL (K := K) rfl) (pe_meth0 (pv 0) (hTx.cl 27) (hTx.me 37) G_Table_orders (hr.mono (by decide)) b_Table_orders .nil pass0) (pe_un un_neg pe_int) (fun _ _ => rfl)) (pv 6) (nomark _)))))))
    pss_nil)
    (pss_cons (ps_if (PW.pt (pw_and (pt_cmpR op_gt (pv 4) pe_int (nomark _)) (pw_and (pt_not (pt_val (pv 7))) (pw_and1 (pt_val (pe_call G_l_good_order (hr.mono (by decide)) rfl g_l_good_order k_l_good_order b_l_good_order .nil pass0 (pa_cons (pv 6) (pa_cons (pv 1) pa_nil))))))))
    (pss_cons (ps_expr (pe_meth (pv 0) (hTx.cl 27) (hTx.me 53) G_Table_tell (hr.mono (by decide)) b_Table_tell .nil pass0 (pa_cons (pv 6) pa_nil)))
    (pss_one (ps_ret (pe_and (pe_cmpR (kx_eqD (K := K) rfl (hu64 hr)) (pe_callB (kx_sortedI (K := K) rfl) (by rfl) (hTx.fr 12) (by decide +kernel) (pa_cons (pe_meth (pv 0) (hTx.cl 27) (hTx.me 55) G_Table_listed (hr.mono (by decide)) b_Table_listed .nil pass0 (pa_cons (pv 6) pa_nil)) pa_nil)) (pe_meth0 (pv 0) (hTx.cl 27) (hTx.me 41) G_Table_numbers (hr.mono (by decide)) b_Table_numbers .nil pass0) (nomark _)) (pe_one (pe_call G_l_holds (hr.mono (by decide)) rfl g_l_holds k_l_holds b_l_holds .nil pass0 (pa_cons (pv 0) (pa_cons (pv 4) (pa_cons (pv 6) (pa_cons pe_non (pa_cons pe_str pa_nil)))))))))))
    pss_nil)
    (pss_one (ps_ret pe_bl))))))))))), ?_⟩)
  try dsimp only [cx_K, cx_nK]
  rintro _ M nx xe ⟨_, _, _, _, _, rfl, T, w, c, pl, kind, rfl, rfl, rfl, rfl, rfl, hT, hO, hS, w3, w6, hk, k⟩
  show S (J0 K) _ [some (.ref T.p), some (.int w), some (.int c), some (.int pl), some (.int kind), none, none, none, none] M _
  -- six orders more
  refine s_cut (fun ρ' M' => ∃ T1 a, TabAt K M' T1 ∧ TabOk T1 ∧ T1.p = T.p ∧ T1.w = w ∧ (kind ≠ 2 → T1.ks.length = 2) ∧ ρ' = [some (.ref T.p), some (.int w), some (.int c), some (.int pl), some (.int kind), a, none, none, none]) ?_ ?_
  · have hk0 : T.ks.length = 2 := by
      have := congrArg List.length hS.os
      rw [List.length_map] at this
      exact this
    refine s_if (b := decide (kind = 2) && (decide (c % 9 = 8) && decide (pl / 6 % 4 = 0))) (by walk_at "ev") (fun h => ?_) (fun h => s_next ⟨T, _, hT, hO, rfl, hS.w', fun _ => hk0, rfl⟩)
    have h2 : kind = 2 := of_decide_eq_true (Bool.and_eq_true_iff.mp h).1
    refine s_for (src_l (x := .lst (os6.map ordD)) (en_lst (ds := os6.map ordD) (ea_cons (ev_tup (ds := [.int 2]) (by walk_at "ev") (sz (by simp))) (ea_cons (ev_tup (ds := [.int 0, .int 1]) (by walk_at "ev") (sz (by simp))) (ea_cons (ev_tup (ds := [.int 0, .int 2]) (by walk_at "ev") (sz (by simp))) (ea_cons (ev_tup (ds := [.int 2, .int 0]) (by walk_at "ev") (sz (by simp))) (ea_cons (ev_tup (ds := [.int 1, .int 2]) (by walk_at "ev") (sz (by simp))) (ea_cons (ev_tup (ds := [.int 2, .int 1]) (by walk_at "ev") (sz (by simp))) ea_nil)))))) (sz (by simp))).ev (.inl rfl)) (fun i ρ' M' => ∃ T1 a, TabAt K M' T1 ∧ TabOk T1 ∧ T1.p = T.p ∧ T1.w = w ∧ T1.ks.map (·.cols) = [[0], [1, 0]] ++ os6.take i ∧ ρ' = [some (.ref T.p), some (.int w), some (.int c), some (.int pl), some (.int kind), a, none, none, none]) ⟨T, _, hT, hO, rfl, hS.w', hS.os, rfl⟩ (fun _ _ _ _ => trivial) ?_ ?_
    · rintro i d ρ' M' hdd ⟨T1, a, hT1, hO1, q1, q2, q3, rfl⟩
      obtain ⟨o, hoi, rfl⟩ := get_map hdd
      have hil : i < 6 := lt_of_get hoi
      have tk : os6.take (i + 1) = os6.take i ++ [o] := by
        obtain ⟨hl, e⟩ := List.getElem?_eq_some_iff.mp hoi
        rw [← e]
        exact (List.take_append_getElem hl).symm
      have hno : o ∉ [[0], [1, 0]] ++ os6.take i := fun z => by
        have hnd : ([[0], [1, 0]] ++ os6.take (i + 1)).Nodup := List.Nodup.sublist ((List.take_sublist _ _).append_left _) os6_nd
        rw [tk, ← List.append_assoc] at hnd
        exact (List.nodup_append.mp hnd).2.2 o z o (List.mem_singleton.mpr rfl) rfl
      have hkl : T1.ks.length = 2 + i := by
        have := congrArg List.length q3
        rw [List.length_map, List.length_append, List.length_take] at this
        have e : os6.length = 6 := rfl
        rw [e] at this
        have e2 : ([[0], [1, 0]] : List (List Int)).length = 2 := rfl
        omega
      refine sg_name ?_
      exact s_drop (w_Table_tell (T := T1) (cols := o) (by rw [q1]; exact ev_var rfl) (ev_var rfl) hT1 hO1 (by rw [q2]; exact os6_ok w3 o (List.mem_of_getElem? hoi)) (by rw [q3]; exact hno) (by omega) fun M4 T4 st => ⟨T4, _, st.at', st.ok, st.p.trans q1, st.w.trans q2, by rw [st.os, q3, tk, List.append_assoc], rfl⟩)
    · rintro ρ' M' ⟨T1, a, hT1, hO1, q1, q2, q3, rfl⟩
      exact ⟨T1, a, hT1, hO1, q1, q2, fun z => absurd h2 z, rfl⟩
  clear hT hO hS
  rintro ρ' M1 ⟨T1, a, hT, hO, hp, hw, hks, rfl⟩
  have hkl := hO.kl
  -- the order
  refine s_seq (s_asg (w_l_order (c := c) (pl := pl) (w := w) (ev_var rfl) (ev_var rfl) (ev_var rfl) w3 w6 fun d M2 sb hd hdl => ?_))
  have hT := hT.sub sb
  clear sb
  have gd : ∀ ρ' : Ro, ρ'[6]? = some (some d) → ρ'[1]? = some (some (.int w)) → Ev (J0 K) (tCall (spD K (pr_l_good_order K)) [] E0 (tCons (tVar 6) (tCons (tVar 1) tNil))) ρ' M2 (.bl (ordB w d)) := fun ρ' h6 h1 => ev_l_good_order (n := 1) (ev_var h6) (ev_var h1) hd hdl
  have od : ∀ ρ' : Ro, ρ'[0]? = some (some (.ref T.p)) → Ev (J0 K) (tMeth (He.ga K "Table") "orders" (spD K (pr_Table_orders K)) [] E0 (tVar 0) tNil) ρ' M2 (.lst ((T1.ks.map (·.cols)).map ordD)) := fun ρ' h0 => (en_Table_orders (T := T1) (by rw [hp]; exact ev_var h0) hT (by omega)).ev
  have hcase := ord_cases (w := w) M2 hd hdl
  refine s_cut (fun ρ' M' => M' = M2 ∧ ∃ kept : Bool, ((kept = false ∧ ordB w d = false ∧ OrdBad M2 T1.w d) ∨ (ordB w d = true ∧ ∃ cols, d = ordD cols ∧ ColOk cols T1.w ∧ (kept = true ↔ cols ∈ T1.ks.map (·.cols)))) ∧ ρ' = [some (.ref T.p), some (.int w), some (.int c), some (.int pl), some (.int kind), a, some d, some (.bl kept), none]) ?_ ?_
  · rcases hcase with ⟨h1, h2⟩ | ⟨h1, cols, rfl, h2, h3, h4⟩
    · refine s_asg (w_andV (w_inP (cU cI) (ev_var rfl) (od _ rfl) hd (by decide) .i (by decide) fun b => ⟨b, rfl, ?_⟩))
      have e : ∃ kept : Bool, ((kept = false ∧ ordB w d = false ∧ OrdBad M2 T1.w d) ∨ (ordB w d = true ∧ ∃ cols, d = ordD cols ∧ ColOk cols T1.w ∧ (kept = true ↔ cols ∈ T1.ks.map (·.cols)))) ∧ [some (.ref T.p), some (.int w), some (.int c), some (.int pl), some (.int kind), a, some d, some (.bl false), none] = [some (.ref T.p), some (.int w), some (.int c), some (.int pl), some (.int kind), a, some d, some (.bl kept), none] := ⟨false, .inl ⟨rfl, h1, by rw [hw]; exact h2⟩, rfl⟩
      cases b with
      | true =>
        rw [if_pos rfl]
        exact ((gd _ rfl rfl).is (by rw [h1])).w ⟨rfl, e⟩
      | false =>
        rw [if_neg Bool.false_ne_true]
        exact ⟨rfl, e⟩
    · refine s_asgE (ev_andV (ev_inC (cU cI) (a := cols) (l := T1.ks.map (·.cols)) (ev_var rfl) (od _ rfl) .i .i (by decide)) fun _ => gd _ rfl rfl) ⟨rfl, _, .inr ⟨h1, cols, rfl, ⟨by rw [hw]; exact h2, h3, h4⟩, ?_⟩, rfl⟩
      rw [h1, Bool.and_true]
      exact ⟨fun z => by simpa using z, fun z => by simpa using z⟩
  rintro ρ' M' ⟨rfl, kept, hkp, rfl⟩
  clear hcase
  -- the word
  refine s_seq (s_asgE ev_str ?_)
  refine s_cut (fun ρ' M2 => M2 = M' ∧ ∃ wd : Str, ((wd = "given" ∧ kind = 2 ∧ ordB w d = true ∧ kept = false ∧ T1.ks.length < 8) ∨ (wd = "bad order" ∧ ¬ (kind = 2 ∧ ordB w d = true ∧ kept = false ∧ T1.ks.length < 8))) ∧ ρ' = [some (.ref T.p), some (.int w), some (.int c), some (.int pl), some (.int kind), a, some d, some (.bl kept), some (.str wd)]) ?_ ?_
  · refine s_if (b := decide (kind = 2) && (ordB w d && (!kept && decide (((((T1.ks.map (·.cols)).map ordD).length : Nat) : Int) < 8)))) (et_and (by walk_at "ev") fun _ => et_and (et_B (gd _ rfl rfl)) fun _ => et_and (et_not (et_B (ev_var rfl))) fun _ => et_test (ev_B0 (ev_len (od _ rfl) IsL.l.q) ev_int)) (fun h => s_asgE ev_str ⟨rfl, _, .inl ⟨rfl, ?_⟩, rfl⟩) (fun h => s_next ⟨rfl, _, .inr ⟨rfl, fun z => ?_⟩, rfl⟩)
    · obtain ⟨h1, h⟩ := Bool.and_eq_true_iff.mp h
      obtain ⟨h2, h⟩ := Bool.and_eq_true_iff.mp h
      obtain ⟨h3, h4⟩ := Bool.and_eq_true_iff.mp h
      refine ⟨of_decide_eq_true h1, h2, by simpa using h3, ?_⟩
      have := of_decide_eq_true h4
      rw [List.length_map, List.length_map] at this
      omega
    · obtain ⟨z1, z2, z3, z4⟩ := z
      rw [decide_eq_true z1, z2, z3, decide_eq_true (by rw [List.length_map, List.length_map]; omega)] at h
      cases h
  rintro ρ' M2 ⟨rfl, wd1, hw1, rfl⟩
  refine s_cut (fun ρ' M' => M' = M2 ∧ ∃ wd : Str, ((wd = "given" ∧ ((kind = 2 ∧ ordB w d = true ∧ kept = false ∧ T1.ks.length < 8) ∨ (kind ≠ 2 ∧ kept = true))) ∨ (wd = "bad order" ∧ ¬ (kind = 2 ∧ ordB w d = true ∧ kept = false ∧ T1.ks.length < 8) ∧ ¬ (kind ≠ 2 ∧ kept = true))) ∧ ρ' = [some (.ref T.p), some (.int w), some (.int c), some (.int pl), some (.int kind), a, some d, some (.bl kept), some (.str wd)]) ?_ ?_
  · refine s_if (b := decide (2 < kind) && kept) (et_and (by walk_at "ev") fun _ => et_B (ev_var rfl)) (fun h => s_asgE ev_str ⟨rfl, _, .inl ⟨rfl, .inr ?_⟩, rfl⟩) (fun h => s_next ⟨rfl, _, ?_, rfl⟩)
    · obtain ⟨h1, h2⟩ := Bool.and_eq_true_iff.mp h
      exact ⟨by have := of_decide_eq_true h1; omega, h2⟩
    · rcases hw1 with ⟨rfl, h1⟩ | ⟨rfl, h1⟩
      · exact .inl ⟨rfl, .inl h1⟩
      · refine .inr ⟨rfl, h1, fun z => ?_⟩
        rw [decide_eq_true (show 2 < kind by omega), z.2] at h
        cases h
  clear hw1 wd1
  rintro ρ' M' ⟨rfl, wd, hwd, rfl⟩
  have okp : ∀ ρ' : Ro, ρ'[4]? = some (some (.int kind)) → ET (J0 K) (tTest (tOp rEq (tVar 4) (tC (.int 2)))) ρ' M' (decide (kind = 2)) := fun ρ' h4 => et_test (ev_eqI (ev_var h4) ev_int)
  rcases hwd with ⟨rfl, hg⟩ | ⟨rfl, hn1, hn2⟩
  · -- it goes
    have act : ∃ th made os, ActGood M' T1 kind d .non th made os := by
      rcases hg with ⟨rfl, g1, g2, g3⟩ | ⟨g1, g2⟩
      · rcases hkp with ⟨_, h1, _⟩ | ⟨_, cols, rfl, h2, h3⟩
        · rw [g1] at h1; cases h1
        · exact ⟨_, _, _, .tell h2 (fun z => by rw [h3.mpr z] at g2; cases g2) g3⟩
      · rcases hkp with ⟨h1, _⟩ | ⟨_, cols, rfl, h2, h3⟩
        · rw [g2] at h1; cases h1
        · obtain ⟨q, hq, eq⟩ := List.mem_map.mp (h3.mp g2)
          obtain ⟨i, hi⟩ := List.mem_iff_getElem?.mp hq
          rw [← eq]
          rcases hk with rfl | rfl | rfl
          · exact absurd rfl g1
          · exact ⟨_, _, _, .forget hi⟩
          · exact ⟨_, _, _, .listed hi⟩
    obtain ⟨th, made, os, act⟩ := act
    refine s_seq (s_ifW (wt_not (wt_B (w_l_holds (T := T1) (kind := kind) (wd := "given") (by rw [hp]; exact ev_var rfl) (ev_var rfl) (ev_var rfl) ev_non (ev_var rfl) hT hO (.inl ⟨rfl, th, made, os, act, fun M4 T4 st => ⟨true, rfl, fun z => (nomatch z), fun _ => s_next ?_⟩⟩)))))
    refine s_seq (s_if (b := decide (kind = 2) && kept) (et_and (by walk_at "ev") fun _ => et_B (ev_var rfl)) (fun h => ?_) (fun _ => s_next ?_))
    · obtain ⟨h1, h2⟩ := Bool.and_eq_true_iff.mp h
      rcases hg with ⟨_, _, g2, _⟩ | ⟨g1, _⟩
      · rw [g2] at h2; cases h2
      · exact absurd (of_decide_eq_true h1) g1
    refine s_seq (s_if (b := false) ?_ (fun z => nomatch z) (fun _ => s_next (s_retE ev_bl (k M4))))
    rcases hg with ⟨rfl, _⟩ | ⟨g1, rfl⟩
    · exact et_and (b := false) (c := false) ((et_test (ev_B0 (f := fun i j => decide (j < i)) (ev_var rfl) ev_int)).is (by decide)) fun z => nomatch z
    · exact (et_and (b := decide (2 < kind)) (c := false) (et_test (ev_B0 (f := fun i j => decide (j < i)) (ev_var rfl) ev_int)) fun _ => et_and (b := false) (c := false) (et_not (b := true) (et_B (ev_var rfl))) fun z => nomatch z).is (by simp)
  -- it is refused
  have bad : ActBad M' T1 kind d .non "BadOrder" := by
    rcases hkp with ⟨h1, h2, h3⟩ | ⟨h1, cols, rfl, h2, h3⟩
    · rcases hk with rfl | rfl | rfl
      · exact .tell (.inl h3)
      · exact .way (.inl rfl) (.inl h3)
      · exact .way (.inr rfl) (.inl h3)
    · cases kept with
      | true =>
        have : kind = 2 := Classical.not_not.mp fun z => hn2 ⟨z, rfl⟩
        subst this
        exact .tell (.inr ⟨cols, rfl, h2, .inl (h3.mp rfl)⟩)
      | false =>
        have hnot : cols ∉ T1.ks.map (·.cols) := fun z => by have := h3.mpr z; cases this
        rcases hk with rfl | rfl | rfl
        · have : ¬ T1.ks.length < 8 := fun z => hn1 ⟨rfl, h1, rfl, z⟩
          exact .tell (.inr ⟨cols, rfl, h2, .inr ⟨hnot, by omega⟩⟩)
        · exact .way (.inl rfl) (.inr ⟨cols, rfl, h2, hnot⟩)
        · exact .way (.inr rfl) (.inr ⟨cols, rfl, h2, hnot⟩)
  refine s_seq (s_ifW (wt_not (wt_B (w_l_holds (T := T1) (kind := kind) (wd := "bad order") (by rw [hp]; exact ev_var rfl) (ev_var rfl) (ev_var rfl) ev_non (ev_var rfl) hT hO (.inr ⟨"BadOrder", bad, .w3, ⟨true, rfl, fun z => (nomatch z), fun _ => s_next ?_⟩⟩)))))
  refine s_seq (s_if (b := decide (kind = 2) && kept) (et_and (by walk_at "ev") fun _ => et_B (ev_var rfl)) (fun h => ?_) (fun h => s_next ?_))
  · -- forgotten, and told again
    obtain ⟨h1, h2⟩ := Bool.and_eq_true_iff.mp h
    have h1 : kind = 2 := of_decide_eq_true h1
    subst h1
    subst h2
    obtain ⟨_, cols, rfl, hc, h3⟩ : ordB w d = true ∧ ∃ cols, d = ordD cols ∧ ColOk cols T1.w ∧ (true = true ↔ cols ∈ T1.ks.map (·.cols)) := by
      rcases hkp with ⟨h1, _⟩ | h1
      · cases h1
      · exact h1
    obtain ⟨i, hi⟩ := List.mem_iff_getElem?.mp (h3.mp rfl)
    have hil := lt_of_get hi
    rw [List.length_map] at hil
    refine s_seq (s_drop (w_Table_forgetC (T := T1) (cols := cols) (i := i) (by rw [hp]; exact ev_var rfl) (ev_var rfl) hT hO hi fun M4 T4 st => ?_))
    have hno : cols ∉ T4.ks.map (·.cols) := by
      rw [st.os]
      exact not_mem_erase hO.kn hi
    have hl4 : T4.ks.length < 8 := by
      have := congrArg List.length st.os
      rw [List.length_map, List.length_eraseIdx, List.length_map, if_pos hil] at this
      omega
    refine s_ret (w_andV (w_l_holds (T := T4) (kind := 2) (wd := "given") (by rw [st.p, hp]; exact ev_var rfl) ev_int (ev_var rfl) ev_non ev_str st.at' st.ok (.inl ⟨rfl, _, _, _, .tell (by rw [st.w]; exact hc) hno hl4, fun M5 T5 st5 => ⟨true, rfl, ?_⟩⟩)))
    rw [if_pos rfl]
    have h5 := st5.ok.kl
    exact (ev_eqC (cU cI) (a := cols) (a' := cols) (ev_ixL (en_Table_orders (T := T5) (by rw [st5.p, st.p, hp]; exact ev_var rfl) st5.at' (by omega)).ev (by walk_at "ev") .l (by rw [st5.os, List.map_append]; exact atI_last)) (ev_var rfl) .i .i (by decide)).w (by rw [decide_eq_true rfl]; exact k M5)
  refine s_seq (s_if (b := decide (2 < kind) && (!kept && ordB w d)) (et_and (by walk_at "ev") fun _ => et_and (et_not (et_B (ev_var rfl))) fun _ => et_B (gd _ rfl rfl)) (fun h => ?_) (fun h => s_next (s_retE ev_bl (k _))))
  -- told, and so it goes
  obtain ⟨h1, h2⟩ := Bool.and_eq_true_iff.mp h
  obtain ⟨h2, h3⟩ := Bool.and_eq_true_iff.mp h2
  have h1 : 2 < kind := of_decide_eq_true h1
  have hkf : kept = false := by simpa using h2
  subst hkf
  obtain ⟨cols, rfl, hc, h4⟩ : ∃ cols, d = ordD cols ∧ ColOk cols T1.w ∧ (false = true ↔ cols ∈ T1.ks.map (·.cols)) := by
    rcases hkp with ⟨_, h1, _⟩ | ⟨_, h1⟩
    · rw [h3] at h1; cases h1
    · exact h1
  have hnot : cols ∉ T1.ks.map (·.cols) := fun z => by have := h4.mpr z; cases this
  have hk2 : T1.ks.length = 2 := hks (by omega)
  refine s_seq (s_drop (w_Table_tell (T := T1) (cols := cols) (by rw [hp]; exact ev_var rfl) (ev_var rfl) hT hO hc hnot (by omega) fun M4 T4 st => ?_))
  obtain ⟨q, hq, eq⟩ : ∃ q, T4.ks[T1.ks.length]? = some q ∧ q.cols = cols := by
    have h1 : (T4.ks.map (·.cols))[T1.ks.length]? = some cols := by
      rw [st.os, List.getElem?_append_right (by rw [List.length_map]; exact Nat.le_refl _), List.length_map, Nat.sub_self]
      rfl
    rw [List.getElem?_map] at h1
    cases q : T4.ks[T1.ks.length]? with
    | none => rw [q] at h1; cases h1
    | some q' => rw [q] at h1; exact ⟨q', rfl, Option.some.inj h1⟩
  have hqo := (st.ok.kk q (List.mem_of_getElem? hq)).1
  have hsrt : srtI (numsM q.es) = srtI (T4.th.map (·.1)) := srtI_eq ((srtI_perm _).trans (nums_perm hqo)) (srtI_le _)
  subst eq
  refine s_ret (w_andV (Ev.w (ev_eqC (cL cI) (a := srtI (numsM q.es)) (a' := srtI (T4.th.map (·.1))) (en_sortedI (ns := numsM q.es) (en_Table_listed (T := T4) (i := T1.ks.length) (k := q) (by rw [st.p, hp]; exact ev_var rfl) st.at' st.ok (ev_var rfl) hq).ev .l).ev (en_Table_numbers (T := T4) (by rw [st.p, hp]; exact ev_var rfl) st.at').ev .i .i (by decide)) ⟨true, by rw [hsrt, decide_eq_true rfl], ?_⟩))
  rw [if_pos rfl]
  have act : ∃ th made os, ActGood M4 T4 kind (ordD q.cols) .non th made os := by
    rcases hk with rfl | rfl | rfl
    · exact absurd h1 (by decide)
    · exact ⟨_, _, _, .forget hq⟩
    · exact ⟨_, _, _, .listed hq⟩
  obtain ⟨th, made, os, act⟩ := act
  exact w_l_holds (T := T4) (kind := kind) (wd := "given") (by rw [st.p, hp]; exact ev_var rfl) (ev_var rfl) (ev_var rfl) ev_non ev_str st.at' st.ok (.inl ⟨rfl, th, made, os, act, fun M5 T5 st5 => k M5⟩)

theorem oth_put {K : PySem.W.Frag} {M : Mp} {T : Tb} {a : Addr} {o0 o : MO} (h : TabAt K M T) (ha : M a = some o0) (no : ∀ C fs, o0 ≠ .ins C fs) (na : a ∉ T.adr) : TabAt K (ud M a o) T :=
  h.frame (A := [a]) (Frame.ud (by simp)) (fun x hx z => na (by rw [List.mem_singleton.mp z] at hx; exact hx)) fun x hx fs e => by
    rw [List.mem_singleton.mp hx, ha] at e
    exact no _ _ (Option.some.inj e)
def pr_l_put (K : PySem.W.Frag) : Pr := q4 fun x y z u M nx _ => ∃ (T : Tb) (w c pl : Int), x = .ref T.p ∧ y = .int w ∧ z = .int c ∧ u = .int pl ∧ TabAt K M T ∧ TabOk T ∧ St3 T w ∧ 3 ≤ w ∧ w ≤ 6 ∧ ∀ M', nx (.bl true) M'
section
variable {J : Jx} {ta tb tc td : TE} {ρ : Ro} {M : Mp} {E : XK} {R : D → Mp → Prop}
theorem w_l_put {T : Tb} {w c pl : Int} (h1 : Ev J ta ρ M (.ref T.p)) (h2 : Ev J tb ρ M (.int w)) (h3 : Ev J tc ρ M (.int c)) (h4 : Ev J td ρ M (.int pl)) (hT : TabAt J.K M T) (hO : TabOk T) (h3' : St3 T w) (w3 : 3 ≤ w) (w6 : w ≤ 6) (k : ∀ M', R (.bl true) M') : W J (tCall (spD J.K (pr_l_put J.K)) [] E (tCons ta (tCons tb (tCons tc (tCons td tNil))))) ρ M R :=
  w_call ((ea_cons h1 (ea_cons h2 (ea_cons h3 (ea_cons h4 ea_nil)))).w ⟨_, _, _, _, rfl, T, w, c, pl, rfl, rfl, rfl, rfl, hT, hO, h3', w3, w6, k⟩)
end
abbrev nm_l_put : List Str := ["_law_table", "_law_width_here", "_law_cell", "_law_place", "_law_good", "_law_row_here"]
theorem sc_l_put : FnScope nm_l_put ["_law_table", "_law_width_here", "_law_cell", "_law_place"] (defScope s_l_put) := ⟨rfl, rfl, rfl, by decide +kernel, rfl, by decide +kernel, by decide +kernel⟩
theorem ok_l_put (hTx : Tx K mg) : OkF P w K mg base CX0 11 "_law_put" (He.ga K "_law_put") ["_law_table", "_law_width_here", "_law_cell", "_law_place"] (pr_l_put K) := by
  obtain ⟨_, G_l_row, b_l_row, k_l_row, g_l_row⟩ := ok_l_row (P := P) (w := w) (base := base) hTx
  obtain ⟨_, G_l_holds, b_l_holds, k_l_holds, g_l_holds⟩ := ok_l_holds (P := P) (w := w) (base := base) hTx
  obtain ⟨_, G_Table_put, b_Table_put⟩ := ok_Table_put (P := P) (w := w) (base := base) hTx
  obtain ⟨_, F⟩ := hTx.fnF 52 s_l_put "_law_put" 161
  refine ⟨_, ?_, F.binds (ps := ["_law_table", "_law_width_here", "_law_cell", "_law_place"]) fun _ _ _ _ _ _ us hl => match us, hl with | [_, _, _, _], _ => rfl, F.kp, hTx.gl 132⟩
  refine fn_dl F sc_l_put (fun _ _ _ _ h => q4_len h) (fun cdv A outer s H E hr => ⟨_, (pss_cons (ps_set (i := 4) sc_l_put.nd rfl (Or.inl rfl) (pe_or (pe_cmpR op_eq (pe_op op_mod (pv 2) pe_int) pe_int (nomark _)) (pe_one (pe_and (pe_cmpR op_eq (pe_op op_mod (pv 2) pe_int) pe_int (nomark _)) (pe_one (pe_cmpR op_eq (pe_op op_mod (pe_op op_fdiv (pv 3) pe_int) pe_int) pe_int (nomark _)))))))
    (pss_cons (ps_set (i := 5) sc_l_put.nd rfl (Or.inl rfl) (pe_call G_l_row (hr.mono (by decide)) rfl g_l_row k_l_row b_l_row .nil pass0 (pa_cons (pv 2) (pa_cons (pv 3) (pa_cons (pv 1) pa_nil)))))
    (pss_cons (ps_if (pt_not (pt_val (pe_call G_l_holds (hr.mono (by decide)) rfl g_l_holds k_l_holds b_l_holds .nil pass0 (pa_cons (pv 0) (pa_cons pe_int (pa_cons (pv 5) (pa_cons pe_non (pa_cons (pe_ix (kx_ixL (K := K) rfl) (pe_lst (pa_cons pe_str (pa_cons pe_str pa_nil))) (pe_callTy call_int1 (by rfl) (hTx.fr 2) (by decide +kernel) (pa_cons (pv 4) pa_nil)) (fun _ _ => rfl)) pa_nil))))))))
    (pss_one (ps_ret pe_bl))
    pss_nil)
    (pss_cons (ps_if (PW.pt (pw_and (pt_not (pt_val (pv 4))) (pw_and1 (pt_val (pe_callB (kx_isi (K := K) rfl) (by rfl) (hTx.fr 3) (by decide +kernel) (pa_cons (pv 5) (pa_cons (pe_bltn (v := .ty "list") (by rfl) (hTx.fr 6) (by decide +kernel) rfl) pa_nil)))))))
    (pss_cons (ps_expr (pe_bm0 PySem.F.plainAttrs_list PySem.F.slot_list_clear PySem.F.type_list_clear mt_clear (pv 5)))
    (pss_cons (ps_expr (pe_bm PySem.F.plainAttrs_list PySem.F.slot_list_extend PySem.F.type_list_extend mt_extend (pv 5) (pa_cons (pe_op op_rep (pe_lst (pa_cons pe_int pa_nil)) (pv 1)) pa_nil)))
    (pss_cons (ps_set (i := 4) sc_l_put.nd rfl (Or.inl rfl) pe_bl)
    (pss_one (ps_if (pt_cmpR op_ne (pe_meth (pv 0) (hTx.cl 27) (hTx.me 52) G_Table_put (hr.mono (by decide)) b_Table_put .nil pass0 (pa_cons (pv 5) pa_nil)) pe_int (nomark _))
    (pss_one (ps_ret pe_bl))
    pss_nil)))))
    pss_nil)
    (pss_one (ps_ret (pe_cmpR op_eq (pe_meth (pv 0) (hTx.cl 27) (hTx.me 52) G_Table_put (hr.mono (by decide)) b_Table_put .nil pass0 (pa_cons (pe_op op_rep (pe_lst (pa_cons pe_int pa_nil)) (pv 1)) pa_nil)) (pe_op op_add pe_int (pe_callTy call_int1 (by rfl) (hTx.fr 2) (by decide +kernel) (pa_cons (pv 4) pa_nil))) (nomark _)))))))), ?_⟩)
  try dsimp only [cx_K, cx_nK]
  rintro _ M nx xe ⟨_, _, _, _, rfl, T, w, c, pl, rfl, rfl, rfl, rfl, hT, hO, hS, w3, w6, k⟩
  show S (J0 K) _ [some (.ref T.p), some (.int w), some (.int c), some (.int pl), none, none] M _
  refine s_seq (s_asgE (by walk_at "ev") ?_)
  show S (J0 K) _ [some (.ref T.p), some (.int w), some (.int c), some (.int pl), some (.bl (rowGood c pl)), none] M _
  refine s_seq (s_asg (w_l_row (c := c) (pl := pl) (w := w) (ev_var rfl) (ev_var rfl) (ev_var rfl) w3 w6 fun d M2 sb hd => ?_))
  have hno := adr_no hT
  have hT2 := hT.sub sb
  have hN := hS.n
  clear hT
  revert hd
  generalize rowGood c pl = g
  intro hd
  have word : Ev (J0 K) _ [some (.ref T.p), some (.int w), some (.int c), some (.int pl), some (.bl g), some d] M2 (.str (if g = true then "given" else "bad row")) := ev_ixL (en_lst (ds := [.str "bad row", .str "given"]) (ea_cons ev_str (ea_cons ev_str ea_nil)) (sz (by simp))).ev (ev_int1 (ev_var (i := 4) rfl)) .l (by cases g <;> rfl)
  -- the last row
  have last : ∀ (ρ' : Ro) (M' : Mp) (T' : Tb) (n : Nat) (g' : Bool), TabAt K M' T' → TabOk T' → T'.p = T.p → StN T' w n → n ≤ 190 → (n : Int) = 3 + (if g' = true then 1 else 0) → ρ'[0]? = some (some (.ref T.p)) → ρ'[1]? = some (some (.int w)) → ρ'[4]? = some (some (.bl g')) → W (J0 K) (tOp rEq (tMeth (He.ga K "Table") "put" (spD K (pr_Table_put K)) [] E0 (tVar 0) (tCons (tOp rRep (tLst (tCons (tC (.int 0)) tNil)) (tVar 1)) tNil)) (tOp (rI0 fun i j => .int (i + j)) (tC (.int 3)) (tCB (fun xs H Q => (∃ i, xs = [V.int i] ∧ Q (.int i) H) ∨ ∃ k, xs = [V.bl k] ∧ Q (.int (if k then 1 else 0)) H) (tCons (tVar 4) tNil)))) ρ' M' nx := fun ρ' M' T' n g' hT hO hp hN hn e h0 h1 h4 => by
    refine w_op (w_Table_put (T := T') (r := List.replicate w.toNat 0) (by rw [hp]; exact ev_var h0) (ev_rowRep ev_int (ev_var h1) (by omega) (by omega)) .l (fun y hy z => nomatch z) hT hO (by rw [List.length_replicate, hN.w']; omega) (by rw [hN.len]; omega) fun M6 st => Ev.w (ev_I0 ev_int (ev_int1 (ev_var h4))) (op2_eqI ?_))
    rw [hN.made, decide_eq_true e]
    exact k M6
  rcases hd with ⟨rfl, r, hr, hd⟩ | ⟨rfl, hb, hd⟩
  · have hq : IsQ M2 d (r.map .int) ∧ ∀ y ∈ T.adr, d ≠ .ref y := by
      rcases hd with rfl | ⟨p, rfl, h1, h2⟩
      · exact ⟨.t, fun y hy z => nomatch z⟩
      · exact ⟨(IsL.r h2).q, fun y hy z => by cases z; exact hno _ hy h1⟩
    refine s_seq (s_ifW (wt_not (wt_B (w_l_holds (T := T) (kind := 1) (wd := "given") (ev_var rfl) ev_int (ev_var rfl) ev_non (word.is rfl) hT2 hO (.inl ⟨rfl, _, _, _, .put hq.1 hq.2 (by rw [hS.w']; exact hr) (by rw [hN.len]; decide), fun M3 T3 st => ⟨true, rfl, fun z => (nomatch z), fun _ => s_next ?_⟩⟩)))))
    refine s_seq (s_if (b := false) (et_and (b := false) (c := false) (et_not (b := true) (et_B (ev_var rfl))) fun z => nomatch z) (fun z => nomatch z) (fun _ => s_next ?_))
    exact s_ret (last _ M3 T3 4 true st.at' st.ok st.p (hN.put st) (by decide) rfl rfl rfl rfl)
  refine s_seq (s_ifW (wt_not (wt_B (w_l_holds (T := T) (kind := 1) (wd := "bad row") (ev_var rfl) ev_int (ev_var rfl) ev_non (word.is rfl) hT2 hO (.inr ⟨"BadRow", .row (by rw [hS.w']; exact hb), .w1, ⟨true, rfl, fun z => (nomatch z), fun _ => s_next ?_⟩⟩)))))
  clear word
  rcases hd with ⟨p, ds, rfl, hp, hp2⟩ | ⟨t1, t2⟩
  · have hpa : p ∉ T.adr := fun z => hno _ z hp
    refine s_seq (s_if (b := true) (et_and (b := true) (c := true) (et_not (b := false) (et_B (ev_var rfl))) fun _ => et_B (ev_isiT (b := true) "list" (ev_var rfl) ev_ty (by simp only [tyN, hp2]) (by decide +kernel) (by decide))) (fun _ => ?_) (fun z => nomatch z))
    refine s_seq (s_drop (w_clear (a := p) (ds := ds) (ev_var rfl) hp2 ?_))
    refine s_seq (s_drop (w_extend (a := p) (ds := []) (es := (List.replicate w.toNat 0).map .int) (ev_var rfl) ud_same (ev_rowRep ev_int (ev_var rfl) (by omega) (by omega)) .l (sz (by simp; omega)) ?_))
    rw [ud_ud, List.nil_append]
    have hT3 : TabAt K (ud M2 p (.lst ((List.replicate w.toNat 0).map .int))) T := oth_put hT2 hp2 (fun C fs z => by cases z) hpa
    refine s_seq (s_asgE ev_bl ?_)
    refine s_ifW (wt_test (w_op (w_Table_put (T := T) (r := List.replicate w.toNat 0) (ev_var rfl) (ev_var rfl) (IsL.r ud_same).q (fun y hy z => by cases z; exact hpa hy) hT3 hO (by rw [List.length_replicate, hS.w']; omega) (by rw [hN.len]; decide) fun M6 st => ev_int.w (op2_neI ⟨false, by rw [hS.made]; rfl, fun z => (nomatch z), fun _ => s_next ?_⟩))))
    exact s_ret (last _ M6 _ 4 true st.at' st.ok st.p (hN.put st) (by decide) rfl rfl rfl rfl)
  · refine s_seq (s_if (b := false) (et_and (b := true) (c := false) (et_not (b := false) (et_B (ev_var rfl))) fun _ => (et_B (ev_isi (ev_var rfl) ev_ty (kit_tl M2 d t1).2.1 t1)).is (decide_eq_false t2)) (fun z => nomatch z) (fun _ => s_next ?_))
    exact s_ret (last _ M2 T 3 false hT2 hO rfl hN (by decide) rfl rfl rfl rfl)

def WishedK (M : Mp) (T : Tb) (kind : Int) (x y : D) (wd : Str) : Prop :=
  (((kind = 5 ∨ kind = 6 ∨ kind = 7) ∨ (kind = 8 ∨ kind = 9) ∧ ∃ way, y = wayD way ∧ WayOk T way) ∧
    ((wd = "given" ∧ ∃ wish : List Tr, IsM M x (wish.map tD) ∧ WishOk T.w wish) ∨ (wd = "bad wish" ∧ WishBad M T.w x ∧ ((∃ p ds, x = .ref p ∧ p ∉ T.adr ∧ M p = some (.lst ds)) ∨ (tyN M x ≠ "" ∧ tyN M x ≠ "list"))))) ∨
  (wd = "bad order" ∧ (kind = 8 ∨ kind = 9) ∧ y ≠ .non ∧ WayBad M T y)
def pr_l_wished (K : PySem.W.Frag) : Pr := q5 fun a b x y v M nx _ => ∃ (T : Tb) (kind : Int) (wd : Str), a = .ref T.p ∧ b = .int kind ∧ v = .str wd ∧ TabAt K M T ∧ TabOk T ∧ WishedK M T kind x y wd ∧ ∀ M', nx (.bl true) M'
section
variable {J : Jx} {ta tb tc td te : TE} {ρ : Ro} {M : Mp} {E : XK} {x y : D} {R : D → Mp → Prop}
theorem w_l_wished {T : Tb} {kind : Int} {wd : Str} (h1 : Ev J ta ρ M (.ref T.p)) (h2 : Ev J tb ρ M (.int kind)) (h3 : Ev J tc ρ M x) (h4 : Ev J td ρ M y) (h5 : Ev J te ρ M (.str wd)) (hT : TabAt J.K M T) (hO : TabOk T) (hw : WishedK M T kind x y wd) (k : ∀ M', R (.bl true) M') : W J (tCall (spD J.K (pr_l_wished J.K)) [] E (tCons ta (tCons tb (tCons tc (tCons td (tCons te tNil)))))) ρ M R :=
  w_call ((ea_cons h1 (ea_cons h2 (ea_cons h3 (ea_cons h4 (ea_cons h5 ea_nil))))).w ⟨_, _, _, _, _, rfl, T, kind, wd, rfl, rfl, rfl, hT, hO, hw, k⟩)
end
/-- a wish that is one, by a road that is one -/
theorem wish_good {M : Mp} {T : Tb} {kind : Int} {x y : D} {wish : List Tr} (hk : (kind = 5 ∨ kind = 6 ∨ kind = 7) ∨ (kind = 8 ∨ kind = 9) ∧ ∃ way, y = wayD way ∧ WayOk T way) (hx : IsM M x (wish.map tD)) (hw : WishOk T.w wish) : ActGood M T kind x y T.th T.made (T.ks.map (·.cols)) := by
  rcases hk with hk | ⟨hk, way, rfl, hy⟩
  · exact .ask hk hx hw
  · exact .walk hk hy hx hw
abbrev nm_l_wished : List Str := ["_law_table", "_law_kind", "_law_wish_here", "_law_road", "_law_word"]
theorem sc_l_wished : FnScope nm_l_wished ["_law_table", "_law_kind", "_law_wish_here", "_law_road", "_law_word"] (defScope s_l_wished) := ⟨rfl, rfl, rfl, by decide +kernel, rfl, by decide +kernel, by decide +kernel⟩
theorem ok_l_wished (hTx : Tx K mg) : OkF P w K mg base CX0 11 "_law_wished" (He.ga K "_law_wished") ["_law_table", "_law_kind", "_law_wish_here", "_law_road", "_law_word"] (pr_l_wished K) := by
  obtain ⟨_, G_l_holds, b_l_holds, k_l_holds, g_l_holds⟩ := ok_l_holds (P := P) (w := w) (base := base) hTx
  obtain ⟨_, F⟩ := hTx.fnF 53 s_l_wished "_law_wished" 162
  refine ⟨_, ?_, F.binds (ps := ["_law_table", "_law_kind", "_law_wish_here", "_law_road", "_law_word"]) fun _ _ _ _ _ _ us hl => match us, hl with | [_, _, _, _, _], _ => rfl, F.kp, hTx.gl 133⟩
  refine fn_dl F sc_l_wished (fun _ _ _ _ h => q5_len h) (fun cdv A outer s H E hr => ⟨_, (pss_cons (ps_if (pt_not (pt_val (pe_call G_l_holds (hr.mono (by decide)) rfl g_l_holds k_l_holds b_l_holds .nil pass0 (pa_cons (pv 0) (pa_cons (pv 1) (pa_cons (pv 2) (pa_cons (pv 3) (pa_cons (pv 4) pa_nil))))))))
    (pss_one (ps_ret pe_bl))
    pss_nil)
    (pss_cons (ps_if (PW.pt (pw_and (pt_cmpR op_eq (pv 4) pe_str (nomark _)) (pw_and1 (pt_val (pe_callB (kx_isi (K := K) rfl) (by rfl) (hTx.fr 3) (by decide +kernel) (pa_cons (pv 2) (pa_cons (pe_bltn (v := .ty "list") (by rfl) (hTx.fr 6) (by decide +kernel) rfl) pa_nil)))))))
    (pss_cons (ps_expr (pe_bm0 PySem.F.plainAttrs_list PySem.F.slot_list_clear PySem.F.type_list_clear mt_clear (pv 2)))
    (pss_cons (ps_expr (pe_bm PySem.F.plainAttrs_list PySem.F.slot_list_append PySem.F.type_list_append mt_append (pv 2) (pa_cons (pe_tup (pa_cons pe_int (pa_cons pe_non (pa_cons pe_int pa_nil)))) pa_nil)))
    (pss_one (ps_ret (pe_call G_l_holds (hr.mono (by decide)) rfl g_l_holds k_l_holds b_l_holds .nil pass0 (pa_cons (pv 0) (pa_cons (pv 1) (pa_cons (pv 2) (pa_cons (pv 3) (pa_cons pe_str pa_nil))))))))))
    pss_nil)
    (pss_one (ps_ret pe_bl)))), ?_⟩)
  try dsimp only [cx_K, cx_nK]
  rintro _ M nx xe ⟨_, _, x, y, _, rfl, T, kind, wd, rfl, rfl, rfl, hT, hO, hw, k⟩
  show S (J0 K) _ [some (.ref T.p), some (.int kind), some x, some y, some (.str wd)] M _
  rcases hw with ⟨hk, ⟨rfl, wish, hx, hw⟩ | ⟨rfl, hb, hx⟩⟩ | ⟨rfl, hk, hy, hb⟩
  · refine s_seq (s_ifW (wt_not (wt_B (w_l_holds (T := T) (kind := kind) (wd := "given") (ev_var rfl) (ev_var rfl) (ev_var rfl) (ev_var rfl) (ev_var rfl) hT hO (.inl ⟨rfl, _, _, _, wish_good hk hx hw, fun M' T' st => ⟨true, rfl, fun z => (nomatch z), fun _ => s_next ?_⟩⟩)))))
    refine s_seq (s_if (b := false) (et_and (b := false) (c := false) ((et_test (ev_eqS (ev_var rfl) ev_str)).is (by decide +kernel)) fun z => nomatch z) (fun z => nomatch z) (fun _ => s_next ?_))
    exact s_retE ev_bl (k _)
  · have bad : ActBad M T kind x y "BadWish" := by
      rcases hk with hk | ⟨hk, way, rfl, hy⟩
      · exact .wish hk hb
      · exact .walkW hk hy hb
    refine s_seq (s_ifW (wt_not (wt_B (w_l_holds (T := T) (kind := kind) (wd := "bad wish") (ev_var rfl) (ev_var rfl) (ev_var rfl) (ev_var rfl) (ev_var rfl) hT hO (.inr ⟨"BadWish", bad, .w4, ⟨true, rfl, fun z => (nomatch z), fun _ => s_next ?_⟩⟩)))))
    rcases hx with ⟨p, ds, rfl, hpa, hp⟩ | ⟨t1, t2⟩
    · refine s_seq (s_if (b := true) (et_and (b := true) (c := true) ((et_test (ev_eqS (ev_var rfl) ev_str)).is (by simp)) fun _ => et_B (ev_isiT (b := true) "list" (ev_var rfl) ev_ty (by simp only [tyN, hp]) (by decide +kernel) (by decide))) (fun _ => ?_) (fun z => nomatch z))
      refine s_seq (s_drop (w_clear (a := p) (ds := ds) (ev_var rfl) hp ?_))
      refine s_seq (s_drop (w_append (a := p) (ds := []) (x := tD (0, none, some 1)) (ev_var rfl) ud_same (ev_tup (ds := [.int 0, .non, .int 1]) (ea_cons ev_int (ea_cons ev_non (ea_cons ev_int ea_nil))) (sz (by simp))) (szl (by simp)) ?_))
      rw [ud_ud, List.nil_append]
      have hT3 : TabAt K (ud M p (.lst [tD (0, none, some 1)])) T := oth_put hT hp (fun C fs z => by cases z) hpa
      exact s_ret (w_l_holds (T := T) (kind := kind) (wd := "given") (ev_var rfl) (ev_var rfl) (ev_var rfl) (ev_var rfl) ev_str hT3 hO (.inl ⟨rfl, _, _, _, wish_good (wish := [(0, none, some 1)]) hk (.r ud_same) ⟨fun t ht => by rw [List.mem_singleton.mp ht]; exact ⟨Int.le_refl 0, hO.w0⟩, by decide⟩, fun M' T' st => k M'⟩))
    · refine s_seq (s_if (b := false) (et_and (b := true) (c := false) ((et_test (ev_eqS (ev_var rfl) ev_str)).is (by simp)) fun _ => (et_B (ev_isi (ev_var rfl) ev_ty (kit_tl M x t1).2.1 t1)).is (decide_eq_false t2)) (fun z => nomatch z) (fun _ => s_next ?_))
      exact s_retE ev_bl (k _)
  · refine s_seq (s_ifW (wt_not (wt_B (w_l_holds (T := T) (kind := kind) (wd := "bad order") (ev_var rfl) (ev_var rfl) (ev_var rfl) (ev_var rfl) (ev_var rfl) hT hO (.inr ⟨"BadOrder", .walkO hk hy hb, .w3, ⟨true, rfl, fun z => (nomatch z), fun _ => s_next ?_⟩⟩)))))
    refine s_seq (s_if (b := false) (et_and (b := false) (c := false) ((et_test (ev_eqS (ev_var rfl) ev_str)).is (by decide +kernel)) fun z => nomatch z) (fun z => nomatch z) (fun _ => s_next ?_))
    exact s_retE ev_bl (k _)

def pr_law (K : PySem.W.Frag) : Pr := q1 fun x M nx _ => ∃ ns : List Int, x = .frl (ns.map .int) ∧ ns.length ≤ 63 ∧ (∀ z ∈ ns, Bt 1048576 z) ∧ ∀ M', nx (.bl true) M'
abbrev newTb (p hd kl : Addr) (w : Int) : Tb := ⟨p, hd, kl, w, 0, [], []⟩
theorem new_ok {p hd kl : Addr} {w : Int} (w0 : 0 < w) (w1 : w ≤ 6) : TabOk (newTb p hd kl w) := ⟨List.nodup_nil, fun n hn => (nomatch hn), fun q hq => (nomatch hq), w0, w1, Int.le_refl 0, Nat.zero_le _, fun k hk => (nomatch hk), List.nodup_nil, Nat.zero_le _⟩
/-- the roads: three that are ones, ten that are none -/
abbrev roads : List D := [.non, .tup [.int 0], .tup [.int 1, .int 0], .tup [.int 2, .int 1], .lst [.int 0], .tup [.bl true], .tup [], .int 0, .str "", .lst [], .tup [.bl true, .int 0], .tup [.int 1, .bl false], .tup [.lst [.int 0], .int 0]]
theorem ordB_no' {M : Mp} {w : Int} {x : D} (t : tyN M x ≠ "") (t2 : tyN M x ≠ "tuple") : OrdBad M w x := .inl ⟨t, t2⟩
theorem ordB_one {M : Mp} {w : Int} {ds : List D} (h : ds.all flatD = true) (h2 : ∃ d ∈ ds, colB w d = false) : OrdBad M w (.tup ds) := .inr ⟨ds, rfl, fun d hd => tyN_fl (List.all_eq_true.mp h d hd), .inr (.inl h2)⟩
theorem road_cases {T : Tb} {w : Int} (hS : St3 T w) (w3 : 3 ≤ w) {rd : Int} (r0 : 0 ≤ rd) (r1 : rd < 13) : ∃ y, atI roads rd = some y ∧ ((rd ≤ 2 ∧ ∃ way, y = wayD way ∧ WayOk T way) ∨ (2 < rd ∧ y ≠ .non ∧ ∀ M, WayBad M T y)) := by
  have ho := hS.os
  have hw := hS.w'
  rcases (show rd = 0 ∨ rd = 1 ∨ rd = 2 ∨ rd = 3 ∨ rd = 4 ∨ rd = 5 ∨ rd = 6 ∨ rd = 7 ∨ rd = 8 ∨ rd = 9 ∨ rd = 10 ∨ rd = 11 ∨ rd = 12 by omega) with rfl | rfl | rfl | rfl | rfl | rfl | rfl | rfl | rfl | rfl | rfl | rfl | rfl
  · exact ⟨.non, rfl, .inl ⟨by decide, none, rfl, fun c h => nomatch h⟩⟩
  · exact ⟨.tup [.int 0], rfl, .inl ⟨by decide, some [0], rfl, fun c h => by cases h; rw [ho]; decide⟩⟩
  · exact ⟨.tup [.int 1, .int 0], rfl, .inl ⟨by decide, some [1, 0], rfl, fun c h => by cases h; rw [ho]; decide⟩⟩
  · refine ⟨.tup [.int 2, .int 1], rfl, .inr ⟨by decide, (fun z => nomatch z), fun M => .inr ⟨[2, 1], rfl, ⟨fun c hc => ?_, by decide, by decide⟩, by rw [ho]; decide⟩⟩⟩
    rcases List.mem_cons.mp hc with rfl | hc
    · omega
    · rw [List.mem_singleton.mp hc]; omega
  · exact ⟨.lst [.int 0], rfl, .inr ⟨by decide, (fun z => nomatch z), fun M => .inl (ordB_no' (tyN_fl rfl) (by decide : ("list" : String) ≠ "tuple"))⟩⟩
  · exact ⟨.tup [.bl true], rfl, .inr ⟨by decide, (fun z => nomatch z), fun M => .inl (ordB_one rfl ⟨.bl true, by simp, rfl⟩)⟩⟩
  · exact ⟨.tup [], rfl, .inr ⟨by decide, (fun z => nomatch z), fun M => .inl (.inr ⟨[], rfl, fun d hd => (nomatch hd), .inl rfl⟩)⟩⟩
  · exact ⟨.int 0, rfl, .inr ⟨by decide, (fun z => nomatch z), fun M => .inl (ordB_no' (tyN_fl rfl) (by decide : ("int" : String) ≠ "tuple"))⟩⟩
  · exact ⟨.str "", rfl, .inr ⟨by decide, (fun z => nomatch z), fun M => .inl (ordB_no' (tyN_fl rfl) (by decide : ("str" : String) ≠ "tuple"))⟩⟩
  · exact ⟨.lst [], rfl, .inr ⟨by decide, (fun z => nomatch z), fun M => .inl (ordB_no' (tyN_fl rfl) (by decide : ("list" : String) ≠ "tuple"))⟩⟩
  · exact ⟨.tup [.bl true, .int 0], rfl, .inr ⟨by decide, (fun z => nomatch z), fun M => .inl (ordB_one rfl ⟨.bl true, by simp, rfl⟩)⟩⟩
  · exact ⟨.tup [.int 1, .bl false], rfl, .inr ⟨by decide, (fun z => nomatch z), fun M => .inl (ordB_one rfl ⟨.bl false, by simp, rfl⟩)⟩⟩
  · exact ⟨.tup [.lst [.int 0], .int 0], rfl, .inr ⟨by decide, (fun z => nomatch z), fun M => .inl (ordB_one rfl ⟨.lst [.int 0], by simp, rfl⟩)⟩⟩
abbrev nm_law : List Str := ["_law_script", "_law_width_here", "_law_cell", "_law_place", "_law_table", "_law_k", "_law_way", "_law_word", "_law_kind", "_law_some", "_law_road"]
theorem sc_law : FnScope nm_law ["_law_script"] (defScope s_law) := ⟨rfl, rfl, rfl, by decide +kernel, rfl, by decide +kernel, by decide +kernel⟩
theorem ok_law {fd : FuncData} (F : Fun K "law" "law" s_law (He.ga K "law") fd) (hTx : Tx K mg) : FnOk P w K mg base CX0 12 (He.ga K "law") fd ["_law_script"] (spD K (pr_law K)) := by
  obtain ⟨_, G_l_at, b_l_at, k_l_at, g_l_at⟩ := ok_l_at (P := P) (w := w) (base := base) hTx
  obtain ⟨_, G_Table_init, b_Table_init⟩ := ok_Table_init (P := P) (w := w) (base := base) hTx
  obtain ⟨_, G_Table_tell, b_Table_tell⟩ := ok_Table_tell (P := P) (w := w) (base := base) hTx
  obtain ⟨_, G_Table_put, b_Table_put⟩ := ok_Table_put (P := P) (w := w) (base := base) hTx
  obtain ⟨_, G_l_full, b_l_full, k_l_full, g_l_full⟩ := ok_l_full (P := P) (w := w) (base := base) hTx
  obtain ⟨_, G_l_changed, b_l_changed, k_l_changed, g_l_changed⟩ := ok_l_changed (P := P) (w := w) (base := base) hTx
  obtain ⟨_, G_l_width, b_l_width, k_l_width, g_l_width⟩ := ok_l_width (P := P) (w := w) (base := base) hTx
  obtain ⟨_, G_l_holds, b_l_holds, k_l_holds, g_l_holds⟩ := ok_l_holds (P := P) (w := w) (base := base) hTx
  obtain ⟨_, G_l_put, b_l_put, k_l_put, g_l_put⟩ := ok_l_put (P := P) (w := w) (base := base) hTx
  obtain ⟨_, G_l_asked, b_l_asked, k_l_asked, g_l_asked⟩ := ok_l_asked (P := P) (w := w) (base := base) hTx
  obtain ⟨_, G_l_good_wish, b_l_good_wish, k_l_good_wish, g_l_good_wish⟩ := ok_l_good_wish (P := P) (w := w) (base := base) hTx
  obtain ⟨_, G_l_wish, b_l_wish, k_l_wish, g_l_wish⟩ := ok_l_wish (P := P) (w := w) (base := base) hTx
  obtain ⟨_, G_l_wished, b_l_wished, k_l_wished, g_l_wished⟩ := ok_l_wished (P := P) (w := w) (base := base) hTx
  refine fn_dl F sc_law (fun _ _ _ _ h => q1_len h) (fun cdv A outer s H E hr => ⟨_, (pss_cons (ps_set (i := 1) sc_law.nd rfl (Or.inl rfl) (pe_op op_add pe_int (pe_op op_mod (pe_call G_l_at (hr.mono (by decide)) rfl g_l_at k_l_at b_l_at .nil pass0 (pa_cons (pv 0) (pa_cons pe_int pa_nil))) pe_int)))
    (pss_cons (ps_set (i := 2) sc_law.nd rfl (Or.inl rfl) (pe_call G_l_at (hr.mono (by decide)) rfl g_l_at k_l_at b_l_at .nil pass0 (pa_cons (pv 0) (pa_cons pe_int pa_nil))))
    (pss_cons (ps_set (i := 3) sc_law.nd rfl (Or.inl rfl) (pe_call G_l_at (hr.mono (by decide)) rfl g_l_at k_l_at b_l_at .nil pass0 (pa_cons (pv 0) (pa_cons pe_int pa_nil))))
    (pss_cons (ps_set (i := 4) sc_law.nd rfl (Or.inl rfl) (pe_make (hTx.mr 50) G_Table_init (hr.mono (by decide)) rfl (hTx.gl 51) b_Table_init .nil pass0 (pa_cons (pv 1) pa_nil)))
    (pss_cons (ps_expr (pe_meth (pv 4) (hTx.cl 27) (hTx.me 53) G_Table_tell (hr.mono (by decide)) b_Table_tell .nil pass0 (pa_cons (pe_tup (pa_cons pe_int pa_nil)) pa_nil)))
    (pss_cons (ps_for PassesOwn.never rfl (pi_range1 rfl (hTx.fr 61) (pa_cons pe_int pa_nil)) (pg_name (i := 5) sc_law.nd rfl (Or.inl rfl))
    (pss_one (ps_expr (pe_meth (pv 4) (hTx.cl 27) (hTx.me 52) G_Table_put (hr.mono (by decide)) b_Table_put .nil pass0 (pa_cons (pe_op op_cat (pe_lst (pa_cons (pe_op op_mod (pe_call G_l_at (hr.mono (by decide)) rfl g_l_at k_l_at b_l_at .nil pass0 (pa_cons (pv 0) (pa_cons pe_int pa_nil))) pe_int) (pa_cons (pv 5) pa_nil))) (pe_op op_rep (pe_lst (pa_cons pe_int pa_nil)) (pe_op op_sub (pv 1) pe_int))) pa_nil)))))
    (pss_cons (ps_expr (pe_meth (pv 4) (hTx.cl 27) (hTx.me 53) G_Table_tell (hr.mono (by decide)) b_Table_tell .nil pass0 (pa_cons (pe_tup (pa_cons pe_int (pa_cons pe_int pa_nil))) pa_nil)))
    (pss_cons (ps_set (i := 6) sc_law.nd rfl (Or.inl rfl) (pe_op op_mod (pe_call G_l_at (hr.mono (by decide)) rfl g_l_at k_l_at b_l_at .nil pass0 (pa_cons (pv 0) (pa_cons pe_int pa_nil))) pe_int))
    (pss_cons (ps_if (pt_cmpR op_eq (pv 6) pe_int (nomark _))
    (pss_one (ps_ret (pe_call G_l_full (hr.mono (by decide)) rfl g_l_full k_l_full b_l_full .nil pass0 (pa_cons (pv 4) (pa_cons (pv 1) (pa_cons (pv 2) (pa_cons (pv 3) pa_nil)))))))
    pss_nil)
    (pss_cons (ps_if (pt_cmpR op_gt (pv 6) pe_int (nomark _))
    (pss_one (ps_ret (pe_call G_l_changed (hr.mono (by decide)) rfl g_l_changed k_l_changed b_l_changed .nil pass0 (pa_cons (pv 4) (pa_cons (pv 1) (pa_cons (pv 2) (pa_cons (pv 3) (pa_cons (pe_ix (kx_ixL (K := K) rfl) (pe_lst (pa_cons pe_int (pa_cons pe_int (pa_cons pe_int (pa_cons pe_int pa_nil))))) (pe_op op_mod (pe_op op_fdiv (pe_call G_l_at (hr.mono (by decide)) rfl g_l_at k_l_at b_l_at .nil pass0 (pa_cons (pv 0) (pa_cons pe_int pa_nil))) pe_int) pe_int) (fun _ _ => rfl)) pa_nil))))))))
    pss_nil)
    (pss_cons (ps_if (pt_cmpR op_eq (pv 6) pe_int (nomark _))
    (pss_cons (ps_set (i := 7) sc_law.nd rfl (Or.inl rfl) (pe_ix (kx_ixL (K := K) rfl) (pe_lst (pa_cons pe_str (pa_cons pe_str pa_nil))) (pe_callTy call_int1 (by rfl) (hTx.fr 2) (by decide +kernel) (pa_cons (pe_cmpR op_eq (pe_op op_mod (pv 2) pe_int) pe_int (nomark _)) pa_nil)) (fun _ _ => rfl)))
    (pss_one (ps_ret (pe_call G_l_holds (hr.mono (by decide)) rfl g_l_holds k_l_holds b_l_holds .nil pass0 (pa_cons (pv 4) (pa_cons pe_int (pa_cons (pe_call G_l_width (hr.mono (by decide)) rfl g_l_width k_l_width b_l_width .nil pass0 (pa_cons (pv 2) pa_nil)) (pa_cons pe_non (pa_cons (pv 7) pa_nil)))))))))
    pss_nil)
    (pss_cons (ps_if (pt_cmpR op_eq (pv 6) pe_int (nomark _))
    (pss_one (ps_ret (pe_call G_l_put (hr.mono (by decide)) rfl g_l_put k_l_put b_l_put .nil pass0 (pa_cons (pv 4) (pa_cons (pv 1) (pa_cons (pv 2) (pa_cons (pv 3) pa_nil)))))))
    pss_nil)
    (pss_cons (ps_if (pt_cmpR op_lt (pv 6) pe_int (nomark _))
    (pss_one (ps_ret (pe_call G_l_asked (hr.mono (by decide)) rfl g_l_asked k_l_asked b_l_asked .nil pass0 (pa_cons (pv 4) (pa_cons (pv 1) (pa_cons (pv 2) (pa_cons (pv 3) (pa_cons (pe_ix (kx_ixL (K := K) rfl) (pe_lst (pa_cons pe_int (pa_cons pe_int (pa_cons pe_int (pa_cons pe_int pa_nil))))) (pe_op op_mod (pe_op op_fdiv (pe_call G_l_at (hr.mono (by decide)) rfl g_l_at k_l_at b_l_at .nil pass0 (pa_cons (pv 0) (pa_cons pe_int pa_nil))) pe_int) pe_int) (fun _ _ => rfl)) pa_nil))))))))
    pss_nil)
    (pss_cons (ps_set (i := 8) sc_law.nd rfl (Or.inl rfl) (pe_op op_add pe_int (pe_op op_mod (pe_op op_fdiv (pe_call G_l_at (hr.mono (by decide)) rfl g_l_at k_l_at b_l_at .nil pass0 (pa_cons (pv 0) (pa_cons pe_int pa_nil))) pe_int) pe_int)))
    (pss_cons (ps_set (i := 9) sc_law.nd rfl (Or.inl rfl) (pe_lst (pa_cons pe_non (pa_cons (pe_tup (pa_cons pe_int pa_nil)) (pa_cons (pe_tup (pa_cons pe_int (pa_cons pe_int pa_nil))) (pa_cons (pe_tup (pa_cons pe_int (pa_cons pe_int pa_nil))) (pa_cons (pe_lst (pa_cons pe_int pa_nil)) (pa_cons (pe_tup (pa_cons pe_bl pa_nil)) (pa_cons (pe_tup pa_nil) (pa_cons pe_int (pa_cons pe_str (pa_cons (pe_lst pa_nil) (pa_cons (pe_tup (pa_cons pe_bl (pa_cons pe_int pa_nil))) (pa_cons (pe_tup (pa_cons pe_int (pa_cons pe_bl pa_nil))) (pa_cons (pe_tup (pa_cons (pe_lst (pa_cons pe_int pa_nil)) (pa_cons pe_int pa_nil))) pa_nil)))))))))))))))
    (pss_cons (ps_set (i := 10) sc_law.nd rfl (Or.inl rfl) (pe_ix (kx_ixL (K := K) rfl) (pv 9) (pe_op op_mod (pe_call G_l_at (hr.mono (by decide)) rfl g_l_at k_l_at b_l_at .nil pass0 (pa_cons (pv 0) (pa_cons pe_int pa_nil))) pe_int) (fun _ _ => rfl)))
    (pss_cons (ps_set (i := 7) sc_law.nd rfl (Or.inl rfl) (pe_ix (kx_ixL (K := K) rfl) (pe_lst (pa_cons pe_str (pa_cons pe_str pa_nil))) (pe_callTy call_int1 (by rfl) (hTx.fr 2) (by decide +kernel) (pa_cons (pe_call G_l_good_wish (hr.mono (by decide)) rfl g_l_good_wish k_l_good_wish b_l_good_wish .nil pass0 (pa_cons (pv 2) (pa_cons (pv 3) pa_nil))) pa_nil)) (fun _ _ => rfl)))
    (pss_cons (ps_if (PW.pt (pw_and (pt_cmpR op_gt (pv 8) pe_int (nomark _)) (pw_and1 (pt_cmpR op_gt (pe_op op_mod (pe_call G_l_at (hr.mono (by decide)) rfl g_l_at k_l_at b_l_at .nil pass0 (pa_cons (pv 0) (pa_cons pe_int pa_nil))) pe_int) pe_int (nomark _)))))
    (pss_one (ps_set (i := 7) sc_law.nd rfl (Or.inl rfl) pe_str))
    pss_nil)
    (pss_one (ps_ret (pe_call G_l_wished (hr.mono (by decide)) rfl g_l_wished k_l_wished b_l_wished .nil pass0 (pa_cons (pv 4) (pa_cons (pv 8) (pa_cons (pe_call G_l_wish (hr.mono (by decide)) rfl g_l_wish k_l_wish b_l_wish .nil pass0 (pa_cons (pv 2) (pa_cons (pv 3) (pa_cons (pv 1) pa_nil)))) (pa_cons (pv 10) (pa_cons (pv 7) pa_nil)))))))))))))))))))))))))), ?_⟩)
  try dsimp only [cx_K, cx_nK]
  rintro _ M nx xe ⟨x, rfl, ns, rfl, hl, hb, k⟩
  show S (J0 K) _ [some (.frl (ns.map .int)), none, none, none, none, none, none, none, none, none, none] M _
  have m4 : 0 ≤ atM ns 0 % 4 ∧ atM ns 0 % 4 < 4 := ⟨Int.emod_nonneg _ (by decide), Int.emod_lt_of_pos _ (by decide)⟩
  refine s_seq (s_asgE (by walk_at "ev") ?_)
  have w3 : 3 ≤ 3 + atM ns 0 % 4 := by omega
  have w6 : 3 + atM ns 0 % 4 ≤ 6 := by omega
  revert w3 w6
  generalize 3 + atM ns 0 % 4 = w
  intro w3 w6
  refine s_seq (s_asgE (by walk_at "ev") ?_)
  refine s_seq (s_asgE (by walk_at "ev") ?_)
  generalize atM ns 2 = c
  generalize atM ns 3 = pl
  have hw0 : 0 < w := by omega
  -- the table
  refine s_seq (s_asg (w_make (ea_cons (ev_var rfl) ea_nil) fun p hp => ⟨_, _, rfl, p, w, rfl, rfl, hw0, w6, ud_same, fun M1 hd1 kl1 h1 h2 h3 h4 h5 h6 hT => ⟨rfl, ?_⟩⟩))
  have hO : TabOk (newTb p hd1 kl1 w) := new_ok hw0 w6
  have hT : TabAt K M1 (newTb p hd1 kl1 w) := hT
  have eT : (newTb p hd1 kl1 w).p = p ∧ (newTb p hd1 kl1 w).ks = [] ∧ StN (newTb p hd1 kl1 w) w 0 := ⟨rfl, rfl, rfl, rfl, rfl⟩
  revert hT hO eT
  generalize newTb p hd1 kl1 w = T
  intro hO hT eT
  obtain ⟨q1, q2, hS⟩ := eT
  clear h1 h2 h3 h4 h5 h6 hp
  refine s_seq (s_drop (w_Table_tell (T := T) (cols := [0]) (by rw [q1]; exact ev_var rfl) (ev_tup (ds := [.int 0]) (by walk_at "ev") (sz (by simp))) hT hO ⟨fun z hz => by rw [List.mem_singleton.mp hz, hS.w']; omega, by decide, by decide⟩ (by rw [q2]; exact fun z => nomatch z) (by rw [q2]; decide) fun M2 T2 st => ?_))
  have r1 := st.p.trans q1
  have r2 : T2.ks.map (·.cols) = [[0]] := by rw [st.os, q2]; rfl
  have hS2 := hS.same st
  have hT2 := st.at'
  have hO2 := st.ok
  clear st hS hT hO q1 q2
  refine s_seq (s_for (src_rng1 (n := 3) ev_int (by decide) (by decide)) (fun i ρ' M' => ∃ T3 a, TabAt K M' T3 ∧ TabOk T3 ∧ T3.p = p ∧ T3.ks.map (·.cols) = [[0]] ∧ StN T3 w i ∧ ρ' = [some (.frl (ns.map .int)), some (.int w), some (.int c), some (.int pl), some (.ref p), a, none, none, none, none, none]) ⟨T2, _, hT2, hO2, r1, r2, hS2, rfl⟩ (fun _ _ _ _ => trivial) ?_ ?_)
  · rintro i d ρ' M' hdd ⟨T3, a, hT, hO, q1, q2, hS, rfl⟩
    obtain ⟨hi, rfl⟩ := rng_get hdd
    have hi : i < 3 := hi
    refine sg_name ?_
    refine s_drop (w_Table_put (T := T3) (r := [atM ns 1 % 3, 0 + (i : Int)] ++ List.replicate (w - 2).toNat 0) (by rw [q1]; exact ev_var rfl) (Ev.is (en_cat (ds := [.int (atM ns 1 % 3), .int (0 + (i : Int))]) (es := (List.replicate (w - 2).toNat 0).map .int) (en_lst (ds := [.int (atM ns 1 % 3), .int (0 + (i : Int))]) (by walk_at "ev") (sz (by simp))).ev (ev_rowRep (w := w - 2) ev_int (by walk_at "ev") (by omega) (by omega)) .l .l (sz (by simp; omega))).ev (by rw [List.map_append]; rfl)) .l (fun y hy z => nomatch z) hT hO ?_ (by rw [hS.len]; omega) fun M4 st => ⟨_, _, st.at', st.ok, st.p.trans q1, st.os.trans q2, hS.put st, rfl⟩)
    rw [List.length_append, List.length_replicate, hS.w']
    simp
    omega
  clear hT2 hO2 r1 r2 hS2
  rintro ρ' M3 ⟨T3, a, hT, hO, q1, q2, hS, rfl⟩
  rw [rng_len] at hS
  have hS : StN T3 w 3 := hS
  have hk1 : T3.ks.length = 1 := by
    have := congrArg List.length q2
    rw [List.length_map] at this
    exact this
  refine s_seq (s_drop (w_Table_tell (T := T3) (cols := [1, 0]) (by rw [q1]; exact ev_var rfl) (ev_tup (ds := [.int 1, .int 0]) (by walk_at "ev") (sz (by simp))) hT hO ⟨fun z hz => ?_, by decide, by decide⟩ (by rw [q2]; decide) (by omega) fun M4 T4 st => ?_))
  · rw [hS.w']
    rcases List.mem_cons.mp hz with rfl | hz
    · omega
    · rw [List.mem_singleton.mp hz]; omega
  have hS4 := hS.same st
  have h3 : St3 T4 w := ⟨hS4.w', hS4.made, hS4.th, by rw [st.os, q2]; rfl⟩
  have hp4 := st.p.trans q1
  have hT4 := st.at'
  have hO4 := st.ok
  clear st hS hS4 hT hO q1 q2 hk1
  have tb : ∀ ρ' : Ro, ρ'[4]? = some (some (.ref p)) → Ev (J0 K) (tVar 4) ρ' M4 (.ref T4.p) := fun ρ' h => by rw [hp4]; exact ev_var h
  refine s_seq (s_asgE (by walk_at "ev") ?_)
  have e4 := Int.emod_nonneg (atM ns 4 / 12) (show (4 : Int) ≠ 0 by decide)
  have e4' := Int.emod_lt_of_pos (atM ns 4 / 12) (show (0 : Int) < 4 by decide)
  have e5 := Int.emod_nonneg (atM ns 4 / 12) (show (5 : Int) ≠ 0 by decide)
  have e5' := Int.emod_lt_of_pos (atM ns 4 / 12) (show (0 : Int) < 5 by decide)
  -- the ways
  refine s_seq (s_if (by walk_at "ev") (fun _ => s_ret (w_l_full (T := T4) (w := w) (c := c) (pl := pl) (tb _ rfl) (ev_var rfl) (ev_var rfl) (ev_var rfl) hT4 hO4 h3 w3 w6 k)) (fun _ => s_next ?_))
  refine s_seq (s_if (by walk_at "ev") (fun _ => ?_) (fun _ => s_next ?_))
  · obtain ⟨kind, hat, hk⟩ : ∃ kind : Int, atI [D.int 10, D.int 10, D.int 10, D.int 11] (atM ns 4 / 12 % 4) = some (.int kind) ∧ (kind = 10 ∨ kind = 11) := by
      rcases (show atM ns 4 / 12 % 4 = 0 ∨ atM ns 4 / 12 % 4 = 1 ∨ atM ns 4 / 12 % 4 = 2 ∨ atM ns 4 / 12 % 4 = 3 by omega) with e | e | e | e <;> rw [e]
      · exact ⟨10, rfl, .inl rfl⟩
      · exact ⟨10, rfl, .inl rfl⟩
      · exact ⟨10, rfl, .inl rfl⟩
      · exact ⟨11, rfl, .inr rfl⟩
    exact s_ret (w_l_changed (T := T4) (w := w) (c := c) (pl := pl) (kind := kind) (tb _ rfl) (ev_var rfl) (ev_var rfl) (ev_var rfl) (ev_ixL (en_lst (ds := [.int 10, .int 10, .int 10, .int 11]) (by walk_at "ev") (sz (by simp))).ev (by walk_at "ev") .l hat) hT4 hO4 h3 w3 w6 hk k)
  refine s_seq (s_if (by walk_at "ev") (fun _ => ?_) (fun _ => s_next ?_))
  · obtain ⟨wd, hat, hwd⟩ : ∃ wd : Str, atI [D.str "bad width", D.str "given"] (if decide (c % 8 = 7) = true then 1 else 0) = some (.str wd) ∧ ((c % 8 = 7 ∧ wd = "given") ∨ (c % 8 ≠ 7 ∧ wd = "bad width")) := by
      by_cases e : c % 8 = 7
      · rw [decide_eq_true e, if_pos rfl]
        exact ⟨_, rfl, .inl ⟨e, rfl⟩⟩
      · rw [decide_eq_false e, if_neg Bool.false_ne_true]
        exact ⟨_, rfl, .inr ⟨e, rfl⟩⟩
    refine s_seq (s_asgE (ev_ixL (en_lst (ds := [.str "bad width", .str "given"]) (ea_cons ev_str (ea_cons ev_str ea_nil)) (sz (by simp))).ev (ev_int1 (b := decide (c % 8 = 7)) (by walk_at "ev")) .l hat) ?_)
    refine s_ret (w_call (wa_cons ((tb _ rfl).w (wa_cons (ev_int.w (wa_cons (w_l_width (c := c) (ev_var rfl) (fun v hc v0 v1 => wa_cons (ev_non.w (wa_cons ((ev_var rfl).w (wa_nil ?_))))) (fun d hc hb => wa_cons (ev_non.w (wa_cons ((ev_var rfl).w (wa_nil ?_))))))))))))
    · rcases hwd with ⟨_, rfl⟩ | ⟨h, _⟩
      · exact ⟨_, _, _, _, _, rfl, T4, 0, "given", rfl, rfl, rfl, hT4, hO4, .inl ⟨rfl, _, _, _, .mk (by omega) v1, fun M' T' _ => k M'⟩⟩
      · exact absurd hc h
    · rcases hwd with ⟨h, _⟩ | ⟨_, rfl⟩
      · exact absurd h hc
      · exact ⟨_, _, _, _, _, rfl, T4, 0, "bad width", rfl, rfl, rfl, hT4, hO4, .inr ⟨"BadWidth", .mk (hb _), .w0, k _⟩⟩
  refine s_seq (s_if (by walk_at "ev") (fun _ => s_ret (w_l_put (T := T4) (w := w) (c := c) (pl := pl) (tb _ rfl) (ev_var rfl) (ev_var rfl) (ev_var rfl) hT4 hO4 h3 w3 w6 k)) (fun _ => s_next ?_))
  refine s_seq (s_if (by walk_at "ev") (fun _ => ?_) (fun _ => s_next ?_))
  · obtain ⟨kind, hat, hk⟩ : ∃ kind : Int, atI [D.int 2, D.int 2, D.int 3, D.int 4] (atM ns 4 / 12 % 4) = some (.int kind) ∧ (kind = 2 ∨ kind = 3 ∨ kind = 4) := by
      rcases (show atM ns 4 / 12 % 4 = 0 ∨ atM ns 4 / 12 % 4 = 1 ∨ atM ns 4 / 12 % 4 = 2 ∨ atM ns 4 / 12 % 4 = 3 by omega) with e | e | e | e <;> rw [e]
      · exact ⟨2, rfl, .inl rfl⟩
      · exact ⟨2, rfl, .inl rfl⟩
      · exact ⟨3, rfl, .inr (.inl rfl)⟩
      · exact ⟨4, rfl, .inr (.inr rfl)⟩
    exact s_ret (w_l_asked (T := T4) (w := w) (c := c) (pl := pl) (kind := kind) (tb _ rfl) (ev_var rfl) (ev_var rfl) (ev_var rfl) (ev_ixL (en_lst (ds := [.int 2, .int 2, .int 3, .int 4]) (by walk_at "ev") (sz (by simp))).ev (by walk_at "ev") .l hat) hT4 hO4 h3 w3 w6 hk k)
  -- a wish
  refine s_seq (s_asgE (by walk_at "ev") ?_)
  have hkd : 5 + atM ns 4 / 12 % 5 = 5 ∨ 5 + atM ns 4 / 12 % 5 = 6 ∨ 5 + atM ns 4 / 12 % 5 = 7 ∨ 5 + atM ns 4 / 12 % 5 = 8 ∨ 5 + atM ns 4 / 12 % 5 = 9 := by omega
  revert hkd
  generalize 5 + atM ns 4 / 12 % 5 = kind
  intro hkd
  refine s_seq (s_asgE (en_lst (ds := roads) (ea_cons ev_non (ea_cons (ev_tup (ds := [.int 0]) (by walk_at "ev") (sz (by simp))) (ea_cons (ev_tup (ds := [.int 1, .int 0]) (by walk_at "ev") (sz (by simp))) (ea_cons (ev_tup (ds := [.int 2, .int 1]) (by walk_at "ev") (sz (by simp))) (ea_cons (en_lst (ds := [.int 0]) (by walk_at "ev") (sz (by simp))).ev (ea_cons (ev_tup (ds := [.bl true]) (by walk_at "ev") (sz (by simp))) (ea_cons (ev_tup (ds := []) ea_nil (Nat.zero_le _)) (ea_cons ev_int (ea_cons ev_str (ea_cons (en_lst (ds := []) ea_nil (Nat.zero_le _)).ev (ea_cons (ev_tup (ds := [.bl true, .int 0]) (by walk_at "ev") (sz (by simp))) (ea_cons (ev_tup (ds := [.int 1, .bl false]) (by walk_at "ev") (sz (by simp))) (ea_cons (ev_tup (ds := [.lst [.int 0], .int 0]) (ea_cons (en_lst (ds := [.int 0]) (by walk_at "ev") (sz (by simp))).ev (by walk_at "ev")) (sz (by simp))) ea_nil))))))))))))) (sz (by simp))).ev ?_)
  have e13 := Int.emod_nonneg (atM ns 5) (show (13 : Int) ≠ 0 by decide)
  have e13' := Int.emod_lt_of_pos (atM ns 5) (show (0 : Int) < 13 by decide)
  obtain ⟨y, hy, hyk⟩ := road_cases h3 w3 e13 e13'
  refine s_seq (s_asgE (ev_ixL (ds := roads) (ev_var rfl) (by walk_at "ev") .l hy) ?_)
  refine s_seq (s_asgE (d := .str (if wishGood c pl = true then ("given" : Str) else ("bad wish" : Str))) (ev_ixL (en_lst (ds := [.str "bad wish", .str "given"]) (ea_cons ev_str (ea_cons ev_str ea_nil)) (sz (by simp))).ev (ev_int1 (ev_l_good_wish (c := c) (pl := pl) (ev_var rfl) (ev_var rfl))) .l (by cases wishGood c pl <;> rfl)) ?_)
  refine s_cut (fun ρ' M' => M' = M4 ∧ ∃ b6, (∃ wd : Str, ((7 < kind ∧ 2 < atM ns 5 % 13 ∧ wd = "bad order") ∨ (¬ (7 < kind ∧ 2 < atM ns 5 % 13) ∧ wd = if wishGood c pl = true then ("given" : Str) else ("bad wish" : Str))) ∧ ρ' = [some (.frl (ns.map .int)), some (.int w), some (.int c), some (.int pl), some (.ref p), a, b6, some (.str wd), some (.int kind), some (.lst roads), some y])) ?_ ?_
  · refine s_if (b := decide (7 < kind) && decide (2 < atM ns 5 % 13)) (by walk_at "ev") (fun h => s_asgE ev_str ⟨rfl, _, _, .inl ⟨?_, ?_, rfl⟩, rfl⟩) (fun h => s_next ⟨rfl, _, _, .inr ⟨fun z => ?_, rfl⟩, rfl⟩)
    · exact of_decide_eq_true (Bool.and_eq_true_iff.mp h).1
    · exact of_decide_eq_true (Bool.and_eq_true_iff.mp h).2
    · rw [decide_eq_true z.1, decide_eq_true z.2] at h
      cases h
  rintro ρ' M' ⟨rfl, b6, wd, hwd, rfl⟩
  have hno := adr_no hT4
  refine s_ret (w_call (wa_cons ((tb _ rfl).w (wa_cons ((ev_var rfl).w (wa_cons (w_l_wish (c := c) (pl := pl) (w := w) (ev_var rfl) (ev_var rfl) (ev_var rfl) w3 w6 fun d M6 sb hd => wa_cons ((ev_var rfl).w (wa_cons ((ev_var rfl).w (wa_nil ⟨_, _, _, _, _, rfl, T4, kind, wd, rfl, rfl, rfl, hT4.sub sb, hO4, ?_, k⟩)))))))))))
  have ew := h3.w'
  rcases hwd with ⟨h7, h2, rfl⟩ | ⟨hn, rfl⟩
  · rcases hyk with ⟨h, _⟩ | ⟨_, hne, hbad⟩
    · omega
    · exact .inr ⟨rfl, by omega, hne, hbad M6⟩
  refine .inl ⟨?_, ?_⟩
  · by_cases h7 : 7 < kind
    · refine .inr ⟨by omega, ?_⟩
      rcases hyk with ⟨_, h⟩ | ⟨h, _⟩
      · exact h
      · exact absurd ⟨h7, h⟩ hn
    · exact .inl (by omega)
  rcases hd with ⟨hg, q, wish, rfl, hq, hq2, hok⟩ | ⟨hg, hb, hx⟩
  · rw [hg, if_pos rfl]
    exact .inl ⟨rfl, wish, .r hq2, by rw [ew]; exact hok⟩
  · rw [hg, if_neg Bool.false_ne_true]
    refine .inr ⟨rfl, by rw [ew]; exact hb, ?_⟩
    rcases hx with ⟨q, ds, rfl, hq, hq2⟩ | hx
    · exact .inl ⟨q, ds, rfl, fun z => hno q z hq, hq2⟩
    · exact .inr hx
end
section
open PySem.Spec PyProof.Rows
/-- a law's end over a head by facts, the script's bits told -/
theorem walk_ofEB {l : PySem.W.OpenLaw} {n k : Nat} {q : Program} {loose : List Str} {XP : (Str → Option Value) → Heap → Prop} {YP : World → Heap → Prop} {d : DefRec} {CX : CXT} {x : Str}
    (hn : l.most = some n) (hn2 : n ≤ sizeLine) (hdf : d.params.defaults = []) (hr : Room k callerA)
    (F : ∀ (w : World) (mg : Str → Option Value) (fa : Addr) (h : Heap), YP w h → h.Ns mainGlobals mg → mg d.name = some (.ref fa) →
      ∃ (K : PySem.W.Frag) (fd : FuncData) (sp : Sp), K.In h ∧ (∀ (s : Shared) (u : Value), BindsTo s fd ⟨[u], []⟩ [(x, u)]) ∧
        (∀ (H : Hp) (a : Addr) (ns : List Int), ns.length ≤ n → (∀ z ∈ ns, Builtin.Int.intBits z ≤ 1048576) → Only H → SqL K H a (ns.map V.int) → sp [.ref a] H (fun v _ => v = .bl true) fun _ _ _ => False) ∧
        ∀ base : Heap, K.In base → base.Ns mainGlobals mg → FnOk l.prog w K mg base CX k fa fd [x] sp)
    (hCX : ∀ (H : Hp) (s : Shared) (e : Value) (s' : Shared), CX [] H s (fun _ _ _ => False) e s' → False) :
    PySem.W.WalkO q loose XP YP l.row.toRowW d [] (fun f vs => PySem.call f vs) := by
  refine Att.attach_callB hn hdf fun w s₀ s₁ mg mb fa o pm cd doc a vs ns G Y ho hd hcd hmg hobj hints hlen hbits hg => ?_
  obtain ⟨K, fd, sp, KX, hb, hsp, hF⟩ := F w mg fa _ Y G.T.g hmg
  exact law_call KX G.T.g G.T.b G.T.builtins G.T.nolimit hg hobj hints (Nat.le_trans hlen hn2) hr hF hb (fun H hO hS => hsp H a ns hlen hbits hO hS) fun H e s' => hCX H s₁ e s'
end
abbrev RR : PySem.W.OpenRow := PySem.W.OpenLaw.row PySem.Challenge.rw_waybook_k08_refused
abbrev hk : PySem.W.Hook := DL.hookW 5 fa fn fx
def ob (s : PySem.W.SharedT) : He.Al × Bool := DL.obsW 5 fa fn fx (HandSHeadRun.getT s)
theorem ob_eq (s : PySem.W.SharedT) : ob s = hk.obs s.abs := DL.obsW_eq (HandSHeadRun.getT_eq s)
def others : List PySem.Str := (["BookError", "BadWidth", "BadRow", "Full", "NoRow", "BadColumn", "BadWish", "BadOrder", "less", "below", "MOST_TRIPLES", "is_whole"] : List PySem.Str) ++ (["is_end", "is_triple", "need_wish", "within", "fits", "greater_end", "lesser_end", "merged", "Kept", "MOST_WIDTH", "MOST_ROWS", "MOST_ORDERS"] : List PySem.Str) ++ (["Table", "_law_at", "_law_act", "_law_said", "_law_any", "_law_width", "_law_row", "_law_order", "_law_good_order", "_law_wish", "_law_good_wish", "_law_state"] : List PySem.Str) ++ (["_law_holds", "_law_changed", "_law_full", "_law_asked", "_law_put", "_law_wished"] : List PySem.Str)
theorem run (w : World) : HandSHeadRun.RunEq RR (PySem.W.view RR.prog [48]) hk ob 4000 others w := by
  intro os
  kernel_rfl
theorem facts {P : Program} {w : World} {K : PySem.W.Frag} {h : Heap} {mg : Str → Option Value} {f : Addr} (X : K.In h) (G : h.Ns mainGlobals mg) (hfa : mg ("law" : Str) = some (.ref f)) (c : He.SaysE fa fn K) (m : (fx.all fun f => f.ok K) = true) :
    ∃ fd : FuncData, (∀ (s : Shared) (v : Value), BindsTo s fd ⟨[v], []⟩ [("_law_script", v)]) ∧ ∀ base : Heap, K.In base → base.Ns mainGlobals mg → FnOk P w K mg base CX0 12 f fd ["_law_script"] (spD K (pr_law K)) := by
  have T : Tx K mg := ⟨c, m, h, X, G⟩
  have e := hfa.symm.trans (T.gl 134)
  cases e
  obtain ⟨fd, F⟩ := T.fnF 54 s_law "law" 163
  refine ⟨fd, fun s v => ?_, fun base _ _ => ok_law F T⟩
  obtain ⟨_, _, _, _, _, _, _, _, _, rfl, _⟩ := F.ex
  exact .of_eq rfl
theorem law_sp {K : PySem.W.Frag} (H : Hp) (a : Addr) (ns : List Int) (hl : ns.length ≤ 63) (hb : ∀ z ∈ ns, Builtin.Int.intBits z ≤ 1048576) (hS : SqL K H a (ns.map V.int)) : spD K (pr_law K) [.ref a] H (fun v _ => v = .bl true) fun _ _ _ => False :=
  ⟨H, fun _ => none, [.frl (ns.map D.int)], fun d _ => d = .bl true, noX, ⟨Same.refl _, fun _ _ e => nomatch e⟩, .cons (.frl hS (DtL.of_ints ns)) .nil, ⟨_, rfl, ns, rfl, hl, hb, fun _ => rfl⟩, fun v d G' M' H' e _ _ t => by subst e; cases t; rfl, fun _ _ _ _ z => z.elim⟩
end Wb
open PySem PySem.W PySem.Calls PyProof.Rows
theorem PySem.Challenge.cw_waybook_k08_refused_holds : PySem.Challenge.rw_waybook_k08_refused.Holds := by
  w_on; o_law
  refine HandSHeadRun.head_any (r := OpenLaw.row PySem.Challenge.rw_waybook_k08_refused) (q := view (OpenLaw.row PySem.Challenge.rw_waybook_k08_refused).prog [48]) (H := Wb.hk) (ob := Wb.ob) (M := 4000) (loose := Wb.others) (d := HandSHeadRun.topDef (OpenLaw.row PySem.Challenge.rw_waybook_k08_refused).prog 48) (kwd := []) Wb.ob_eq
    (by kernel_rfl) (fun s => by kernel_rfl) Wb.run (by kernel_rfl) (by kernel_rfl) (by kernel_rfl) (by rfl) (by first | assumption | decide +kernel) (by decide +kernel) ⟨rfl, rfl, rfl, rfl, rfl, by decide +kernel⟩ ?hw ?hc
  case hw => w_witness2
  case hc =>
    refine Wb.walk_ofEB (l := PySem.Challenge.rw_waybook_k08_refused) (n := 63) (k := 12) (x := "_law_script") (CX := L2.CX0) rfl (by decide) (by kernel_rfl) ⟨rfl, by decide, by decide⟩ ?F (fun _ _ _ _ z => z)
    intro w mg fa h Y G hmg0
    obtain ⟨K, KX, c, m⟩ := Y
    have hmg : mg ("law" : PySem.Str) = some (.ref fa) := by
      have e : (HandSHeadRun.topDef (OpenLaw.row PySem.Challenge.rw_waybook_k08_refused).prog 48).name = ("law" : PySem.Str) := by kernel_rfl
      rw [← e]
      exact hmg0
    obtain ⟨fd, hb, hF⟩ := Wb.facts (P := (PySem.Challenge.rw_waybook_k08_refused).prog) (w := w) KX G hmg c m
    exact ⟨K, fd, DL.spD K (Wb.pr_law K), KX, hb, fun H a ns hl hbt _ hS => Wb.law_sp H a ns hl hbt hS, hF⟩

