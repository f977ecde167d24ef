import PyProof.Rows.All
import Wide.All
import OpenK.AllK
import Wide.FinOn
import HandS.ForMost
import HandS.Wide
import HandS.SortInts
import HandS.More
import HandS.IsInst
import HandS.Deep
import HandS.Conv
import HandS.SetFor
import HandS.EndBits
import HandS.ExcOwn
import HandS.WordsExc
import HandS.Head0
import HandS.Head1
import HandS.Head2
import HandS.HeadEnd
import HandS.HeadHook1
import HandS.TryMany
import HandS.ExcIs
import PySem.Challenge.RW_waybook_k07_rows_told
set_option Elab.async false
set_option linter.all false
set_option maxRecDepth 100000
set_option maxHeartbeats 4000000
/-! DL: readings of the hand layer as plain data: slots hold data, mutable things stand in a ledger. -/
namespace DL
open PySem L2

/-- plain data as a reading sees it; ref: a thing told by its address alone (an object, a mutable list or dict of the ledger) -/
inductive D where
  | non | bl (b : Bool) | int (i : Int) | str (x : Str) | ty (n : String)
  | lst (ds : List D) | frl (ds : List D) | tup (ds : List D) | ref (a : Addr)
/-- what stands in the ledger -/
inductive MO where
  | lst (ds : List D) | dct (kvs : List (Key × D)) | ins (C : Addr) (fs : List (Str × D))
  /-- a dict that is locked while a loop walks it -/
  | dcl (od : Obj) (ws : List (Key × V)) (kvs : List (Key × D))
abbrev Mp := Addr → Option MO
abbrev Ro := List (Option D)
def ud (M : Mp) (a : Addr) (o : MO) : Mp := fun b => if b = a then some o else M b
def del (M : Mp) (a : Addr) : Mp := fun b => if b = a then none else M b
theorem ud_same {M : Mp} {a : Addr} {o : MO} : ud M a o a = some o := by unfold ud; rw [if_pos rfl]
theorem ud_ne {M : Mp} {a b : Addr} {o : MO} (h : b ≠ a) : ud M a o b = M b := by unfold ud; rw [if_neg h]
theorem ud_ud {M : Mp} {a : Addr} {o u : MO} : ud (ud M a o) a u = ud M a u := by
  funext b; unfold ud; split <;> rfl
theorem del_ud {M : Mp} {a : Addr} {o : MO} (h : M a = none) : del (ud M a o) a = M := by
  funext b; unfold del ud
  by_cases e : b = a
  · rw [if_pos e, e, h]
  · rw [if_neg e, if_neg e]
theorem ud_comm {M : Mp} {a b : Addr} {o u : MO} (h : a ≠ b) : ud (ud M a o) b u = ud (ud M b u) a o := by
  funext c; unfold ud
  by_cases e : c = b
  · rw [if_pos e, if_neg (fun z => h (z.symm.trans e)), if_pos e]
  · rw [if_neg e, if_neg e]
theorem ne_old {M : Mp} {a b : Addr} {o : MO} (h : M a = some o) (h' : M b = none) : a ≠ b := by
  intro e; subst e; rw [h] at h'; cases h'
theorem ne_mo {M : Mp} {a b : Addr} {o u : MO} (h : M a = some o) (h' : M b = some u) (d : o ≠ u) : a ≠ b := by
  intro e; subst e; rw [h] at h'; exact d (Option.some.inj h')
/-- all of M stands in M' as well -/
def Sub (M M' : Mp) : Prop := ∀ a o, M a = some o → M' a = some o
theorem Sub.refl (M : Mp) : Sub M M := fun _ _ h => h
theorem Sub.trans {M M1 M2 : Mp} (a : Sub M M1) (b : Sub M1 M2) : Sub M M2 := fun x o h => b x o (a x o h)
theorem Sub.new {M : Mp} {p : Addr} {o : MO} (h : M p = none) : Sub M (ud M p o) := fun a u e => by
  rw [ud_ne (ne_old e h)]; exact e
theorem Sub.mut {M M' : Mp} {p : Addr} {o : MO} (s : Sub M M') (h : M p = none) : Sub M (ud M' p o) := fun a u e => by
  rw [ud_ne (ne_old e h)]; exact s a u e
theorem Sub.back {M M' : Mp} {p : Addr} (s : Sub M M') (h : M' p = none) : M p = none := by
  cases e : M p with
  | none => rfl
  | some o => rw [s p o e] at h; cases h

mutual
inductive Dt (K : PySem.W.Frag) (G : Hp) : V → D → Prop where
  | non : Dt K G .non .non
  | bl (b : Bool) : Dt K G (.bl b) (.bl b)
  | int (i : Int) : Dt K G (.int i) (.int i)
  | str (x : Str) : Dt K G (.str x) (.str x)
  | ty (n : String) : Dt K G (.ty n) (.ty n)
  | ref (a : Addr) : Dt K G (.ref a) (.ref a)
  | lst {a : Addr} {xs : List V} {ds : List D} : G a = some (.lst xs) → DtL K G xs ds → Dt K G (.ref a) (.lst ds)
  | frl {a : Addr} {xs : List V} {ds : List D} : SqL K G a xs → DtL K G xs ds → Dt K G (.ref a) (.frl ds)
  | tup {a : Addr} {xs : List V} {ds : List D} : G a = some (.tup xs) → DtL K G xs ds → Dt K G (.ref a) (.tup ds)
inductive DtL (K : PySem.W.Frag) (G : Hp) : List V → List D → Prop where
  | nil : DtL K G [] []
  | cons {v : V} {vs : List V} {d : D} {ds : List D} : Dt K G v d → DtL K G vs ds → DtL K G (v :: vs) (d :: ds)
end
section
variable {K : PySem.W.Frag} {G G' H H' : Hp}
mutual
theorem Dt.mono (e : Same G G') : ∀ {v : V} {d : D}, Dt K G v d → Dt K G' v d
  | _, _, .non => .non
  | _, _, .bl b => .bl b
  | _, _, .int i => .int i
  | _, _, .str x => .str x
  | _, _, .ty n => .ty n
  | _, _, .ref a => .ref a
  | _, _, .lst h1 h2 => .lst (e _ _ h1) (DtL.mono e h2)
  | _, _, .frl h1 h2 => .frl (e.seq h1) (DtL.mono e h2)
  | _, _, .tup h1 h2 => .tup (e _ _ h1) (DtL.mono e h2)
theorem DtL.mono (e : Same G G') : ∀ {vs : List V} {ds : List D}, DtL K G vs ds → DtL K G' vs ds
  | _, _, .nil => .nil
  | _, _, .cons h1 h2 => .cons (Dt.mono e h1) (DtL.mono e h2)
end
theorem DtL.length : ∀ {vs : List V} {ds : List D}, DtL K G vs ds → vs.length = ds.length
  | _, _, .nil => rfl
  | _, _, .cons _ h => congrArg (· + 1) h.length
theorem DtL.get : ∀ {vs : List V} {ds : List D} {i : Nat} {d : D}, DtL K G vs ds → ds[i]? = some d → ∃ v, vs[i]? = some v ∧ Dt K G v d
  | _, _, _, _, .nil, e => by simp at e
  | _, _, 0, _, .cons r _, e => by simp at e; subst e; exact ⟨_, rfl, r⟩
  | _, _, i + 1, d, .cons _ t, e => by
    obtain ⟨u, h1, h2⟩ := DtL.get (i := i) (d := d) t (by simpa using e)
    exact ⟨u, by simpa using h1, h2⟩
theorem DtL.append : ∀ {vs us : List V} {ds es : List D}, DtL K G vs ds → DtL K G us es → DtL K G (vs ++ us) (ds ++ es)
  | _, _, _, _, .nil, s => s
  | _, _, _, _, .cons r t, s => .cons r (DtL.append t s)
theorem DtL.take : ∀ {vs : List V} {ds : List D} (n : Nat), DtL K G vs ds → DtL K G (vs.take n) (ds.take n)
  | _, _, 0, _ => .nil
  | _, _, _ + 1, .nil => .nil
  | _, _, n + 1, .cons r t => .cons r (DtL.take n t)
theorem DtL.drop : ∀ {vs : List V} {ds : List D} (n : Nat), DtL K G vs ds → DtL K G (vs.drop n) (ds.drop n)
  | _, _, 0, r => r
  | _, _, _ + 1, .nil => .nil
  | _, _, n + 1, .cons _ t => DtL.drop n t
theorem DtL.set {v : V} {d : D} (r : Dt K G v d) : ∀ {vs : List V} {ds : List D} (i : Nat), DtL K G vs ds → DtL K G (vs.set i v) (ds.set i d)
  | _, _, _, .nil => .nil
  | _, _, 0, .cons _ t => .cons r t
  | _, _, i + 1, .cons q t => .cons q (DtL.set r i t)
theorem DtL.ints : ∀ {vs : List V} {ns : List Int}, DtL K G vs (ns.map D.int) → vs = ns.map V.int
  | _, [], .nil => rfl
  | _, n :: ns, .cons (.int _) t => congrArg (V.int n :: ·) t.ints
theorem DtL.bls : ∀ {vs : List V} {ns : List Bool}, DtL K G vs (ns.map D.bl) → vs = ns.map V.bl
  | _, [], .nil => rfl
  | _, n :: ns, .cons (.bl _) t => congrArg (V.bl n :: ·) t.bls
theorem DtL.of_ints : ∀ ns : List Int, DtL K G (ns.map V.int) (ns.map D.int)
  | [] => .nil
  | n :: ns => .cons (.int n) (DtL.of_ints ns)
theorem DtL.reverse : ∀ {vs : List V} {ds : List D}, DtL K G vs ds → DtL K G vs.reverse ds.reverse
  | _, _, .nil => .nil
  | _, _, .cons h t => by
    rw [List.reverse_cons, List.reverse_cons]
    exact DtL.append (DtL.reverse t) (.cons h .nil)

/-- a thing of the ledger as the heap has it -/
def MoOk (K : PySem.W.Frag) (G H : Hp) (a : Addr) : MO → Prop
  | .lst ds => ∃ xs, H a = some (.lst xs) ∧ DtL K G xs ds
  | .dct kvs => ∃ ws, H a = some (.dK ws) ∧ ws.map (·.1) = kvs.map (·.1) ∧ DtL K G (ws.map (·.2)) (kvs.map (·.2))
  | .ins C fs => ∃ dx gs, H a = some (.ins C dx gs) ∧ gs.map (·.1) = fs.map (·.1) ∧ DtL K G (gs.map (·.2)) (fs.map (·.2))
  | .dcl od ws kvs => H a = some (.frz od (.dK ws)) ∧ ws.map (·.1) = kvs.map (·.1) ∧ DtL K G (ws.map (·.2)) (kvs.map (·.2))
theorem MoOk.some {a : Addr} {o : MO} (h : MoOk K G H a o) : ∃ u, H a = some u := by
  cases o with
  | lst ds => obtain ⟨xs, e, _⟩ := h; exact ⟨_, e⟩
  | dct kvs => obtain ⟨ws, e, _⟩ := h; exact ⟨_, e⟩
  | ins C fs => obtain ⟨dx, gs, e, _⟩ := h; exact ⟨_, e⟩
  | dcl od ws kvs => obtain ⟨e, _⟩ := h; exact ⟨_, e⟩
theorem MoOk.mono {a : Addr} {o : MO} (e : Same G G') (k : H' a = H a) (h : MoOk K G H a o) : MoOk K G' H' a o := by
  cases o with
  | lst ds => obtain ⟨xs, e1, h1⟩ := h; exact ⟨xs, k.trans e1, h1.mono e⟩
  | dct kvs => obtain ⟨ws, e1, e2, h1⟩ := h; exact ⟨ws, k.trans e1, e2, h1.mono e⟩
  | ins C fs => obtain ⟨dx, gs, e1, e2, h1⟩ := h; exact ⟨dx, gs, k.trans e1, e2, h1.mono e⟩
  | dcl od ws kvs => obtain ⟨e1, e2, h1⟩ := h; exact ⟨k.trans e1, e2, h1.mono e⟩
/-- the heap: the frozen part G, the ledger M -/
structure Hs (K : PySem.W.Frag) (G : Hp) (M : Mp) (H : Hp) : Prop where
  sub : Same G H
  ok : ∀ a o, M a = some o → G a = none ∧ MoOk K G H a o
theorem Hs.none_g {M : Mp} {p : Addr} (s : Hs K G M H) (h : H p = none) : G p = none := Same.free s.sub h
theorem Hs.none_m {M : Mp} {p : Addr} (s : Hs K G M H) (h : H p = none) : M p = none := by
  cases e : M p with
  | none => rfl
  | some o => obtain ⟨u, q⟩ := (s.ok p o e).2.some; rw [q] at h; cases h
/-- a new frozen thing -/
theorem Hs.froz {M : Mp} {p : Addr} {o : HO} (s : Hs K G M H) (h : H p = none) : Same G (upd G p o) ∧ Hs K (upd G p o) M (upd H p o) := by
  have g := s.none_g h
  have e : Same G (upd G p o) := fun b u q => by rw [upd_ne (ne_of_none q g)]; exact q
  refine ⟨e, fun b u q => ?_, fun a u q => ?_⟩
  · unfold upd at q ⊢
    by_cases z : b = p
    · rw [if_pos z] at q ⊢; exact q
    · rw [if_neg z] at q ⊢; exact s.sub b u q
  · obtain ⟨g1, k⟩ := s.ok a u q
    have hn : a ≠ p := fun z => by rw [z, s.none_m h] at q; cases q
    exact ⟨by rw [upd_ne hn]; exact g1, k.mono e (upd_ne hn)⟩
/-- a new thing that nobody looks at -/
theorem Hs.junk {M : Mp} {p : Addr} {o : HO} (s : Hs K G M H) (h : H p = none) : Hs K G M (upd H p o) := by
  refine ⟨fun b u q => ?_, fun a u q => ?_⟩
  · rw [upd_ne (ne_of_none (s.sub b u q) h)]; exact s.sub b u q
  · obtain ⟨g1, k⟩ := s.ok a u q
    have hn : a ≠ p := fun z => by rw [z, s.none_m h] at q; cases q
    exact ⟨g1, k.mono (Same.refl _) (upd_ne hn)⟩
/-- a thing of the ledger, new or changed -/
theorem Hs.put {M : Mp} {p : Addr} {o : HO} {m : MO} (s : Hs K G M H) (g : G p = none) (k : MoOk K G (upd H p o) p m) : Hs K G (ud M p m) (upd H p o) := by
  refine ⟨fun b u q => ?_, fun a u q => ?_⟩
  · rw [upd_ne (ne_of_none q g)]; exact s.sub b u q
  · by_cases z : a = p
    · subst z
      rw [ud_same] at q
      cases q
      exact ⟨g, k⟩
    · rw [ud_ne z] at q
      obtain ⟨g1, k1⟩ := s.ok a u q
      exact ⟨g1, k1.mono (Same.refl _) (upd_ne z)⟩
theorem Hs.new {M : Mp} {p : Addr} {o : HO} {m : MO} (s : Hs K G M H) (h : H p = none) (k : MoOk K G (upd H p o) p m) : Hs K G (ud M p m) (upd H p o) := s.put (s.none_g h) k
/-- a list of the ledger is frozen -/
theorem Hs.freeze {M : Mp} {p : Addr} {ds : List D} (s : Hs K G M H) (h : M p = some (.lst ds)) : ∃ G', Same G G' ∧ Hs K G' (del M p) H ∧ Dt K G' (.ref p) (.lst ds) := by
  obtain ⟨g, xs, e, k⟩ := s.ok p _ h
  have e1 : Same G (upd G p (.lst xs)) := fun b u q => by rw [upd_ne (ne_of_none q g)]; exact q
  refine ⟨upd G p (.lst xs), e1, ⟨fun b u q => ?_, fun a u q => ?_⟩, .lst upd_same (k.mono e1)⟩
  · by_cases z : b = p
    · subst z; rw [upd_same] at q; cases q; exact e
    · rw [upd_ne z] at q; exact s.sub b u q
  · unfold del at q
    by_cases z : a = p
    · rw [if_pos z] at q; cases q
    · rw [if_neg z] at q
      obtain ⟨g1, k1⟩ := s.ok a u q
      exact ⟨by rw [upd_ne z]; exact g1, k1.mono e1 rfl⟩
theorem Hs.drop {M : Mp} {p : Addr} (s : Hs K G M H) : Hs K G (del M p) H := ⟨s.sub, fun a u q => by
  unfold del at q
  by_cases z : a = p
  · rw [if_pos z] at q; cases q
  · rw [if_neg z] at q; exact s.ok a u q⟩

/-! ### slots -/
def Rel (K : PySem.W.Frag) (G : Hp) (σ : L2.St) (ρ : Ro) : Prop := σ.length = ρ.length ∧ ∀ (i : Nat) (d : D), ρ[i]? = some (some d) → ∃ v, σ[i]? = some (some v) ∧ Dt K G v d
variable {σ : L2.St} {ρ : Ro}
theorem Rel.mono (e : Same G G') (r : Rel K G σ ρ) : Rel K G' σ ρ := ⟨r.1, fun i d h => let ⟨v, a, b⟩ := r.2 i d h; ⟨v, a, b.mono e⟩⟩
theorem Rel.set {v : V} {d : D} (r : Rel K G σ ρ) (h : Dt K G v d) (i : Nat) : Rel K G (σ.set i (some v)) (ρ.set i (some d)) := by
  refine ⟨by rw [List.length_set, List.length_set]; exact r.1, fun j e q => ?_⟩
  by_cases z : i = j
  · subst z
    by_cases l : i < ρ.length
    · rw [List.getElem?_set_self l] at q
      cases q
      exact ⟨v, List.getElem?_set_self (by rw [r.1]; exact l), h⟩
    · rw [List.getElem?_eq_none (by rw [List.length_set]; omega)] at q
      cases q
  · rw [List.getElem?_set_ne z] at q
    rw [List.getElem?_set_ne z]
    exact r.2 j e q
/-- a slot is forgotten -/
theorem Rel.forget (r : Rel K G σ ρ) (i : Nat) : Rel K G σ (ρ.set i none) := by
  refine ⟨by rw [List.length_set]; exact r.1, fun j e q => ?_⟩
  by_cases z : i = j
  · subst z
    by_cases l : i < ρ.length
    · rw [List.getElem?_set_self l] at q; cases q
    · rw [List.getElem?_eq_none (by rw [List.length_set]; omega)] at q
      cases q
  · rw [List.getElem?_set_ne z] at q
    exact r.2 j e q
def wipeD (ρ : Ro) : List Nat → Ro
  | [] => ρ
  | v :: vs => (wipeD ρ vs).set v none
theorem Rel.unset (r : Rel K G σ ρ) (i : Nat) : Rel K G (σ.set i none) (ρ.set i none) := by
  refine ⟨by rw [List.length_set, List.length_set]; exact r.1, fun j e q => ?_⟩
  by_cases z : i = j
  · subst z
    by_cases l : i < ρ.length
    · rw [List.getElem?_set_self l] at q; cases q
    · rw [List.getElem?_eq_none (by rw [List.length_set]; omega)] at q
      cases q
  · rw [List.getElem?_set_ne z] at q
    rw [List.getElem?_set_ne z]
    exact r.2 j e q
theorem Rel.wipe (r : Rel K G σ ρ) : ∀ vs : List Nat, Rel K G (wipe σ vs) (wipeD ρ vs)
  | [] => r
  | v :: vs => (Rel.wipe r vs).unset v
def startD (N : List Str) (ds : List D) : Ro := ds.map some ++ List.replicate (N.length - ds.length) none
theorem rel_start {vs : List V} {ds : List D} (N : List Str) (h : DtL K G vs ds) : Rel K G (L2.start N vs) (startD N ds) := by
  unfold L2.start startD
  refine ⟨by simp [h.length], fun i d q => ?_⟩
  by_cases l : i < ds.length
  · rw [List.getElem?_append_left (by simpa using l), List.getElem?_map] at q
    cases e : ds[i]? with
    | none => rw [e] at q; cases q
    | some z =>
      rw [e] at q
      cases q
      obtain ⟨v, h1, h2⟩ := h.get e
      exact ⟨v, by rw [List.getElem?_append_left (by rw [List.length_map, h.length]; exact l), List.getElem?_map, h1]; rfl, h2⟩
  · rw [List.getElem?_append_right (by rw [List.length_map]; omega), List.getElem?_replicate] at q
    split at q <;> cases q
end
end DL

namespace DL
open PySem L2
/-! ### judgements -/
structure Jx where
  K : PySem.W.Frag
  E : L2.St → XK
  xe : Ro → Addr → Mp → Prop
abbrev noX : Addr → Mp → Prop := fun _ _ => False
abbrev J0 (K : PySem.W.Frag) : Jx := ⟨K, fun _ => E0, fun _ => noX⟩
/-- in a def that may raise -/
abbrev JX (K : PySem.W.Frag) (E : XK) (xe : Addr → Mp → Prop) : Jx := ⟨K, fun _ => E, fun _ => xe⟩
/-- what may be raised is taken -/
def XOk (J : Jx) (G : Hp) : Prop := ∀ c M' G' H' σ ρ, J.xe ρ c M' → Same G G' → Rel J.K G' σ ρ → Hs J.K G' M' H' → J.E σ (.ref c) none H'
theorem XOk.mono {J : Jx} {G G' : Hp} (e : Same G G') (h : XOk J G) : XOk J G' := fun c M' G1 H' σ ρ x s => h c M' G1 H' σ ρ x (e.trans s)
/-- what is wanted of a value -/
def VQ (J : Jx) (G : Hp) (R : D → Mp → Prop) (Q : VK) : Prop := ∀ v d G' M' H', R d M' → Same G G' → Hs J.K G' M' H' → Dt J.K G' v d → Q v H'
theorem VQ.mono {J : Jx} {G G' : Hp} {R : D → Mp → Prop} {Q : VK} (e : Same G G') (h : VQ J G R Q) : VQ J G' R Q := fun v d G1 M' H' r s => h v d G1 M' H' r (e.trans s)
def W (J : Jx) (te : TE) (ρ : Ro) (M : Mp) (R : D → Mp → Prop) : Prop :=
  ∀ G σ H, Rel J.K G σ ρ → Hs J.K G M H → XOk J G → ∀ Q : VK, VQ J G R Q → te σ H Q
def WT (J : Jx) (tt : TT) (ρ : Ro) (M : Mp) (R : Bool → Mp → Prop) : Prop :=
  ∀ G σ H, Rel J.K G σ ρ → Hs J.K G M H → XOk J G → ∀ Q : Bool → Hp → Prop, (∀ b G' M' H', R b M' → Same G G' → Hs J.K G' M' H' → Q b H') → tt σ H Q
def WA (J : Jx) (ta : TA) (ρ : Ro) (M : Mp) (R : List D → Mp → Prop) : Prop :=
  ∀ G σ H, Rel J.K G σ ρ → Hs J.K G M H → XOk J G → ∀ Q : List V → Hp → Prop, (∀ vs ds G' M' H', R ds M' → Same G G' → Hs J.K G' M' H' → DtL J.K G' vs ds → Q vs H') → ta σ H Q
abbrev Ev (J : Jx) (te : TE) (ρ : Ro) (M : Mp) (d : D) : Prop := W J te ρ M fun d' M' => d' = d ∧ M' = M
abbrev ET (J : Jx) (tt : TT) (ρ : Ro) (M : Mp) (b : Bool) : Prop := WT J tt ρ M fun b' M' => b' = b ∧ M' = M
abbrev EvA (J : Jx) (ta : TA) (ρ : Ro) (M : Mp) (ds : List D) : Prop := WA J ta ρ M fun ds' M' => ds' = ds ∧ M' = M
/-- a new list of the ledger -/
def Fresh (M : Mp) (ds : List D) : D → Mp → Prop := fun d M' => ∃ p, M p = none ∧ d = .ref p ∧ M' = ud M p (.lst ds)
abbrev EvN (J : Jx) (te : TE) (ρ : Ro) (M : Mp) (ds : List D) : Prop := W J te ρ M (Fresh M ds)
section
variable {J : Jx} {te ta tb tc : TE} {tt tu : TT} {t : TA} {ρ : Ro} {M : Mp} {d x y z : D} {ds es : List D} {b c : Bool} {R R' : D → Mp → Prop}
theorem W.imp (h : W J te ρ M R) (k : ∀ d M', R d M' → R' d M') : W J te ρ M R' := fun G σ H r s xo Q q => h G σ H r s xo Q fun v d G' M' H' r1 => q v d G' M' H' (k d M' r1)
theorem WT.imp {R R' : Bool → Mp → Prop} (h : WT J tt ρ M R) (k : ∀ d M', R d M' → R' d M') : WT J tt ρ M R' := fun G σ H r s xo Q q => h G σ H r s xo Q fun b G' M' H' r1 => q b G' M' H' (k b M' r1)
theorem WA.imp {R R' : List D → Mp → Prop} (h : WA J t ρ M R) (k : ∀ d M', R d M' → R' d M') : WA J t ρ M R' := fun G σ H r s xo Q q => h G σ H r s xo Q fun v d G' M' H' r1 => q v d G' M' H' (k d M' r1)
theorem Ev.w (h : Ev J te ρ M d) (k : R d M) : W J te ρ M R := W.imp h fun d' M' e => by obtain ⟨rfl, rfl⟩ := e; exact k
theorem ET.w {R : Bool → Mp → Prop} (h : ET J tt ρ M b) (k : R b M) : WT J tt ρ M R := WT.imp h fun d' M' e => by obtain ⟨rfl, rfl⟩ := e; exact k
theorem EvA.w {R : List D → Mp → Prop} (h : EvA J t ρ M ds) (k : R ds M) : WA J t ρ M R := WA.imp h fun d' M' e => by obtain ⟨rfl, rfl⟩ := e; exact k
theorem EvN.w (h : EvN J te ρ M ds) (k : ∀ p, M p = none → R (.ref p) (ud M p (.lst ds))) : W J te ρ M R := W.imp h fun d' M' e => by obtain ⟨p, e1, rfl, rfl⟩ := e; exact k p e1
theorem Ev.is (h : Ev J te ρ M d) (e : d = x) : Ev J te ρ M x := by rw [← e]; exact h
theorem ET.is (h : ET J tt ρ M b) (e : b = c) : ET J tt ρ M c := by rw [← e]; exact h
theorem EvN.is (h : EvN J te ρ M ds) (e : ds = es) : EvN J te ρ M es := by rw [← e]; exact h
/-- a new list, frozen at once -/
theorem EvN.ev (h : EvN J te ρ M ds) : Ev J te ρ M (.lst ds) := fun G σ H r s xo Q q => h G σ H r s xo Q fun v d G' M' H' r1 e1 s1 t1 => by
  obtain ⟨p, n, rfl, rfl⟩ := r1
  obtain ⟨G2, e2, s2, t2⟩ := s1.freeze (p := p) ud_same
  rw [del_ud n] at s2
  cases t1 with
  | ref a => exact q _ _ G2 M H' ⟨rfl, rfl⟩ (e1.trans e2) s2 t2

theorem ev_var {i : Nat} (h : ρ[i]? = some (some d)) : Ev J (tVar i) ρ M d := fun G σ H r s xo Q q => by
  obtain ⟨v, h1, h2⟩ := r.2 i d h
  exact ⟨v, h1, q v d G M H ⟨rfl, rfl⟩ (Same.refl G) s h2⟩
theorem ev_c {v : V} (h : ∀ G, Dt J.K G v d) : Ev J (tC v) ρ M d := fun G σ H r s xo Q q => q v d G M H ⟨rfl, rfl⟩ (Same.refl G) s (h G)
theorem ev_int {i : Int} : Ev J (tC (.int i)) ρ M (.int i) := ev_c fun _ => .int i
theorem ev_bl {i : Bool} : Ev J (tC (.bl i)) ρ M (.bl i) := ev_c fun _ => .bl i
theorem ev_non : Ev J (tC .non) ρ M .non := ev_c fun _ => .non
theorem ev_str {i : Str} : Ev J (tC (.str i)) ρ M (.str i) := ev_c fun _ => .str i
theorem ev_ty {i : String} : Ev J (tC (.ty i)) ρ M (.ty i) := ev_c fun _ => .ty i

/-! ### operators by values -/
def Op2 (J : Jx) (r : R2) (x y : D) (M : Mp) (R : D → Mp → Prop) : Prop := ∀ G H vx vy, Hs J.K G M H → Dt J.K G vx x → Dt J.K G vy y → ∀ Q : VK, VQ J G R Q → r vx vy H Q
theorem w_op {r : R2} (h : W J ta ρ M fun x M1 => W J tb ρ M1 fun y M2 => Op2 J r x y M2 R) : W J (tOp r ta tb) ρ M R := fun G σ H rl s xo Q q =>
  h G σ H rl s xo _ fun v1 d1 G1 M1 H1 h1 e1 s1 t1 => h1 G1 σ H1 (rl.mono e1) s1 (xo.mono e1) _ fun v2 d2 G2 M2 H2 h2 e2 s2 t2 =>
    h2 G2 H2 v1 v2 s2 (t1.mono e2) t2 Q (q.mono (e1.trans e2))
theorem w_op1 {r : R2} (ha : Ev J ta ρ M x) (hb : Ev J tb ρ M y) (h : Op2 J r x y M R) : W J (tOp r ta tb) ρ M R := w_op (ha.w (hb.w h))
theorem op2_val {r : R2} (h : ∀ G H vx vy, Hs J.K G M H → Dt J.K G vx x → Dt J.K G vy y → ∃ v, Dt J.K G v z ∧ ∀ Q : VK, Q v H → r vx vy H Q) : Op2 J r x y M fun d M' => d = z ∧ M' = M := fun G H vx vy s tx ty Q q => by
  obtain ⟨v, tv, k⟩ := h G H vx vy s tx ty
  exact k Q (q v z G M H ⟨rfl, rfl⟩ (Same.refl G) s tv)
theorem ev_I0 {f : Int → Int → Int} {i j : Int} (ha : Ev J ta ρ M (.int i)) (hb : Ev J tb ρ M (.int j)) : Ev J (tOp (rI0 fun i j => .int (f i j)) ta tb) ρ M (.int (f i j)) :=
  w_op1 ha hb (op2_val fun G H vx vy s tx ty => by cases tx; cases ty; exact ⟨_, .int _, fun Q q => ⟨i, j, rfl, rfl, q⟩⟩)
theorem ev_B0 {f : Int → Int → Bool} {i j : Int} (ha : Ev J ta ρ M (.int i)) (hb : Ev J tb ρ M (.int j)) : Ev J (tOp (rI0 fun i j => .bl (f i j)) ta tb) ρ M (.bl (f i j)) :=
  w_op1 ha hb (op2_val fun G H vx vy s tx ty => by cases tx; cases ty; exact ⟨_, .bl _, fun Q q => ⟨i, j, rfl, rfl, q⟩⟩)
theorem ev_I {C : Int → Int → Prop} {f : Int → Int → Int} {i j : Int} (ha : Ev J ta ρ M (.int i)) (hb : Ev J tb ρ M (.int j)) (hc : C i j) : Ev J (tOp (rI C fun i j => .int (f i j)) ta tb) ρ M (.int (f i j)) :=
  w_op1 ha hb (op2_val fun G H vx vy s tx ty => by cases tx; cases ty; exact ⟨_, .int _, fun Q q => ⟨i, j, rfl, rfl, hc, q⟩⟩)
theorem ev_U {f : Int → Int} {i : Int} (ha : Ev J ta ρ M (.int i)) : Ev J (tUn (rU fun i => .int (f i)) ta) ρ M (.int (f i)) := fun G σ H r s xo Q q =>
  ha G σ H r s xo _ fun v d G' M' H' e e1 s1 t1 => by
    obtain ⟨rfl, rfl⟩ := e
    cases t1
    exact ⟨i, rfl, q _ _ G' M' H' ⟨rfl, rfl⟩ e1 s1 (.int _)⟩
theorem dec_I {i j : Int} : decide (V.int i = V.int j) = decide (i = j) := by
  by_cases h : i = j
  · rw [h]; simp
  · rw [decide_eq_false h]; exact decide_eq_false fun e => h (V.int.inj e)
theorem dec_B {i j : Bool} : decide (V.bl i = V.bl j) = decide (i = j) := by
  by_cases h : i = j
  · rw [h]; simp
  · rw [decide_eq_false h]; exact decide_eq_false fun e => h (V.bl.inj e)
theorem ev_eqI {i j : Int} (ha : Ev J ta ρ M (.int i)) (hb : Ev J tb ρ M (.int j)) : Ev J (tOp rEq ta tb) ρ M (.bl (decide (i = j))) :=
  w_op1 ha hb (op2_val fun G H vx vy s tx ty => by cases tx; cases ty; exact ⟨_, .bl _, fun Q q => ⟨rfl, by rw [dec_I]; exact q⟩⟩)
theorem ev_neI {i j : Int} (ha : Ev J ta ρ M (.int i)) (hb : Ev J tb ρ M (.int j)) : Ev J (tOp rNe ta tb) ρ M (.bl (!decide (i = j))) :=
  w_op1 ha hb (op2_val fun G H vx vy s tx ty => by cases tx; cases ty; exact ⟨_, .bl _, fun Q q => ⟨rfl, by rw [dec_I]; exact q⟩⟩)
theorem ev_eqB {i j : Bool} (ha : Ev J ta ρ M (.bl i)) (hb : Ev J tb ρ M (.bl j)) : Ev J (tOp rEq ta tb) ρ M (.bl (decide (i = j))) :=
  w_op1 ha hb (op2_val fun G H vx vy s tx ty => by cases tx; cases ty; exact ⟨_, .bl _, fun Q q => ⟨rfl, by rw [dec_B]; exact q⟩⟩)
theorem ev_neB {i j : Bool} (ha : Ev J ta ρ M (.bl i)) (hb : Ev J tb ρ M (.bl j)) : Ev J (tOp rNe ta tb) ρ M (.bl (!decide (i = j))) :=
  w_op1 ha hb (op2_val fun G H vx vy s tx ty => by cases tx; cases ty; exact ⟨_, .bl _, fun Q q => ⟨rfl, by rw [dec_B]; exact q⟩⟩)
/-- an int or None -/
def oD : Option Int → D
  | none => .non
  | some i => .int i
def oV : Option Int → V
  | none => .non
  | some i => .int i
theorem dt_oD {K : PySem.W.Frag} {G : Hp} {v : V} : ∀ {a : Option Int}, Dt K G v (oD a) → v = oV a
  | none, h => by cases h; rfl
  | some i, h => by cases h; rfl
theorem dt_oV {K : PySem.W.Frag} {G : Hp} : ∀ (a : Option Int), Dt K G (oV a) (oD a)
  | none => .non
  | some i => .int i
theorem dec_O : ∀ {a b : Option Int}, decide (oV a = oV b) = decide (a = b)
  | none, none => by simp
  | none, some j => by simp [oV]
  | some i, none => by simp [oV]
  | some i, some j => by
    by_cases h : i = j
    · rw [h]; simp
    · rw [decide_eq_false (show ¬ some i = some j from fun e => h (Option.some.inj e))]
      exact decide_eq_false fun e => h (V.int.inj e)
theorem scal_O : ∀ {a b : Option Int}, scal (oV a) (oV b) = true
  | none, none => rfl
  | none, some j => rfl
  | some i, none => rfl
  | some i, some j => rfl
theorem ev_eqO {a b : Option Int} (ha : Ev J ta ρ M (oD a)) (hb : Ev J tb ρ M (oD b)) : Ev J (tOp rEq ta tb) ρ M (.bl (decide (a = b))) :=
  w_op1 ha hb (op2_val fun G H vx vy s tx ty => by rw [dt_oD tx, dt_oD ty]; exact ⟨_, .bl _, fun Q q => ⟨scal_O, by rw [dec_O]; exact q⟩⟩)
theorem ev_neO {a b : Option Int} (ha : Ev J ta ρ M (oD a)) (hb : Ev J tb ρ M (oD b)) : Ev J (tOp rNe ta tb) ρ M (.bl (!decide (a = b))) :=
  w_op1 ha hb (op2_val fun G H vx vy s tx ty => by rw [dt_oD tx, dt_oD ty]; exact ⟨_, .bl _, fun Q q => ⟨scal_O, by rw [dec_O]; exact q⟩⟩)
def isNon : D → Bool
  | .non => true
  | _ => false
theorem isNon_dt {K : PySem.W.Frag} {G : Hp} {v : V} {d : D} (h : Dt K G v d) : decide (v = .non) = isNon d := by
  cases h <;> simp [isNon]
theorem ev_isN (ha : Ev J ta ρ M d) : Ev J (tIsN ta) ρ M (.bl (isNon d)) := fun G σ H r s xo Q q =>
  ha G σ H r s xo _ fun v d' G' M' H' e e1 s1 t1 => by
    obtain ⟨rfl, rfl⟩ := e
    show Q (.bl (decide (v = .non))) H'
    rw [isNon_dt t1]
    exact q _ _ G' M' H' ⟨rfl, rfl⟩ e1 s1 (.bl _)
theorem ev_notN (ha : Ev J ta ρ M d) : Ev J (tNotN ta) ρ M (.bl (!isNon d)) := fun G σ H r s xo Q q =>
  ha G σ H r s xo _ fun v d' G' M' H' e e1 s1 t1 => by
    obtain ⟨rfl, rfl⟩ := e
    show Q (.bl (!decide (v = .non))) H'
    rw [isNon_dt t1]
    exact q _ _ G' M' H' ⟨rfl, rfl⟩ e1 s1 (.bl _)

/-! ### tests -/
theorem et_test (h : Ev J te ρ M (.bl b)) : ET J (tTest te) ρ M b := fun G σ H r s xo Q q => h G σ H r s xo _ fun v d G' M' H' e e1 s1 t1 => by
  obtain ⟨rfl, rfl⟩ := e
  cases t1
  exact ⟨b, rfl, q b G' M' H' ⟨rfl, rfl⟩ e1 s1⟩
theorem et_B (h : Ev J te ρ M (.bl b)) : ET J (tB te) ρ M b := fun G σ H r s xo Q q => h G σ H r s xo _ fun v d G' M' H' e e1 s1 t1 => by
  obtain ⟨rfl, rfl⟩ := e
  cases t1
  exact ⟨b, rfl, q b G' M' H' ⟨rfl, rfl⟩ e1 s1⟩
theorem wt_B {R : Bool → Mp → Prop} (h : W J te ρ M fun d M' => ∃ b, d = .bl b ∧ R b M') : WT J (tB te) ρ M R := fun G σ H r s xo Q q => h G σ H r s xo _ fun v d G' M' H' e e1 s1 t1 => by
  obtain ⟨b, rfl, rb⟩ := e
  cases t1
  exact ⟨b, rfl, q b G' M' H' rb e1 s1⟩
theorem wt_not {R : Bool → Mp → Prop} (h : WT J tt ρ M fun b M' => R (!b) M') : WT J (tNot tt) ρ M R := fun G σ H r s xo Q q => h G σ H r s xo _ fun b G' M' H' e e1 s1 => q (!b) G' M' H' e e1 s1
theorem et_not (h : ET J tt ρ M b) : ET J (tNot tt) ρ M (!b) := wt_not (h.w ⟨rfl, rfl⟩)
theorem wt_and {R : Bool → Mp → Prop} (h : WT J tt ρ M fun b M' => if b = true then WT J tu ρ M' R else R false M') : WT J (tAnd tt tu) ρ M R := fun G σ H r s xo Q q => h G σ H r s xo _ fun b G' M' H' e e1 s1 => by
  cases b with
  | true =>
    rw [if_pos rfl] at e ⊢
    exact e G' σ H' (r.mono e1) s1 (xo.mono e1) Q fun b2 G2 M2 H2 r2 e2 => q b2 G2 M2 H2 r2 (e1.trans e2)
  | false =>
    rw [if_neg Bool.false_ne_true] at e ⊢
    exact q false G' M' H' e e1 s1
theorem wt_or {R : Bool → Mp → Prop} (h : WT J tt ρ M fun b M' => if b = true then R true M' else WT J tu ρ M' R) : WT J (tOr tt tu) ρ M R := fun G σ H r s xo Q q => h G σ H r s xo _ fun b G' M' H' e e1 s1 => by
  cases b with
  | false =>
    rw [if_neg Bool.false_ne_true] at e ⊢
    exact e G' σ H' (r.mono e1) s1 (xo.mono e1) Q fun b2 G2 M2 H2 r2 e2 => q b2 G2 M2 H2 r2 (e1.trans e2)
  | true =>
    rw [if_pos rfl] at e ⊢
    exact q true G' M' H' e e1 s1
theorem et_and (h1 : ET J tt ρ M b) (h2 : b = true → ET J tu ρ M c) : ET J (tAnd tt tu) ρ M (b && c) := wt_and (h1.w (by
  cases b with
  | true => exact h2 rfl
  | false => exact ⟨rfl, rfl⟩))
theorem et_or (h1 : ET J tt ρ M b) (h2 : b = false → ET J tu ρ M c) : ET J (tOr tt tu) ρ M (b || c) := wt_or (h1.w (by
  cases b with
  | false => exact h2 rfl
  | true => exact ⟨rfl, rfl⟩))
theorem w_ifE (h : WT J tt ρ M fun b M' => (b = true → W J ta ρ M' R) ∧ (b = false → W J tb ρ M' R)) : W J (tIf tt ta tb) ρ M R := fun G σ H r s xo Q q => h G σ H r s xo _ fun b G' M' H' e e1 s1 => by
  cases b with
  | true =>
    rw [if_pos rfl]
    exact e.1 rfl G' σ H' (r.mono e1) s1 (xo.mono e1) Q (q.mono e1)
  | false =>
    rw [if_neg Bool.false_ne_true]
    exact e.2 rfl G' σ H' (r.mono e1) s1 (xo.mono e1) Q (q.mono e1)
theorem ev_ifE (h : ET J tt ρ M b) (h1 : b = true → Ev J ta ρ M d) (h2 : b = false → Ev J tb ρ M d) : Ev J (tIf tt ta tb) ρ M d := w_ifE (h.w ⟨h1, h2⟩)
theorem w_andV (h : W J ta ρ M fun d M' => ∃ b, d = .bl b ∧ if b = true then W J tb ρ M' R else R (.bl false) M') : W J (tAndV ta tb) ρ M R := fun G σ H r s xo Q q => h G σ H r s xo _ fun v d G' M' H' e e1 s1 t1 => by
  obtain ⟨b, rfl, e⟩ := e
  cases t1
  refine ⟨b, rfl, ?_⟩
  cases b with
  | true =>
    rw [if_pos rfl] at e ⊢
    exact e G' σ H' (r.mono e1) s1 (xo.mono e1) Q (q.mono e1)
  | false =>
    rw [if_neg Bool.false_ne_true] at e ⊢
    exact q _ _ G' M' H' e e1 s1 (.bl _)
theorem w_orV (h : W J ta ρ M fun d M' => ∃ b, d = .bl b ∧ if b = true then R (.bl true) M' else W J tb ρ M' R) : W J (tOrV ta tb) ρ M R := fun G σ H r s xo Q q => h G σ H r s xo _ fun v d G' M' H' e e1 s1 t1 => by
  obtain ⟨b, rfl, e⟩ := e
  cases t1
  refine ⟨b, rfl, ?_⟩
  cases b with
  | false =>
    rw [if_neg Bool.false_ne_true] at e ⊢
    exact e G' σ H' (r.mono e1) s1 (xo.mono e1) Q (q.mono e1)
  | true =>
    rw [if_pos rfl] at e ⊢
    exact q _ _ G' M' H' e e1 s1 (.bl _)
theorem ev_andV (h1 : Ev J ta ρ M (.bl b)) (h2 : b = true → Ev J tb ρ M (.bl c)) : Ev J (tAndV ta tb) ρ M (.bl (b && c)) := w_andV (h1.w ⟨b, rfl, by
  cases b with
  | true => exact h2 rfl
  | false => exact ⟨rfl, rfl⟩⟩)
theorem ev_orV (h1 : Ev J ta ρ M (.bl b)) (h2 : b = false → Ev J tb ρ M (.bl c)) : Ev J (tOrV ta tb) ρ M (.bl (b || c)) := w_orV (h1.w ⟨b, rfl, by
  cases b with
  | false => exact h2 rfl
  | true => exact ⟨rfl, rfl⟩⟩)
theorem ev_notV (h : Ev J ta ρ M (.bl b)) : Ev J (tNotV ta) ρ M (.bl (!b)) := fun G σ H r s xo Q q => h G σ H r s xo _ fun v d G' M' H' e e1 s1 t1 => by
  obtain ⟨rfl, rfl⟩ := e
  cases t1
  exact ⟨b, rfl, q _ _ G' M' H' ⟨rfl, rfl⟩ e1 s1 (.bl _)⟩
theorem w_chain {r r' : R2} (h : W J ta ρ M fun x M1 => W J tb ρ M1 fun y M2 => Op2 J r x y M2 fun z M3 => ∃ b, z = .bl b ∧ if b = true then W J tc ρ M3 fun u M4 => Op2 J r' y u M4 R else R (.bl false) M3) : W J (tChain r r' ta tb tc) ρ M R := fun G σ H rl s xo Q q =>
  h G σ H rl s xo _ fun v1 d1 G1 M1 H1 h1 e1 s1 t1 => h1 G1 σ H1 (rl.mono e1) s1 (xo.mono e1) _ fun v2 d2 G2 M2 H2 h2 e2 s2 t2 => h2 G2 H2 v1 v2 s2 (t1.mono e2) t2 _ fun v3 d3 G3 M3 H3 h3 e3 s3 t3 => by
    obtain ⟨b, rfl, h3⟩ := h3
    cases t3
    refine ⟨b, rfl, ?_⟩
    cases b with
    | true =>
      rw [if_pos rfl] at h3 ⊢
      exact h3 G3 σ H3 (rl.mono ((e1.trans e2).trans e3)) s3 (xo.mono ((e1.trans e2).trans e3)) _ fun v4 d4 G4 M4 H4 h4 e4 s4 t4 => h4 G4 H4 v2 v4 s4 (t2.mono (e3.trans e4)) t4 Q (q.mono (((e1.trans e2).trans e3).trans e4))
    | false =>
      rw [if_neg Bool.false_ne_true] at h3 ⊢
      exact q _ _ G3 M3 H3 h3 ((e1.trans e2).trans e3) s3 (.bl _)
theorem op2_B0 {f : Int → Int → Bool} {i j : Int} (h : R (.bl (f i j)) M) : Op2 J (rI0 fun i j => .bl (f i j)) (.int i) (.int j) M R := fun G H vx vy s tx ty Q q => by
  cases tx; cases ty
  exact ⟨i, j, rfl, rfl, q _ _ G M H h (Same.refl G) s (.bl _)⟩
theorem ev_chainB {f g : Int → Int → Bool} {i j k : Int} (ha : Ev J ta ρ M (.int i)) (hb : Ev J tb ρ M (.int j)) (hc : Ev J tc ρ M (.int k)) : Ev J (tChain (rI0 fun i j => .bl (f i j)) (rI0 fun i j => .bl (g i j)) ta tb tc) ρ M (.bl (f i j && g j k)) :=
  w_chain (ha.w (hb.w (op2_B0 ⟨f i j, rfl, by
    cases h : f i j with
    | true => exact hc.w (op2_B0 ⟨rfl, rfl⟩)
    | false => exact ⟨rfl, rfl⟩⟩)))

/-! ### arguments -/
theorem ea_nil : EvA J tNil ρ M [] := fun G σ H r s xo Q q => q [] [] G M H ⟨rfl, rfl⟩ (Same.refl G) s .nil
theorem wa_cons {R : List D → Mp → Prop} (h : W J ta ρ M fun x M1 => WA J t ρ M1 fun xs M2 => R (x :: xs) M2) : WA J (tCons ta t) ρ M R := fun G σ H r s xo Q q =>
  h G σ H r s xo _ fun v d G1 M1 H1 h1 e1 s1 t1 => h1 G1 σ H1 (r.mono e1) s1 (xo.mono e1) _ fun vs ds G2 M2 H2 h2 e2 s2 t2 => q _ _ G2 M2 H2 h2 (e1.trans e2) s2 (.cons (t1.mono e2) t2)
theorem ea_cons (h : Ev J ta ρ M x) (k : EvA J t ρ M ds) : EvA J (tCons ta t) ρ M (x :: ds) := wa_cons (h.w (k.w ⟨rfl, rfl⟩))
theorem wa_nil {R : List D → Mp → Prop} (h : R [] M) : WA J tNil ρ M R := ea_nil.w h
/-- a tuple, a list made -/
theorem ev_tup (h : EvA J t ρ M ds) (hl : ds.length ≤ sizeLine) : Ev J (tTup t) ρ M (.tup ds) := fun G σ H r s xo Q q => h G σ H r s xo _ fun vs ds' G1 M1 H1 e e1 s1 t1 => by
  obtain ⟨rfl, rfl⟩ := e
  refine ⟨by rw [t1.length]; exact hl, fun p hp => ?_⟩
  obtain ⟨e2, s2⟩ := s1.froz (o := .tup vs) hp
  exact q _ _ _ _ _ ⟨rfl, rfl⟩ (e1.trans e2) s2 (.tup upd_same (t1.mono e2))
theorem en_lst (h : EvA J t ρ M ds) (hl : ds.length ≤ sizeLine) : EvN J (tLst t) ρ M ds := fun G σ H r s xo Q q => h G σ H r s xo _ fun vs ds' G1 M1 H1 e e1 s1 t1 => by
  obtain ⟨rfl, rfl⟩ := e
  refine ⟨by rw [t1.length]; exact hl, fun p hp => ?_⟩
  exact q _ _ G1 _ _ ⟨p, s1.none_m hp, rfl, rfl⟩ e1 (s1.new (m := .lst ds') hp ⟨vs, upd_same, t1⟩) (.ref p)

/-! ### calls -/
abbrev Pr := List D → Mp → (D → Mp → Prop) → (Addr → Mp → Prop) → Prop
def spD (K : PySem.W.Frag) (Rf : Pr) : Sp := fun vs H Q E => ∃ G M ds nx xe, Hs K G M H ∧ DtL K G vs ds ∧ Rf ds M nx xe ∧
  (∀ v d G' M' H', nx d M' → Same G G' → Hs K G' M' H' → Dt K G' v d → Q v H') ∧ ∀ c M' G' H', xe c M' → Same G G' → Hs K G' M' H' → E (.ref c) none H'
theorem w_callX {Rf : Pr} {K : PySem.W.Frag} {E : XK} {xe : Addr → Mp → Prop} (ha : WA (JX K E xe) t ρ M fun ds M1 => Rf ds M1 R xe) : W (JX K E xe) (tCall (spD K Rf) [] E t) ρ M R := fun G σ H r s xo Q q => ha G σ H r s xo _ fun vs ds G1 M1 H1 h1 e1 s1 t1 => by
  rw [List.append_nil]
  exact ⟨G1, M1, ds, R, xe, s1, t1, h1, q.mono e1, fun c M' G' H' x s' k => xo c M' G' H' σ ρ x (e1.trans s') (r.mono (e1.trans s')) k⟩
theorem w_call {Rf : Pr} {E : XK} (ha : WA J t ρ M fun ds M1 => Rf ds M1 R noX) : W J (tCall (spD J.K Rf) [] E t) ρ M R := fun G σ H r s xo Q q => ha G σ H r s xo _ fun vs ds G1 M1 H1 h1 e1 s1 t1 => by
  rw [List.append_nil]
  exact ⟨G1, M1, ds, R, noX, s1, t1, h1, q.mono e1, fun _ _ _ _ z => z.elim⟩
/-- a def that changes nothing and answers by its arguments -/
abbrev pu (Rp : Mp → List D → D → Prop) : Pr := fun ds M nx _ => ∃ d, Rp M ds d ∧ nx d M
theorem ev_call {Rp : Mp → List D → D → Prop} {E : XK} (ha : EvA J t ρ M ds) (h : Rp M ds z) : Ev J (tCall (spD J.K (pu Rp)) [] E t) ρ M z := w_call (ha.w ⟨z, h, rfl, rfl⟩)
/-- .. by a new list -/
abbrev pl (Rp : Mp → List D → List D → Prop) : Pr := fun ds M nx _ => ∃ es, Rp M ds es ∧ ∀ p, M p = none → nx (.ref p) (ud M p (.lst es))
theorem en_call {Rp : Mp → List D → List D → Prop} {E : XK} (ha : EvA J t ρ M ds) (h : Rp M ds es) : EvN J (tCall (spD J.K (pl Rp)) [] E t) ρ M es := w_call (ha.w ⟨es, h, fun p hp => ⟨p, hp, rfl, rfl⟩⟩)
end
end DL

namespace DL
open PySem L2
/-! ### lists and tuples by what they hold -/
/-- a list, frozen, of the script, or of the ledger -/
def IsL (M : Mp) (d : D) (ds : List D) : Prop := d = .lst ds ∨ d = .frl ds ∨ ∃ a, d = .ref a ∧ M a = some (.lst ds)
/-- .. not of the script -/
def IsM (M : Mp) (d : D) (ds : List D) : Prop := d = .lst ds ∨ ∃ a, d = .ref a ∧ M a = some (.lst ds)
/-- a list or a tuple -/
def IsQ (M : Mp) (d : D) (ds : List D) : Prop := d = .tup ds ∨ IsL M d ds
section
variable {K : PySem.W.Frag} {G H : Hp} {M M' : Mp} {d : D} {ds es : List D} {v : V}
theorem IsL.l : IsL M (.lst ds) ds := .inl rfl
theorem IsL.f : IsL M (.frl ds) ds := .inr (.inl rfl)
theorem IsL.r {a : Addr} (h : M a = some (.lst ds)) : IsL M (.ref a) ds := .inr (.inr ⟨a, rfl, h⟩)
theorem IsM.l : IsM M (.lst ds) ds := .inl rfl
theorem IsM.r {a : Addr} (h : M a = some (.lst ds)) : IsM M (.ref a) ds := .inr ⟨a, rfl, h⟩
theorem IsM.il (h : IsM M d ds) : IsL M d ds := h.elim .inl fun z => .inr (.inr z)
theorem IsQ.t : IsQ M (.tup ds) ds := .inl rfl
theorem IsQ.l : IsQ M (.lst ds) ds := .inr .l
theorem IsL.q (h : IsL M d ds) : IsQ M d ds := .inr h
theorem IsL.sub (h : IsL M d ds) (s : Sub M M') : IsL M' d ds := by
  rcases h with h | h | ⟨a, h1, h2⟩
  · exact .inl h
  · exact .inr (.inl h)
  · exact .inr (.inr ⟨a, h1, s a _ h2⟩)
theorem IsM.sub (h : IsM M d ds) (s : Sub M M') : IsM M' d ds := by
  rcases h with h | ⟨a, h1, h2⟩
  · exact .inl h
  · exact .inr ⟨a, h1, s a _ h2⟩
theorem IsQ.sub (h : IsQ M d ds) (s : Sub M M') : IsQ M' d ds := by
  rcases h with h | h
  · exact .inl h
  · exact .inr (h.sub s)
theorem IsM.at (h : IsM M d ds) (s : Hs K G M H) (t : Dt K G v d) : ∃ a xs, v = .ref a ∧ H a = some (.lst xs) ∧ DtL K G xs ds := by
  rcases h with rfl | ⟨a, rfl, h⟩
  · cases t with
    | lst h1 h2 => exact ⟨_, _, rfl, s.sub _ _ h1, h2⟩
  · cases t
    obtain ⟨g, xs, e, k⟩ := s.ok a _ h
    exact ⟨a, xs, rfl, e, k⟩
theorem IsL.at (h : IsL M d ds) (s : Hs K G M H) (t : Dt K G v d) : ∃ a xs, v = .ref a ∧ SqL K H a xs ∧ DtL K G xs ds := by
  rcases h with h | rfl | h
  · obtain ⟨a, xs, e, h1, h2⟩ := IsM.at (.inl h) s t
    exact ⟨a, xs, e, SqL.of h1, h2⟩
  · cases t with
    | frl h1 h2 => exact ⟨_, _, rfl, s.sub.seq h1, h2⟩
  · obtain ⟨a, xs, e, h1, h2⟩ := IsM.at (.inr h) s t
    exact ⟨a, xs, e, SqL.of h1, h2⟩
theorem tup_at (s : Hs K G M H) (t : Dt K G v (.tup ds)) : ∃ a xs, v = .ref a ∧ H a = some (.tup xs) ∧ DtL K G xs ds := by
  cases t with
  | tup h1 h2 => exact ⟨_, _, rfl, s.sub _ _ h1, h2⟩
theorem IsQ.at (h : IsQ M d ds) (s : Hs K G M H) (t : Dt K G v d) : ∃ a xs, v = .ref a ∧ (SqL K H a xs ∨ SqT K H a xs) ∧ DtL K G xs ds := by
  rcases h with rfl | h
  · obtain ⟨a, xs, e, h1, h2⟩ := tup_at s t
    exact ⟨a, xs, e, .inr (SqT.of h1), h2⟩
  · obtain ⟨a, xs, e, h1, h2⟩ := h.at s t
    exact ⟨a, xs, e, .inl h1, h2⟩
theorem atI_dt {xs : List V} {i : Int} {z : D} (h : DtL K G xs ds) (e : atI ds i = some z) : ∃ v, atI xs i = some v ∧ Dt K G v z := by
  unfold atI at e ⊢
  rw [h.length]
  cases q : ixN ds.length i with
  | none => rw [q] at e; cases e
  | some j =>
    rw [q] at e
    exact h.get e
def cutD (ds : List D) (lo hi : Option Int) : List D := (ds.drop (HT.sIx ds.length 0 lo)).take (HT.sIx ds.length ds.length hi - HT.sIx ds.length 0 lo)
theorem cut_dt {xs : List V} {lo hi : Option Int} (h : DtL K G xs ds) : DtL K G (cutV xs lo hi) (cutD ds lo hi) := by
  unfold cutV cutD
  rw [h.length]
  exact (h.drop _).take _
theorem rep_dt {xs : List V} (h : DtL K G xs ds) : ∀ n : Nat, DtL K G (List.replicate n xs).flatten (List.replicate n ds).flatten
  | 0 => .nil
  | n + 1 => by
    rw [List.replicate_succ, List.replicate_succ, List.flatten_cons, List.flatten_cons]
    exact h.append (rep_dt h n)
theorem erase_dt : ∀ {xs : List V} {ds : List D} (k : Nat), DtL K G xs ds → DtL K G (xs.eraseIdx k) (ds.eraseIdx k)
  | _, _, _, .nil => .nil
  | _, _, 0, .cons _ t => t
  | _, _, k + 1, .cons r t => .cons r (erase_dt k t)
theorem dropLast_dt {xs : List V} (h : DtL K G xs ds) : DtL K G xs.dropLast ds.dropLast := by
  rw [List.dropLast_eq_take, List.dropLast_eq_take, h.length]
  exact h.take _
end

section
variable {J : Jx} {te ta tb tc to ti : TE} {tt tu : TT} {t : TA} {ρ : Ro} {M : Mp} {d x y z : D} {ds es : List D} {b c : Bool} {R R' : D → Mp → Prop}
theorem ev_ixL {i : Int} (ha : Ev J ta ρ M x) (hb : Ev J tb ρ M (.int i)) (hx : IsL M x ds) (h : atI ds i = some z) : Ev J (tOp (rIxL J.K) ta tb) ρ M z :=
  w_op1 ha hb (op2_val fun G H vx vy s tx ty => by
    cases ty
    obtain ⟨a, xs, e, h1, h2⟩ := hx.at s tx
    obtain ⟨v, e1, e2⟩ := atI_dt h2 h
    exact ⟨v, e2, fun Q q => ⟨a, xs, i, v, e, rfl, h1, e1, q⟩⟩)
theorem ev_ixT {i : Int} (ha : Ev J ta ρ M (.tup ds)) (hb : Ev J tb ρ M (.int i)) (h : atI ds i = some z) : Ev J (tOp (rIxT J.K) ta tb) ρ M z :=
  w_op1 ha hb (op2_val fun G H vx vy s tx ty => by
    cases ty
    obtain ⟨a, xs, e, h1, h2⟩ := tup_at s tx
    obtain ⟨v, e1, e2⟩ := atI_dt h2 h
    exact ⟨v, e2, fun Q q => ⟨a, xs, i, v, e, rfl, SqT.of h1, e1, q⟩⟩)
theorem ev_ixQ {i : Int} (ha : Ev J ta ρ M x) (hb : Ev J tb ρ M (.int i)) (hx : IsQ M x ds) (h : atI ds i = some z) : Ev J (tOp (rIx J.K) ta tb) ρ M z :=
  w_op1 ha hb (op2_val fun G H vx vy s tx ty => by
    cases ty
    obtain ⟨a, xs, e, h1, h2⟩ := hx.at s tx
    obtain ⟨v, e1, e2⟩ := atI_dt h2 h
    exact ⟨v, e2, fun Q q => h1.elim (fun h1 => .inl ⟨a, xs, i, v, e, rfl, h1, e1, q⟩) fun h1 => .inr (.inl ⟨a, xs, i, v, e, rfl, h1, e1, q⟩)⟩)
/-! calls of built-in functions by values -/
def OpA (J : Jx) (r : List V → Hp → VK → Prop) (ds : List D) (M : Mp) (R : D → Mp → Prop) : Prop := ∀ G H vs, Hs J.K G M H → DtL J.K G vs ds → ∀ Q : VK, VQ J G R Q → r vs H Q
theorem w_cb {r : List V → Hp → VK → Prop} (h : WA J t ρ M fun ds M1 => OpA J r ds M1 R) : W J (tCB r t) ρ M R := fun G σ H rl s xo Q q => h G σ H rl s xo _ fun vs ds G1 M1 H1 h1 e1 s1 t1 => h1 G1 H1 vs s1 t1 Q (q.mono e1)
theorem w_cb1 {r : List V → Hp → VK → Prop} (ha : EvA J t ρ M ds) (h : OpA J r ds M R) : W J (tCB r t) ρ M R := w_cb (ha.w h)
theorem opA_val {r : List V → Hp → VK → Prop} (h : ∀ G H vs, Hs J.K G M H → DtL J.K G vs ds → ∃ v, Dt J.K G v z ∧ ∀ Q : VK, Q v H → r vs H Q) : OpA J r ds M fun d M' => d = z ∧ M' = M := fun G H vs s tx Q q => by
  obtain ⟨v, tv, k⟩ := h G H vs s tx
  exact k Q (q v z G M H ⟨rfl, rfl⟩ (Same.refl G) s tv)
/-- a new list from values -/
theorem opA_new {r : List V → Hp → VK → Prop} (h : ∀ G H vs, Hs J.K G M H → DtL J.K G vs ds → ∃ xs, DtL J.K G xs es ∧ ∀ Q : VK, (∀ p, H p = none → Q (.ref p) (upd H p (.lst xs))) → r vs H Q) : OpA J r ds M (Fresh M es) := fun G H vs s tx Q q => by
  obtain ⟨xs, tv, k⟩ := h G H vs s tx
  exact k Q fun p hp => q _ _ G _ _ ⟨p, s.none_m hp, rfl, rfl⟩ (Same.refl G) (s.new (m := .lst es) hp ⟨xs, upd_same, tv⟩) (.ref p)
theorem op2_new {r : R2} (h : ∀ G H vx vy, Hs J.K G M H → Dt J.K G vx x → Dt J.K G vy y → ∃ xs, DtL J.K G xs es ∧ ∀ Q : VK, (∀ p, H p = none → Q (.ref p) (upd H p (.lst xs))) → r vx vy H Q) : Op2 J r x y M (Fresh M es) := fun G H vx vy s tx ty Q q => by
  obtain ⟨xs, tv, k⟩ := h G H vx vy s tx ty
  exact k Q fun p hp => q _ _ G _ _ ⟨p, s.none_m hp, rfl, rfl⟩ (Same.refl G) (s.new (m := .lst es) hp ⟨xs, upd_same, tv⟩) (.ref p)
theorem ev_len (ha : Ev J ta ρ M x) (hx : IsQ M x ds) : Ev J (tCB (fun xs H Q => ∃ p ys, xs = [.ref p] ∧ (SqL J.K H p ys ∨ SqT J.K H p ys) ∧ Q (.int ys.length) H) (tCons ta tNil)) ρ M (.int ds.length) :=
  w_cb1 (ea_cons ha ea_nil) (opA_val fun G H vs s tx => by
    cases tx with
    | cons t1 t2 =>
      cases t2
      obtain ⟨a, xs, rfl, h1, h2⟩ := hx.at s t1
      exact ⟨_, .int _, fun Q q => ⟨a, xs, rfl, h1, by rw [h2.length]; exact q⟩⟩)
theorem ev_max2 {i j : Int} (ha : Ev J ta ρ M (.int i)) (hb : Ev J tb ρ M (.int j)) : Ev J (tCB (fun xs H Q => ∃ i j, xs = [.int i, .int j] ∧ Q (.int (if j > i then j else i)) H) (tCons ta (tCons tb tNil))) ρ M (.int (max i j)) :=
  w_cb1 (ea_cons ha (ea_cons hb ea_nil)) (opA_val fun G H vs s tx => by
    cases tx with
    | cons t1 t2 =>
      cases t2 with
      | cons t2 t3 =>
        cases t1; cases t2; cases t3
        refine ⟨_, .int _, fun Q q => ⟨i, j, rfl, ?_⟩⟩
        have e : (if j > i then j else i) = max i j := by omega
        rw [e]; exact q)
theorem ev_min2 {i j : Int} (ha : Ev J ta ρ M (.int i)) (hb : Ev J tb ρ M (.int j)) : Ev J (tCB (fun xs H Q => ∃ i j, xs = [.int i, .int j] ∧ Q (.int (if j < i then j else i)) H) (tCons ta (tCons tb tNil))) ρ M (.int (min i j)) :=
  w_cb1 (ea_cons ha (ea_cons hb ea_nil)) (opA_val fun G H vs s tx => by
    cases tx with
    | cons t1 t2 =>
      cases t2 with
      | cons t2 t3 =>
        cases t1; cases t2; cases t3
        refine ⟨_, .int _, fun Q q => ⟨i, j, rfl, ?_⟩⟩
        have e : (if j < i then j else i) = min i j := by omega
        rw [e]; exact q)
theorem en_list (ha : Ev J ta ρ M x) (hx : IsQ M x ds) : EvN J (tCB (fun xs H Q => ∃ p ys, xs = [.ref p] ∧ (SqL J.K H p ys ∨ SqT J.K H p ys) ∧ ∀ l, H l = none → Q (.ref l) (upd H l (.lst ys))) (tCons ta tNil)) ρ M ds :=
  w_cb1 (ea_cons ha ea_nil) (opA_new fun G H vs s tx => by
    cases tx with
    | cons t1 t2 =>
      cases t2
      obtain ⟨a, xs, rfl, h1, h2⟩ := hx.at s t1
      exact ⟨xs, h2, fun Q q => ⟨a, xs, rfl, h1, q⟩⟩)
theorem ev_tuple (ha : Ev J ta ρ M x) (hx : IsQ M x ds) : Ev J (tCB (fun xs H Q => ∃ p ys, xs = [.ref p] ∧ ((SqL J.K H p ys ∧ ∀ l, H l = none → Q (.ref l) (upd H l (.tup ys))) ∨ (SqT J.K H p ys ∧ Q (.ref p) H))) (tCons ta tNil)) ρ M (.tup ds) :=
  w_cb1 (ea_cons ha ea_nil) (fun G H vs s tx Q q => by
    cases tx with
    | cons t1 t2 =>
      cases t2
      rcases hx with rfl | hx
      · obtain ⟨a, xs, rfl, h1, h2⟩ := tup_at s t1
        exact ⟨a, xs, rfl, .inr ⟨SqT.of h1, q _ _ G M H ⟨rfl, rfl⟩ (Same.refl G) s t1⟩⟩
      · obtain ⟨a, xs, rfl, h1, h2⟩ := hx.at s t1
        refine ⟨a, xs, rfl, .inl ⟨h1, fun l hl => ?_⟩⟩
        obtain ⟨e2, s2⟩ := s.froz (o := .tup xs) hl
        exact q _ _ _ _ _ ⟨rfl, rfl⟩ e2 s2 (.tup upd_same (h2.mono e2)))
theorem en_cat (ha : Ev J ta ρ M x) (hb : Ev J tb ρ M y) (hx : IsM M x ds) (hy : IsM M y es) (hl : ds.length + es.length ≤ sizeLine) : EvN J (tOp rCat ta tb) ρ M (ds ++ es) :=
  w_op1 ha hb (op2_new fun G H vx vy s tx ty => by
    obtain ⟨a, xs, rfl, h1, h2⟩ := hx.at s tx
    obtain ⟨a2, xs2, rfl, h12, h22⟩ := hy.at s ty
    exact ⟨_, h2.append h22, fun Q q => ⟨a, a2, xs, xs2, rfl, rfl, h1, h12, by rw [h2.length, h22.length]; exact hl, q⟩⟩)
theorem en_rep {k : Int} (ha : Ev J ta ρ M x) (hb : Ev J tb ρ M (.int k)) (hx : IsM M x ds) (h1 : -(2 ^ 63) ≤ k) (h2 : k < 2 ^ 63) (hl : ds.length * k.toNat ≤ sizeLine) : EvN J (tOp rRep ta tb) ρ M (List.replicate k.toNat ds).flatten :=
  w_op1 ha hb (op2_new fun G H vx vy s tx ty => by
    cases ty
    obtain ⟨a, xs, rfl, g1, g2⟩ := hx.at s tx
    exact ⟨_, rep_dt g2 _, fun Q q => ⟨a, k, xs, rfl, rfl, g1, h1, h2, by rw [g2.length]; exact hl, q⟩⟩)
/-! parts of slices -/
def EvO (J : Jx) (to : TO) (ρ : Ro) (M : Mp) (o : Option Int) : Prop := ∀ G σ H, Rel J.K G σ ρ → Hs J.K G M H → XOk J G → ∀ Q : Option Int → Hp → Prop, (∀ G' H', Same G G' → Hs J.K G' M H' → Q o H') → to σ H Q
theorem eo_no : EvO J tNoPart ρ M none := fun G σ H r s xo Q q => q G H (Same.refl G) s
theorem eo_of {i : Int} (h : Ev J te ρ M (.int i)) : EvO J (tPart te) ρ M (some i) := fun G σ H r s xo Q q => h G σ H r s xo _ fun v d G1 M1 H1 e e1 s1 t1 => by
  obtain ⟨rfl, rfl⟩ := e
  cases t1
  exact ⟨i, rfl, q G1 H1 e1 s1⟩
theorem en_sl {tl th : TO} {lo hi : Option Int} (h : Ev J te ρ M x) (h1 : EvO J tl ρ M lo) (h2 : EvO J th ρ M hi) (hx : IsL M x ds) : EvN J (tSl (rSlL J.K) te tl th) ρ M (cutD ds lo hi) := fun G σ H r s xo Q q =>
  h G σ H r s xo _ fun v d G1 M1 H1 e e1 s1 t1 => by
    obtain ⟨rfl, rfl⟩ := e
    refine h1 G1 σ H1 (r.mono e1) s1 (xo.mono e1) _ fun G2 H2 e2 s2 => h2 G2 σ H2 (r.mono (e1.trans e2)) s2 (xo.mono (e1.trans e2)) _ fun G3 H3 e3 s3 => ?_
    obtain ⟨a, xs, rfl, g1, g2⟩ := hx.at s3 (t1.mono (e2.trans e3))
    exact ⟨a, xs, rfl, g1, fun p hp => q _ _ G3 _ _ ⟨p, s3.none_m hp, rfl, rfl⟩ ((e1.trans e2).trans e3) (s3.new (m := .lst (cutD ds lo hi)) hp ⟨_, upd_same, cut_dt g2⟩) (.ref p)⟩

/-! ### methods of lists -/
def OpM (J : Jx) (r : V → List V → Hp → VK → Prop) (x : D) (ds : List D) (M : Mp) (R : D → Mp → Prop) : Prop := ∀ G H v vs, Hs J.K G M H → Dt J.K G v x → DtL J.K G vs ds → ∀ Q : VK, VQ J G R Q → r v vs H Q
theorem w_bm {r : V → List V → Hp → VK → Prop} (h : W J to ρ M fun x M1 => (∃ ds, IsL M1 x ds) ∧ WA J t ρ M1 fun ds M2 => OpM J r x ds M2 R) : W J (tBM J.K "list" r to t) ρ M R := fun G σ H rl s xo Q q =>
  h G σ H rl s xo _ fun v1 d1 G1 M1 H1 h1 e1 s1 t1 => by
    obtain ⟨⟨ds, hd⟩, h1⟩ := h1
    obtain ⟨a, xs, rfl, g1, g2⟩ := hd.at s1 t1
    exact ⟨.inl ⟨rfl, xs, g1⟩, h1 G1 σ H1 (rl.mono e1) s1 (xo.mono e1) _ fun vs ds2 G2 M2 H2 h2 e2 s2 t2 => h2 G2 H2 _ vs s2 (t1.mono e2) t2 Q (q.mono (e1.trans e2))⟩
theorem w_bm0 {r : V → List V → Hp → VK → Prop} (h : W J to ρ M fun x M1 => (∃ ds, IsL M1 x ds) ∧ OpM J r x [] M1 R) : W J (tBM0 J.K "list" r to) ρ M R := fun G σ H rl s xo Q q =>
  h G σ H rl s xo _ fun v1 d1 G1 M1 H1 h1 e1 s1 t1 => by
    obtain ⟨⟨ds, hd⟩, h1⟩ := h1
    obtain ⟨a, xs, rfl, g1, g2⟩ := hd.at s1 t1
    exact ⟨.inl ⟨rfl, xs, g1⟩, h1 G1 H1 _ [] s1 t1 .nil Q (q.mono e1)⟩
theorem w_append {a : Addr} (ho : Ev J to ρ M (.ref a)) (hm : M a = some (.lst ds)) (ha : Ev J ta ρ M x) (hl : ds.length < sizeLine) (k : R .non (ud M a (.lst (ds ++ [x])))) : W J (tBM J.K "list" rAppend to (tCons ta tNil)) ρ M R :=
  w_bm (ho.w ⟨⟨ds, .r hm⟩, (ea_cons ha ea_nil).w fun G H v vs s tx tv Q q => by
    cases tx
    cases tv with
    | cons t1 t2 =>
      cases t2
      obtain ⟨g, xs, e, g2⟩ := s.ok a _ hm
      exact ⟨a, xs, _, rfl, rfl, e, by rw [g2.length]; exact hl, q _ _ G _ _ k (Same.refl G) (s.put g ⟨_, upd_same, g2.append (.cons t1 .nil)⟩) .non⟩⟩)
/-- the argument may change the ledger -/
theorem w_appendW {a : Addr} (ho : Ev J to ρ M (.ref a)) (hm0 : M a = some (.lst es)) (ha : W J ta ρ M fun x M1 => ∃ ds, M1 a = some (.lst ds) ∧ ds.length < sizeLine ∧ R .non (ud M1 a (.lst (ds ++ [x])))) : W J (tBM J.K "list" rAppend to (tCons ta tNil)) ρ M R :=
  w_bm (ho.w ⟨⟨es, .r hm0⟩, wa_cons (ha.imp fun x M1 h => wa_nil (by
    obtain ⟨ds, hm, hl, k⟩ := h
    intro G H v vs s tx tv Q q
    cases tx
    cases tv with
    | cons t1 t2 =>
      cases t2
      obtain ⟨g, xs, e, g2⟩ := s.ok a _ hm
      exact ⟨a, xs, _, rfl, rfl, e, by rw [g2.length]; exact hl, q _ _ G _ _ k (Same.refl G) (s.put g ⟨_, upd_same, g2.append (.cons t1 .nil)⟩) .non⟩))⟩)
theorem w_popAt {a : Addr} {i : Int} {k : Nat} (ho : Ev J to ρ M (.ref a)) (hm : M a = some (.lst ds)) (ha : Ev J ta ρ M (.int i)) (h1 : -(2 ^ 63) ≤ i) (h2 : i < 2 ^ 63) (hi : seqIndex? i ds.length = some k) (hz : ds[k]? = some z) (kk : R z (ud M a (.lst (ds.eraseIdx k)))) :
    W J (tBM J.K "list" rPopAt to (tCons ta tNil)) ρ M R :=
  w_bm (ho.w ⟨⟨ds, .r hm⟩, (ea_cons ha ea_nil).w fun G H v vs s tx tv Q q => by
    cases tx
    cases tv with
    | cons t1 t2 =>
      cases t2
      cases t1
      obtain ⟨g, xs, e, g2⟩ := s.ok a _ hm
      obtain ⟨v, e1, e2⟩ := g2.get hz
      exact ⟨a, xs, i, k, v, rfl, rfl, e, h1, h2, by rw [g2.length]; exact hi, e1, q _ _ G _ _ kk (Same.refl G) (s.put g ⟨_, upd_same, erase_dt k g2⟩) e2⟩⟩)
theorem w_insert {a : Addr} {i : Int} (ho : Ev J to ρ M (.ref a)) (hm : M a = some (.lst ds)) (ha : Ev J ta ρ M (.int i)) (hb : Ev J tb ρ M x) (hl : ds.length < sizeLine) (h1 : 0 ≤ i) (h2 : i < 2 ^ 63) (kk : R .non (ud M a (.lst (ds.take i.toNat ++ [x] ++ ds.drop i.toNat)))) :
    W J (tBM J.K "list" (fun x vs H Q => ∃ (l : Addr) (xs : List V) (i : Int) (y : V), x = .ref l ∧ vs = [.int i, y] ∧ H l = some (.lst xs) ∧ xs.length < sizeLine ∧ 0 ≤ i ∧ i < 2 ^ 63 ∧ Q .non (upd H l (.lst (xs.take i.toNat ++ [y] ++ xs.drop i.toNat)))) to (tCons ta (tCons tb tNil))) ρ M R :=
  w_bm (ho.w ⟨⟨ds, .r hm⟩, (ea_cons ha (ea_cons hb ea_nil)).w fun G H v vs s tx tv Q q => by
    cases tx
    cases tv with
    | cons t1 t2 =>
      cases t2 with
      | cons t2 t3 =>
        cases t3
        cases t1
        obtain ⟨g, xs, e, g2⟩ := s.ok a _ hm
        exact ⟨a, xs, i, _, rfl, rfl, e, by rw [g2.length]; exact hl, h1, h2, q _ _ G _ _ kk (Same.refl G) (s.put g ⟨_, upd_same, ((g2.take _).append (.cons t2 .nil)).append (g2.drop _)⟩) .non⟩⟩)
theorem w_clear {a : Addr} (ho : Ev J to ρ M (.ref a)) (hm : M a = some (.lst ds)) (kk : R .non (ud M a (.lst []))) : W J (tBM0 J.K "list" rClear to) ρ M R :=
  w_bm0 (ho.w ⟨⟨ds, .r hm⟩, fun G H v vs s tx tv Q q => by
    cases tx
    cases tv
    obtain ⟨g, xs, e, g2⟩ := s.ok a _ hm
    exact ⟨a, xs, rfl, rfl, e, q _ _ G _ _ kk (Same.refl G) (s.put g ⟨_, upd_same, .nil⟩) .non⟩⟩)
theorem w_extend {a : Addr} (ho : Ev J to ρ M (.ref a)) (hm : M a = some (.lst ds)) (ha : Ev J ta ρ M x) (hx : IsM M x es) (hl : ds.length + es.length ≤ sizeLine) (kk : R .non (ud M a (.lst (ds ++ es)))) : W J (tBM J.K "list" rExtend to (tCons ta tNil)) ρ M R :=
  w_bm (ho.w ⟨⟨ds, .r hm⟩, (ea_cons ha ea_nil).w fun G H v vs s tx tv Q q => by
    cases tx
    cases tv with
    | cons t1 t2 =>
      cases t2
      obtain ⟨g, xs, e, g2⟩ := s.ok a _ hm
      obtain ⟨a2, xs2, rfl, h12, h22⟩ := hx.at s t1
      exact ⟨a, a2, xs, xs2, rfl, rfl, e, h12, by rw [g2.length, h22.length]; exact hl, q _ _ G _ _ kk (Same.refl G) (s.put g ⟨_, upd_same, g2.append h22⟩) .non⟩⟩)
end

/-! ### statements -/
structure Po where
  nx : Ro → Mp → Prop
  rt : D → Mp → Prop
  bk : Ro → Mp → Prop := fun _ _ => False
  ct : Ro → Mp → Prop := fun _ _ => False
/-- what the ways out of a statement reach -/
structure DQ (J : Jx) (G : Hp) (P : Po) (D' : Ends) : Prop where
  nx : ∀ G' σ' ρ' M' H', P.nx ρ' M' → Same G G' → Rel J.K G' σ' ρ' → Hs J.K G' M' H' → D'.nx σ' H'
  rt : ∀ G' v d M' H', P.rt d M' → Same G G' → Hs J.K G' M' H' → Dt J.K G' v d → D'.rt v H'
  bk : ∀ G' σ' ρ' M' H', P.bk ρ' M' → Same G G' → Rel J.K G' σ' ρ' → Hs J.K G' M' H' → D'.bk σ' H'
  ct : ∀ G' σ' ρ' M' H', P.ct ρ' M' → Same G G' → Rel J.K G' σ' ρ' → Hs J.K G' M' H' → D'.ct σ' H'
theorem DQ.mono {J : Jx} {G G1 : Hp} {P : Po} {D' : Ends} (e : Same G G1) (q : DQ J G P D') : DQ J G1 P D' :=
  ⟨fun G' σ' ρ' M' H' h s => q.nx G' σ' ρ' M' H' h (e.trans s), fun G' v d M' H' h s => q.rt G' v d M' H' h (e.trans s), fun G' σ' ρ' M' H' h s => q.bk G' σ' ρ' M' H' h (e.trans s), fun G' σ' ρ' M' H' h s => q.ct G' σ' ρ' M' H' h (e.trans s)⟩
def S (J : Jx) (ts : TS) (ρ : Ro) (M : Mp) (P : Po) : Prop := ∀ G σ H (D' : Ends), Rel J.K G σ ρ → Hs J.K G M H → XOk J G → DQ J G P D' → ts D' σ H
section
variable {J : Jx} {te ta tb to ti : TE} {tt : TT} {t1 t2 ts : TS} {ρ : Ro} {M : Mp} {d x y z : D} {ds es : List D} {b : Bool} {P : Po} {i : Nat}
theorem s_seq (h : S J t1 ρ M ⟨fun ρ' M' => S J t2 ρ' M' P, P.rt, P.bk, P.ct⟩) : S J (tSeq t1 t2) ρ M P := fun G σ H D' r s xo q =>
  h G σ H _ r s xo ⟨fun G' σ' ρ' M' H' h1 e1 r1 s1 => h1 G' σ' H' D' r1 s1 (xo.mono e1) (q.mono e1), q.rt, q.bk, q.ct⟩
theorem s_next (h : P.nx ρ M) : S J tNext ρ M P := fun G σ H D' r s xo q => q.nx G σ ρ M H h (Same.refl G) r s
theorem s_break (h : P.bk ρ M) : S J tBreak ρ M P := fun G σ H D' r s xo q => q.bk G σ ρ M H h (Same.refl G) r s
theorem s_cont (h : P.ct ρ M) : S J tCont ρ M P := fun G σ H D' r s xo q => q.ct G σ ρ M H h (Same.refl G) r s
theorem s_asg (h : W J te ρ M fun d M' => P.nx (ρ.set i (some d)) M') : S J (tAsg te (gName i)) ρ M P := fun G σ H D' r s xo q =>
  h G σ H r s xo _ fun v d G' M' H' h1 e1 s1 t1 => q.nx G' _ _ M' H' h1 e1 ((r.mono e1).set t1 i) s1
theorem s_ret (h : W J te ρ M P.rt) : S J (tRet te) ρ M P := fun G σ H D' r s xo q => h G σ H r s xo _ fun v d G' M' H' h1 e1 s1 t1 => q.rt G' v d M' H' h1 e1 s1 t1
theorem s_retN (h : P.rt .non M) : S J tRetN ρ M P := fun G σ H D' r s xo q => q.rt G .non .non M H h (Same.refl G) s .non
theorem s_drop (h : W J te ρ M fun _ M' => P.nx ρ M') : S J (tDrop te) ρ M P := fun G σ H D' r s xo q => h G σ H r s xo _ fun v d G' M' H' h1 e1 s1 t1 => q.nx G' σ ρ M' H' h1 e1 (r.mono e1) s1
theorem s_ifW (h : WT J tt ρ M fun b M' => (b = true → S J t1 ρ M' P) ∧ (b = false → S J t2 ρ M' P)) : S J (tIfS tt t1 t2) ρ M P := fun G σ H D' r s xo q =>
  h G σ H r s xo _ fun b G' M' H' h1 e1 s1 => by
    cases b with
    | true => rw [if_pos rfl]; exact h1.1 rfl G' σ H' D' (r.mono e1) s1 (xo.mono e1) (q.mono e1)
    | false => rw [if_neg Bool.false_ne_true]; exact h1.2 rfl G' σ H' D' (r.mono e1) s1 (xo.mono e1) (q.mono e1)
theorem s_if (h : ET J tt ρ M b) (h1 : b = true → S J t1 ρ M P) (h2 : b = false → S J t2 ρ M P) : S J (tIfS tt t1 t2) ρ M P := s_ifW (h.w ⟨h1, h2⟩)
theorem S.imp {P' : Po} (h : S J ts ρ M P) (a : ∀ r m, P.nx r m → P'.nx r m) (b : ∀ r m, P.rt r m → P'.rt r m) (c : ∀ r m, P.bk r m → P'.bk r m) (e : ∀ r m, P.ct r m → P'.ct r m) : S J ts ρ M P' := fun G σ H D' r s xo q =>
  h G σ H D' r s xo ⟨fun G' σ' ρ' M' H' h1 => q.nx G' σ' ρ' M' H' (a _ _ h1), fun G' v d M' H' h1 => q.rt G' v d M' H' (b _ _ h1), fun G' σ' ρ' M' H' h1 => q.bk G' σ' ρ' M' H' (c _ _ h1), fun G' σ' ρ' M' H' h1 => q.ct G' σ' ρ' M' H' (e _ _ h1)⟩
/-- a list of the ledger, held by slot i, is frozen -/
theorem s_freeze {a : Addr} (hm : M a = some (.lst ds)) (hi : ρ[i]? = some (some (.ref a))) (h : S J ts (ρ.set i (some (.lst ds))) (del M a) P) : S J ts ρ M P := fun G σ H D' r s xo q => by
  obtain ⟨G', e1, s1, t1⟩ := s.freeze hm
  obtain ⟨v, h1, h2⟩ := r.2 i _ hi
  cases h2
  refine h G' σ H D' ?_ s1 (xo.mono e1) (q.mono e1)
  have r2 := (r.mono e1).set t1 i
  have e : σ.set i (some (.ref a)) = σ := by
    refine List.ext_getElem? fun j => ?_
    by_cases z : i = j
    · subst z
      rw [List.getElem?_set_self (List.getElem?_eq_some_iff.mp h1).1, h1]
    · rw [List.getElem?_set_ne z]
  rw [e] at r2
  exact r2
theorem s_forget (i : Nat) (h : S J ts (ρ.set i none) M P) : S J ts ρ M P := fun G σ H D' r s xo q => h G σ H D' (r.forget i) s xo q
theorem s_unled (a : Addr) (h : S J ts ρ (del M a) P) : S J ts ρ M P := fun G σ H D' r s xo q => h G σ H D' r s.drop xo q
/-- xs[i] = e -/
theorem s_setL {a : Addr} {k : Int} {j : Nat} (hv : Ev J te ρ M x) (ho : Ev J to ρ M (.ref a)) (hi : Ev J ti ρ M (.int k)) (hm : M a = some (.lst ds)) (hj : ixN ds.length k = some j) (h : P.nx ρ (ud M a (.lst (ds.set j x)))) : S J (tAsg te (gSub to ti rSetL)) ρ M P := fun G σ H D' r s xo q =>
  hv G σ H r s xo _ fun v d G1 M1 H1 e e1 s1 t1 => by
    obtain ⟨rfl, rfl⟩ := e
    refine ho G1 σ H1 (r.mono e1) s1 (xo.mono e1) _ fun v2 d2 G2 M2 H2 e e2 s2 t2 => ?_
    obtain ⟨rfl, rfl⟩ := e
    refine hi G2 σ H2 ((r.mono e1).mono e2) s2 (xo.mono (e1.trans e2)) _ fun v3 d3 G3 M3 H3 e e3 s3 t3 => ?_
    obtain ⟨rfl, rfl⟩ := e
    cases t2
    cases t3
    obtain ⟨g, xs, e, g2⟩ := s3.ok a _ hm
    exact ⟨a, xs, k, j, rfl, rfl, e, by rw [g2.length]; exact hj, q.nx G3 σ ρ _ _ h ((e1.trans e2).trans e3) (r.mono ((e1.trans e2).trans e3)) (s3.put g ⟨_, upd_same, g2.set (t1.mono (e2.trans e3)) j⟩)⟩

/-! ### what a loop walks -/
def Yl (J : Jx) (I : It) (G : Hp) (src : Mp → Prop) (ds : List D) : Prop := ∀ (i : Nat) G1 M1 H1, Same G G1 → Hs J.K G1 M1 H1 → src M1 →
  (∀ d, ds[i]? = some d → I.go i H1 ∧ ∀ v H2, I.yld i H1 v H2 → ∃ G2, Same G1 G2 ∧ Hs J.K G2 M1 H2 ∧ Dt J.K G2 v d) ∧ (ds.length ≤ i → I.stop i H1)
def Src (J : Jx) (wi : TI) (ρ : Ro) (M : Mp) (src : Mp → Prop) (ds : List D) : Prop := ∀ G σ H, Rel J.K G σ ρ → Hs J.K G M H → XOk J G → ∀ R : It → Hp → Prop, (∀ I G' H', Same G G' → Hs J.K G' M H' → Yl J I G' src ds → R I H') → wi σ H R
/-- a target takes a thing -/
def SG (J : Jx) (g : TG) (d : D) (ρ : Ro) (M : Mp) (R : Ro → Mp → Prop) : Prop := ∀ G σ H v, Rel J.K G σ ρ → Hs J.K G M H → Dt J.K G v d → ∀ Q : L2.St → Hp → Prop, (∀ G' σ' ρ' M' H', R ρ' M' → Same G G' → Rel J.K G' σ' ρ' → Hs J.K G' M' H' → Q σ' H') → g v σ H Q
theorem sg_name {R : Ro → Mp → Prop} (h : R (ρ.set i (some d)) M) : SG J (gName i) d ρ M R := fun G σ H v r s t Q q => q G _ _ M H h (Same.refl G) (r.set t i) s
def SGs (J : Jx) (g : TGs) (ds : List D) (ρ : Ro) (M : Mp) (R : Ro → Mp → Prop) : Prop := ∀ G σ H vs, Rel J.K G σ ρ → Hs J.K G M H → DtL J.K G vs ds → ∀ Q : L2.St → Hp → Prop, (∀ G' σ' ρ' M' H', R ρ' M' → Same G G' → Rel J.K G' σ' ρ' → Hs J.K G' M' H' → Q σ' H') → g vs σ H Q
theorem sgs_nil {R : Ro → Mp → Prop} (h : R ρ M) : SGs J gNil [] ρ M R := fun G σ H vs r s t Q q => by
  cases t
  exact ⟨rfl, q G σ ρ M H h (Same.refl G) r s⟩
theorem sgs_cons {g : TG} {gs : TGs} {R : Ro → Mp → Prop} (h : SG J g d ρ M fun ρ' M' => SGs J gs ds ρ' M' R) : SGs J (gCons g gs) (d :: ds) ρ M R := fun G σ H vs r s t Q q => by
  cases t with
  | cons t1 t2 =>
    refine ⟨_, _, rfl, h G σ H _ r s t1 _ fun G1 σ1 ρ1 M1 H1 h1 e1 r1 s1 => ?_⟩
    exact h1 G1 σ1 H1 _ r1 s1 (t2.mono e1) Q fun G2 σ2 ρ2 M2 H2 h2 e2 => q G2 σ2 ρ2 M2 H2 h2 (e1.trans e2)
theorem sg_tup {gs : TGs} {n : Nat} {R : Ro → Mp → Prop} (hn : ds.length = n) (h : SGs J gs ds ρ M R) : SG J (gTup J.K n gs) (.tup ds) ρ M R := fun G σ H v r s t Q q => by
  obtain ⟨a, xs, rfl, h1, h2⟩ := tup_at s t
  exact ⟨a, xs, rfl, SqT.of h1, by rw [h2.length]; exact hn, h G σ H xs r s h2 Q q⟩
/-- a, b, .. = e -/
theorem s_asgG {g : TG} (h : W J te ρ M fun d M' => SG J g d ρ M' P.nx) : S J (tAsg te g) ρ M P := fun G σ H D' r s xo q =>
  h G σ H r s xo _ fun v d G' M' H' h1 e1 s1 t1 => h1 G' σ H' v (r.mono e1) s1 t1 _ fun G2 σ2 ρ2 M2 H2 h2 e2 r2 s2 => q.nx G2 σ2 ρ2 M2 H2 h2 (e1.trans e2) r2 s2
theorem s_for {wi : TI} {g : TG} {src : Mp → Prop} (hs : Src J wi ρ M src ds) (Iv : Nat → Ro → Mp → Prop) (h0 : Iv 0 ρ M) (hsrc : ∀ i ρ' M', Iv i ρ' M' → src M')
    (step : ∀ (i : Nat) d ρ' M', ds[i]? = some d → Iv i ρ' M' → SG J g d ρ' M' fun ρ2 M2 => S J ts ρ2 M2 ⟨Iv (i + 1), P.rt, P.nx, Iv (i + 1)⟩) (done : ∀ ρ' M', Iv ds.length ρ' M' → P.nx ρ' M') : S J (tFor wi g ts) ρ M P := fun G σ H D' r s xo q =>
  hs G σ H r s xo _ fun I G1 H1 e1 s1 yl => by
    refine ⟨fun i m σ' H' => m = ds.length - i ∧ i ≤ ds.length ∧ ∃ G' ρ' M', Same G1 G' ∧ Iv i ρ' M' ∧ Rel J.K G' σ' ρ' ∧ Hs J.K G' M' H', ⟨ds.length, by simp, Nat.zero_le _, G1, ρ, M, Same.refl _, h0, r.mono e1, s1⟩, ?_⟩
    rintro i m σ' H' ⟨rfl, hi, G2, ρ2, M2, e2, v2, r2, s2⟩
    obtain ⟨y1, y2⟩ := yl i G2 M2 H' e2 s2 (hsrc _ _ _ v2)
    by_cases hlt : i < ds.length
    · have hd : ds[i]? = some ds[i] := List.getElem?_eq_getElem hlt
      obtain ⟨g1, g2⟩ := y1 _ hd
      refine .inr ⟨g1, fun σ3 H3 => ∃ G' ρ' M', Same G1 G' ∧ Iv (i + 1) ρ' M' ∧ Rel J.K G' σ3 ρ' ∧ Hs J.K G' M' H3, fun σ3 H3 w => ⟨ds.length - (i + 1), by omega, rfl, hlt, w⟩, fun v H3 yy => ?_⟩
      obtain ⟨G3, e3, s3, t3⟩ := g2 v H3 yy
      refine step i _ ρ2 M2 hd v2 G3 σ' H3 v (r2.mono e3) s3 t3 _ fun G4 σ4 ρ4 M4 H4 h4 e4 r4 s4 => ?_
      have e14 : Same G1 G4 := (e2.trans e3).trans e4
      refine h4 G4 σ4 H4 _ r4 s4 (xo.mono (e1.trans e14)) ⟨fun G' σ5 ρ5 M5 H5 h5 e5 r5 s5 => ⟨G', ρ5, M5, e14.trans e5, h5, r5, s5⟩, fun G' v d M5 H5 h5 e5 s5 t5 => q.rt G' v d M5 H5 h5 ((e1.trans e14).trans e5) s5 t5,
        fun G' σ5 ρ5 M5 H5 h5 e5 r5 s5 => q.nx G' σ5 ρ5 M5 H5 h5 ((e1.trans e14).trans e5) r5 s5, fun G' σ5 ρ5 M5 H5 h5 e5 r5 s5 => ⟨G', ρ5, M5, e14.trans e5, h5, r5, s5⟩⟩
    · have e : i = ds.length := by omega
      subst e
      exact .inl ⟨y2 (Nat.le_refl _), q.nx G2 σ' ρ2 M2 H' (done _ _ v2) (e1.trans e2) r2 s2⟩
/-! sources -/
theorem yl_list {a : Addr} {G : Hp} {src : Mp → Prop} (h : ∀ G1 M1 H1, Same G G1 → Hs J.K G1 M1 H1 → src M1 → ∃ xs, SqL J.K H1 a xs ∧ DtL J.K G1 xs ds) : Yl J (Itl J.K a) G src ds := fun i G1 M1 H1 e1 s1 k => by
  obtain ⟨xs, h1, h2⟩ := h G1 M1 H1 e1 s1 k
  refine ⟨fun d hd => ?_, fun hl => ⟨xs, h1, by rw [h2.length]; exact hl⟩⟩
  obtain ⟨v, e, t⟩ := h2.get hd
  refine ⟨⟨xs, v, h1, e⟩, fun v' H2 y => ?_⟩
  obtain ⟨rfl, y⟩ := y
  have e' := y xs h1
  rw [e] at e'
  cases e'
  exact ⟨G1, Same.refl _, s1, t⟩
/-- for .. in a frozen list or the script -/
theorem src_l (h : Ev J te ρ M x) (hx : x = .lst ds ∨ x = .frl ds) : Src J (iList J.K te) ρ M (fun _ => True) ds := fun G σ H r s xo R q =>
  h G σ H r s xo _ fun v d G1 M1 H1 e e1 s1 t1 => by
    obtain ⟨rfl, rfl⟩ := e
    have hx' : IsL M1 d ds := hx.elim .inl fun z => .inr (.inl z)
    obtain ⟨a, xs, rfl, h1, h2⟩ := hx'.at s1 t1
    refine ⟨a, rfl, ⟨xs, h1⟩, q _ G1 H1 e1 s1 (yl_list fun G2 M2 H2 e2 s2 _ => ?_)⟩
    have hx2 : IsL M2 d ds := hx.elim .inl fun z => .inr (.inl z)
    obtain ⟨a', xs', ea, h1', h2'⟩ := hx2.at s2 (t1.mono e2)
    cases ea
    exact ⟨xs', h1', h2'⟩
/-- .. in a list of the ledger, which the body leaves -/
theorem src_r {a : Addr} (h : Ev J te ρ M (.ref a)) (hm : M a = some (.lst ds)) : Src J (iList J.K te) ρ M (fun M' => M' a = some (.lst ds)) ds := fun G σ H r s xo R q =>
  h G σ H r s xo _ fun v d G1 M1 H1 e e1 s1 t1 => by
    obtain ⟨rfl, rfl⟩ := e
    cases t1
    obtain ⟨g, xs, e, g2⟩ := s1.ok a _ hm
    refine ⟨a, rfl, ⟨xs, SqL.of e⟩, q _ G1 H1 e1 s1 (yl_list fun G2 M2 H2 e2 s2 k => ?_)⟩
    obtain ⟨g, xs, e, g2⟩ := s2.ok a _ k
    exact ⟨xs, SqL.of e, g2⟩
/-- a list told by IsL -/
theorem src_L (h : Ev J te ρ M x) (hx : IsL M x ds) : Src J (iList J.K te) ρ M (fun M' => IsL M' x ds) ds := fun G σ H r s xo R q =>
  h G σ H r s xo _ fun v d G1 M1 H1 e e1 s1 t1 => by
    obtain ⟨rfl, rfl⟩ := e
    obtain ⟨a, xs, rfl, h1, h2⟩ := hx.at s1 t1
    refine ⟨a, rfl, ⟨xs, h1⟩, q _ G1 H1 e1 s1 (yl_list fun G2 M2 H2 e2 s2 k => ?_)⟩
    obtain ⟨a', xs', ea, h1', h2'⟩ := k.at s2 (t1.mono e2)
    cases ea
    exact ⟨xs', h1', h2'⟩
theorem src_t (h : Ev J te ρ M (.tup ds)) : Src J (iTup J.K te) ρ M (fun _ => True) ds := fun G σ H r s xo R q =>
  h G σ H r s xo _ fun v d G1 M1 H1 e e1 s1 t1 => by
    obtain ⟨rfl, rfl⟩ := e
    obtain ⟨a, xs, rfl, h1, h2⟩ := tup_at s1 t1
    refine ⟨a, rfl, ⟨xs, SqT.of h1⟩, q _ G1 H1 e1 s1 fun i G2 M2 H2 e2 s2 _ => ?_⟩
    obtain ⟨a', xs', ea, h1', h2'⟩ := tup_at s2 (t1.mono e2)
    cases ea
    refine ⟨fun d hd => ?_, fun hl => ⟨xs', SqT.of h1', by rw [h2'.length]; exact hl⟩⟩
    obtain ⟨v, e, t⟩ := h2'.get hd
    refine ⟨⟨xs', v, SqT.of h1', e⟩, fun v' H3 y => ?_⟩
    obtain ⟨rfl, y⟩ := y
    have e' := y xs' (SqT.of h1')
    rw [e] at e'
    cases e'
    exact ⟨G2, Same.refl _, s2, t⟩
/-- the ints of a range -/
def rng (lo : Int) (n : Nat) : List D := (List.range n).map fun (k : Nat) => D.int (lo + (k : Int))
theorem rng_len {lo : Int} {n : Nat} : (rng lo n).length = n := by simp [rng]
theorem rng_get {lo : Int} {n i : Nat} {d : D} (h : (rng lo n)[i]? = some d) : i < n ∧ d = .int (lo + (i : Int)) := by
  have hl : i < n := by have := (List.getElem?_eq_some_iff.mp h).1; rw [rng_len] at this; exact this
  refine ⟨hl, ?_⟩
  unfold rng at h
  rw [List.getElem?_map, List.getElem?_range hl] at h
  exact (Option.some.inj h).symm
theorem yl_rng {G : Hp} {lo : Int} {n : Nat} : Yl J (Itr lo n) G (fun _ => True) (rng lo n) := fun i G1 M1 H1 e1 s1 _ => by
  refine ⟨fun d hd => ?_, fun hl => by rw [rng_len] at hl; exact hl⟩
  obtain ⟨h1, rfl⟩ := rng_get hd
  refine ⟨h1, fun v H2 y => ?_⟩
  obtain ⟨rfl, rfl⟩ := y
  exact ⟨G1, Same.refl _, s1, .int _⟩
theorem src_rng1 {n : Int} (h : Ev J te ρ M (.int n)) (h1 : -(2 ^ 62) ≤ n) (h2 : n < 2 ^ 62) : Src J (iRng1 (tCons te tNil)) ρ M (fun _ => True) (rng 0 n.toNat) := fun G σ H r s xo R q =>
  (ea_cons h ea_nil) G σ H r s xo _ fun vs ds G1 M1 H1 e e1 s1 t1 => by
    obtain ⟨rfl, rfl⟩ := e
    cases t1 with
    | cons t1 t2 =>
      cases t1; cases t2
      exact ⟨n, rfl, h1, h2, q _ G1 H1 e1 s1 yl_rng⟩
theorem src_rng2 {m n : Int} (h : Ev J ta ρ M (.int m)) (h' : Ev J tb ρ M (.int n)) (hb : -(2 ^ 62) ≤ m ∧ m < 2 ^ 62 ∧ -(2 ^ 62) ≤ n ∧ n < 2 ^ 62) : Src J (iRng2 (tCons ta (tCons tb tNil))) ρ M (fun _ => True) (rng m (n - m).toNat) := fun G σ H r s xo R q =>
  (ea_cons h (ea_cons h' ea_nil)) G σ H r s xo _ fun vs ds G1 M1 H1 e e1 s1 t1 => by
    obtain ⟨rfl, rfl⟩ := e
    cases t1 with
    | cons t1 t2 =>
      cases t2 with
      | cons t2 t3 =>
        cases t1; cases t2; cases t3
        exact ⟨m, n, rfl, hb, q _ G1 H1 e1 s1 yl_rng⟩
/-- two lists side by side -/
def zipD : List D → List D → List D
  | x :: xs, y :: ys => .tup [x, y] :: zipD xs ys
  | _, _ => []
theorem zipD_len : ∀ xs ys : List D, (zipD xs ys).length = min xs.length ys.length
  | [], _ => by simp [zipD]
  | _ :: _, [] => by simp [zipD]
  | x :: xs, y :: ys => by simp [zipD, zipD_len xs ys]
theorem zipD_get : ∀ {xs ys : List D} {i : Nat} {d : D}, (zipD xs ys)[i]? = some d → ∃ x y, xs[i]? = some x ∧ ys[i]? = some y ∧ d = .tup [x, y]
  | [], _, i, d, h => by simp [zipD] at h
  | _ :: _, [], i, d, h => by simp [zipD] at h
  | x :: xs, y :: ys, 0, d, h => ⟨x, y, rfl, rfl, (Option.some.inj h).symm⟩
  | x :: xs, y :: ys, i + 1, d, h => zipD_get (xs := xs) (ys := ys) (i := i) h
theorem src_zip (h : Ev J ta ρ M x) (h' : Ev J tb ρ M y) (hx : IsL M x ds) (hy : IsL M y es) : Src J (iZip J.K (tCons ta (tCons tb tNil))) ρ M (fun M' => IsL M' x ds ∧ IsL M' y es) (zipD ds es) := fun G σ H r s xo R q =>
  (ea_cons h (ea_cons h' ea_nil)) G σ H r s xo _ fun vs dd G1 M1 H1 e e1 s1 t1 => by
    obtain ⟨rfl, rfl⟩ := e
    cases t1 with
    | cons t1 t2 =>
      cases t2 with
      | cons t2 t3 =>
        cases t3
        obtain ⟨a, xs, rfl, h1, h2⟩ := hx.at s1 t1
        obtain ⟨c, ys, rfl, k1, k2⟩ := hy.at s1 t2
        refine ⟨a, c, xs, ys, rfl, h1, k1, q _ G1 H1 e1 s1 fun i G2 M2 H2 e2 s2 k => ?_⟩
        obtain ⟨a', xs', ea, h1', h2'⟩ := k.1.at s2 (t1.mono e2)
        cases ea
        obtain ⟨c', ys', ec, k1', k2'⟩ := k.2.at s2 (t2.mono e2)
        cases ec
        refine ⟨fun d hd => ?_, fun hl => ⟨xs', ys', h1', k1', by rw [zipD_len] at hl; rw [h2'.length, k2'.length]; omega⟩⟩
        obtain ⟨x1, y1, ex, ey, rfl⟩ := zipD_get hd
        obtain ⟨v, f1, f2⟩ := h2'.get ex
        obtain ⟨w, f3, f4⟩ := k2'.get ey
        refine ⟨⟨xs', ys', v, w, h1', k1', f1, f3⟩, fun v' H3 yy => ?_⟩
        obtain ⟨T, v2, w2, rfl, hT, rfl, g1, g2⟩ := yy
        have e' := g1 xs' h1'
        rw [f1] at e'
        cases e'
        have e' := g2 ys' k1'
        rw [f3] at e'
        cases e'
        obtain ⟨e3, s3⟩ := s2.froz (o := .tup [v, w]) hT
        exact ⟨_, e3, s3, .tup upd_same (.cons (f2.mono e3) (.cons (f4.mono e3) .nil))⟩
theorem s_while {W : Nat → Ro → Mp → Prop} (m0 : Nat) (h0 : W m0 ρ M) (step : ∀ m ρ' M', W m ρ' M' → WT J tt ρ' M' fun b M1 => (b = true → S J ts ρ' M1 ⟨fun ρ2 M2 => ∃ m', m' < m ∧ W m' ρ2 M2, P.rt, P.nx, fun ρ2 M2 => ∃ m', m' < m ∧ W m' ρ2 M2⟩) ∧ (b = false → P.nx ρ' M1)) :
    S J (tWhile tt ts) ρ M P := fun G σ H D' r s xo q => by
  refine ⟨fun m σ' H' => ∃ G' ρ' M', Same G G' ∧ W m ρ' M' ∧ Rel J.K G' σ' ρ' ∧ Hs J.K G' M' H', ⟨m0, G, ρ, M, Same.refl _, h0, r, s⟩, ?_⟩
  rintro m σ' H' ⟨G1, ρ1, M1, e1, w1, r1, s1⟩
  refine step m ρ1 M1 w1 G1 σ' H' r1 s1 (xo.mono e1) _ fun b G2 M2 H2 h2 e2 s2 => ?_
  cases b with
  | true =>
    rw [if_pos rfl]
    refine ⟨fun σ3 H3 => ∃ G' ρ' M', Same G G' ∧ (∃ m', m' < m ∧ W m' ρ' M') ∧ Rel J.K G' σ3 ρ' ∧ Hs J.K G' M' H3, fun σ3 H3 ⟨G', ρ', M', e, ⟨m', l, w⟩, r3, s3⟩ => ⟨m', l, G', ρ', M', e, w, r3, s3⟩, ?_⟩
    exact h2.1 rfl G2 σ' H2 _ (r1.mono e2) s2 (xo.mono (e1.trans e2)) ⟨fun G' σ5 ρ5 M5 H5 h5 e5 r5 s5 => ⟨G', ρ5, M5, (e1.trans e2).trans e5, h5, r5, s5⟩, fun G' v d M5 H5 h5 e5 s5 t5 => q.rt G' v d M5 H5 h5 ((e1.trans e2).trans e5) s5 t5,
      fun G' σ5 ρ5 M5 H5 h5 e5 r5 s5 => q.nx G' σ5 ρ5 M5 H5 h5 ((e1.trans e2).trans e5) r5 s5, fun G' σ5 ρ5 M5 H5 h5 e5 r5 s5 => ⟨G', ρ5, M5, (e1.trans e2).trans e5, h5, r5, s5⟩⟩
  | false =>
    rw [if_neg Bool.false_ne_true]
    exact q.nx G2 σ' ρ1 M2 H2 (h2.2 rfl) (e1.trans e2) (r1.mono e2) s2

/-! ### comprehensions -/
theorem en_lc {α : Type} {wi : TI} {src : Mp → Prop} (xs : List α) (em : α → D) (c : α → Bool) (f : α → D) (hs : Src J wi ρ M src (xs.map em)) (hsrc : ∀ M', Sub M M' → src M') (hl : xs.length < sizeLine)
    (ht : ∀ M1 x, Sub M M1 → x ∈ xs → ET J tt (ρ.set i (some (em x))) M1 (c x)) (he : ∀ M1 x, Sub M M1 → x ∈ xs → c x = true → Ev J te (ρ.set i (some (em x))) M1 (f x)) : EvN J (tLc wi (gName i) tt te [i]) ρ M ((xs.filter c).map f) := fun G σ H r s xo Q q =>
  hs G σ H r s xo _ fun I G1 H1 e1 s1 yl Dl hD => by
    have mD := s1.none_m hD
    refine ⟨fun k m H' => m = xs.length - k ∧ k ≤ xs.length ∧ ∃ G', Same G1 G' ∧ Hs J.K G' (ud M Dl (.lst (((xs.take k).filter c).map f))) H', ⟨xs.length, by simp, Nat.zero_le _, G1, Same.refl _, s1.new hD ⟨[], upd_same, .nil⟩⟩, ?_⟩
    rintro k m H' ⟨rfl, hk, G2, e2, s2⟩
    have sb := Sub.new (o := .lst (((xs.take k).filter c).map f)) mD
    obtain ⟨y1, y2⟩ := yl k G2 _ H' e2 s2 (hsrc _ sb)
    by_cases hlt : k < xs.length
    · have hx : xs[k]? = some xs[k] := List.getElem?_eq_getElem hlt
      have hm : xs[k] ∈ xs := List.getElem_mem hlt
      obtain ⟨g1, g2⟩ := y1 (em xs[k]) (by rw [List.getElem?_map, hx]; rfl)
      have tk : xs.take (k + 1) = xs.take k ++ [xs[k]] := (List.take_append_getElem hlt).symm
      refine .inr ⟨g1, fun H3 => ∃ G', Same G1 G' ∧ Hs J.K G' (ud M Dl (.lst (((xs.take (k + 1)).filter c).map f))) H3, fun H3 w => ⟨xs.length - (k + 1), by omega, rfl, hlt, w⟩, fun v H3 yy => ?_⟩
      obtain ⟨G3, e3, s3, t3⟩ := g2 v H3 yy
      have e13 : Same G G3 := (e1.trans e2).trans e3
      have r3 : Rel J.K G3 ((wipe σ [i]).set i (some v)) (ρ.set i (some (em xs[k]))) := by
        have q1 := ((r.mono e13).wipe [i]).set t3 i
        have q2 : (wipeD ρ [i]).set i (some (em xs[k])) = ρ.set i (some (em xs[k])) := by
          show (ρ.set i none).set i (some (em xs[k])) = _
          rw [List.set_set]
        rw [q2] at q1
        exact q1
      refine ⟨?_, ?_⟩
      · show (((σ.set i none).set i (some v)).set i none) = σ.set i none
        rw [List.set_set, List.set_set]
      refine ht _ _ sb hm G3 _ H3 r3 s3 (xo.mono e13) _ fun b G4 M4 H4 e e4 s4 => ?_
      obtain ⟨rfl, rfl⟩ := e
      cases hc : c xs[k] with
      | true =>
        rw [if_pos rfl]
        refine he _ _ sb hm hc G4 _ H4 (r3.mono e4) s4 (xo.mono (e13.trans e4)) _ fun v5 d5 G5 M5 H5 e e5 s5 t5 => ?_
        obtain ⟨rfl, rfl⟩ := e
        obtain ⟨g, acc, ea, ga⟩ := s5.ok Dl _ ud_same
        refine ⟨acc, ea, ?_, G5, ((e2.trans e3).trans e4).trans e5, ?_⟩
        · have e1 := ga.length
          have e2 := List.length_filter_le c (xs.take k)
          rw [List.length_map] at e1
          rw [List.length_take] at e2
          omega
        · have s6 := s5.put (p := Dl) (o := .lst (acc ++ [v5])) (m := .lst (((xs.take k).filter c).map f ++ [f xs[k]])) g ⟨_, upd_same, ga.append (.cons t5 .nil)⟩
          rw [ud_ud] at s6
          have ee : ((xs.take (k + 1)).filter c).map f = ((xs.take k).filter c).map f ++ [f xs[k]] := by
            rw [tk, List.filter_append, List.map_append, List.filter_cons, if_pos hc]
            rfl
          rw [ee]
          exact s6
      | false =>
        rw [if_neg Bool.false_ne_true]
        refine ⟨G4, (e2.trans e3).trans e4, ?_⟩
        have ee : ((xs.take (k + 1)).filter c).map f = ((xs.take k).filter c).map f := by
          rw [tk, List.filter_append, List.map_append, List.filter_cons, if_neg (by rw [hc]; decide)]
          show _ ++ [] = _
          rw [List.append_nil]
        rw [ee]
        exact s4
    · have e : k = xs.length := by omega
      subst e
      rw [List.take_length] at s2
      exact .inl ⟨y2 (by rw [List.length_map]; exact Nat.le_refl _), q _ _ G2 _ H' ⟨Dl, mD, rfl, rfl⟩ (e1.trans e2) s2 (.ref Dl)⟩
/-- without tests -/
theorem en_lc1 {α : Type} {wi : TI} {src : Mp → Prop} (xs : List α) (em : α → D) (f : α → D) (hs : Src J wi ρ M src (xs.map em)) (hsrc : ∀ M', Sub M M' → src M') (hl : xs.length < sizeLine)
    (he : ∀ M1 x, Sub M M1 → x ∈ xs → Ev J te (ρ.set i (some (em x))) M1 (f x)) : EvN J (tLc wi (gName i) tYes te [i]) ρ M (xs.map f) := by
  have h := en_lc (J := J) (tt := tYes) (te := te) (ρ := ρ) (i := i) xs em (fun _ => true) f hs hsrc hl (fun M1 x _ _ G σ H r s xo Q q => q true G M1 H ⟨rfl, rfl⟩ (Same.refl G) s) fun M1 x a b _ => he M1 x a b
  rw [List.filter_eq_self.mpr (fun _ _ => rfl)] at h
  exact h
end

/-! ### objects -/
def putD (f : Str) (v : D) : List (Str × D) → List (Str × D)
  | [] => [(f, v)]
  | (g, x) :: r => if g = f then (g, v) :: r else (g, x) :: putD f v r
section
variable {K : PySem.W.Frag} {G : Hp}
theorem look_dt {f : Str} : ∀ {gs : List (Str × V)} {fs : List (Str × D)} {d : D}, gs.map (·.1) = fs.map (·.1) → DtL K G (gs.map (·.2)) (fs.map (·.2)) → fs.lookup f = some d → ∃ v, gs.lookup f = some v ∧ Dt K G v d
  | [], [], d, _, _, h => by cases h
  | [], _ :: _, d, e, _, h => by cases e
  | _ :: _, [], d, e, _, h => by cases e
  | (g, v) :: gs, (g', y) :: fs, d, e, t, h => by
    rw [List.map_cons, List.map_cons] at e t
    cases t with
    | cons t1 t2 =>
      have e1 : g = g' := (List.cons.inj e).1
      subst e1
      rw [List.lookup_cons] at h ⊢
      cases q : f == g with
      | true =>
        rw [q] at h
        cases h
        exact ⟨v, rfl, t1⟩
      | false =>
        rw [q] at h
        exact look_dt (List.cons.inj e).2 t2 h
theorem look_dtN {f : Str} : ∀ {gs : List (Str × V)} {fs : List (Str × D)}, gs.map (·.1) = fs.map (·.1) → fs.lookup f = none → gs.lookup f = none
  | [], [], _, h => rfl
  | [], _ :: _, e, h => by cases e
  | _ :: _, [], e, h => by cases e
  | (g, v) :: gs, (g', y) :: fs, e, h => by
    rw [List.map_cons, List.map_cons] at e
    have e1 : g = g' := (List.cons.inj e).1
    subst e1
    rw [List.lookup_cons] at h ⊢
    cases q : f == g with
    | true => rw [q] at h; cases h
    | false =>
      rw [q] at h
      exact look_dtN (List.cons.inj e).2 h
theorem put_dt {f : Str} {v : V} {d : D} (r : Dt K G v d) : ∀ {gs : List (Str × V)} {fs : List (Str × D)}, gs.map (·.1) = fs.map (·.1) → DtL K G (gs.map (·.2)) (fs.map (·.2)) → (putF f v gs).map (·.1) = (putD f d fs).map (·.1) ∧ DtL K G ((putF f v gs).map (·.2)) ((putD f d fs).map (·.2))
  | [], [], _, _ => ⟨rfl, .cons r .nil⟩
  | [], _ :: _, e, _ => by cases e
  | _ :: _, [], e, _ => by cases e
  | (g, v') :: gs, (g', y) :: fs, e, t => by
    rw [List.map_cons, List.map_cons] at e t
    cases t with
    | cons t1 t2 =>
      have e1 : g = g' := (List.cons.inj e).1
      subst e1
      unfold putF putD
      by_cases q : g = f
      · rw [if_pos q, if_pos q]
        exact ⟨by rw [List.map_cons, List.map_cons, (List.cons.inj e).2], .cons r t2⟩
      · rw [if_neg q, if_neg q]
        obtain ⟨k1, k2⟩ := put_dt r (List.cons.inj e).2 t2
        exact ⟨by rw [List.map_cons, List.map_cons, k1], .cons t1 k2⟩
theorem Hs.ins {M : Mp} {H : Hp} {a C : Addr} {fs : List (Str × D)} (s : Hs K G M H) (h : M a = some (.ins C fs)) : ∃ dx gs, H a = some (.ins C dx gs) ∧ gs.map (·.1) = fs.map (·.1) ∧ DtL K G (gs.map (·.2)) (fs.map (·.2)) := (s.ok a _ h).2
end
section
variable {J : Jx} {te ta tb to tv : TE} {t : TA} {ρ : Ro} {M : Mp} {d x y z : D} {ds es : List D} {P : Po} {R : D → Mp → Prop} {a C : Addr} {fs : List (Str × D)} {f m : Str}
theorem ev_fld (h : Ev J ta ρ M (.ref a)) (hm : M a = some (.ins C fs)) (c : Cls J.K C) (n : NoAttr J.K C f) (l : fs.lookup f = some d) : Ev J (tFld J.K ta f) ρ M d := fun G σ H r s xo Q q => h G σ H r s xo _ fun v d' G1 M1 H1 e e1 s1 t1 => by
  obtain ⟨rfl, rfl⟩ := e
  cases t1
  obtain ⟨dx, gs, g1, g2, g3⟩ := s1.ins hm
  obtain ⟨u, l1, l2⟩ := look_dt g2 g3 l
  exact ⟨a, C, dx, gs, u, rfl, g1, c, n, l1, q _ _ G1 _ H1 ⟨rfl, rfl⟩ e1 s1 l2⟩
theorem s_fld (hv : Ev J tv ρ M x) (h : Ev J ta ρ M (.ref a)) (hm : M a = some (.ins C fs)) (c : Cls J.K C) (n : NoAttr J.K C f) (hl : fs.length < 1000) (k : P.nx ρ (ud M a (.ins C (putD f x fs)))) : S J (sFld J.K ta tv f) ρ M P := fun G σ H D' r s xo q =>
  hv G σ H r s xo _ fun v d G1 M1 H1 e e1 s1 t1 => by
    obtain ⟨rfl, rfl⟩ := e
    refine h G1 σ H1 (r.mono e1) s1 (xo.mono e1) _ fun v2 d2 G2 M2 H2 e e2 s2 t2 => ?_
    obtain ⟨rfl, rfl⟩ := e
    cases t2
    obtain ⟨g, dx, gs, g1, g2, g3⟩ := s2.ok a _ hm
    have hl' : gs.length < 1000 := by
      have e := congrArg List.length g2
      rw [List.length_map, List.length_map] at e
      omega
    obtain ⟨k1, k2⟩ := put_dt (f := f) (t1.mono e2) g2 g3
    exact ⟨a, C, dx, gs, rfl, g1, c, n, hl', q.nx G2 σ ρ _ _ k (e1.trans e2) (r.mono (e1.trans e2)) (s2.put g ⟨dx, _, upd_same, k1, k2⟩)⟩
/-- a field gets a new value that may change the ledger -/
theorem s_fldW (hv : W J tv ρ M fun x M1 => Ev J ta ρ M1 (.ref a) ∧ ∃ fs, M1 a = some (.ins C fs) ∧ fs.length < 1000 ∧ P.nx ρ (ud M1 a (.ins C (putD f x fs)))) (c : Cls J.K C) (n : NoAttr J.K C f) : S J (sFld J.K ta tv f) ρ M P := fun G σ H D' r s xo q =>
  hv G σ H r s xo _ fun v d G1 M1 H1 hh e1 s1 t1 => by
    obtain ⟨h, fs, hm, hl, k⟩ := hh
    refine h G1 σ H1 (r.mono e1) s1 (xo.mono e1) _ fun v2 d2 G2 M2 H2 e e2 s2 t2 => ?_
    obtain ⟨rfl, rfl⟩ := e
    cases t2
    obtain ⟨g, dx, gs, g1, g2, g3⟩ := s2.ok a _ hm
    have hl' : gs.length < 1000 := by
      have e := congrArg List.length g2
      rw [List.length_map, List.length_map] at e
      omega
    obtain ⟨k1, k2⟩ := put_dt (f := f) (t1.mono e2) g2 g3
    exact ⟨a, C, dx, gs, rfl, g1, c, n, hl', q.nx G2 σ ρ _ _ k (e1.trans e2) (r.mono (e1.trans e2)) (s2.put g ⟨dx, _, upd_same, k1, k2⟩)⟩
theorem w_meth {Rf : Pr} {E : XK} (xe : Addr → Mp → Prop) (hx : ∀ G : Hp, XOk J G → ∀ c M' (G' H' : Hp), xe c M' → Same G G' → Hs J.K G' M' H' → E (.ref c) none H') (h : W J ta ρ M fun x M1 => ∃ a fs, x = .ref a ∧ M1 a = some (.ins C fs) ∧ fs.lookup m = none ∧ WA J t ρ M1 fun ds M2 => Rf (x :: ds) M2 R xe) : W J (tMeth C m (spD J.K Rf) [] E ta t) ρ M R := fun G σ H r s xo Q q =>
  h G σ H r s xo _ fun v d G1 M1 H1 h1 e1 s1 t1 => by
    obtain ⟨a, fs, rfl, hm, l, h1⟩ := h1
    cases t1
    obtain ⟨dx, gs, g1, g2, g3⟩ := s1.ins hm
    refine ⟨a, dx, gs, rfl, g1, look_dtN g2 l, h1 G1 σ H1 (r.mono e1) s1 (xo.mono e1) _ fun vs ds G2 M2 H2 h2 e2 s2 t2 => ?_⟩
    rw [List.append_nil]
    exact ⟨G2, M2, _, R, xe, s2, .cons (.ref a) t2, h2, q.mono (e1.trans e2), hx G2 (xo.mono (e1.trans e2))⟩
/-- a method that lets nothing out -/
theorem w_meth0 {Rf : Pr} {E : XK} (h : Ev J ta ρ M (.ref a)) (hm : M a = some (.ins C fs)) (l : fs.lookup m = none) (ha : EvA J t ρ M ds) (k : Rf (.ref a :: ds) M R noX) : W J (tMeth C m (spD J.K Rf) [] E ta t) ρ M R :=
  w_meth noX (fun G _ => fun _ _ _ _ z => z.elim) (h.w ⟨a, fs, rfl, hm, l, ha.w k⟩)
/-- .. that may raise -/
theorem w_methX {Rf : Pr} {K : PySem.W.Frag} {E : XK} {xe : Addr → Mp → Prop} (h : Ev (JX K E xe) ta ρ M (.ref a)) (hm : M a = some (.ins C fs)) (l : fs.lookup m = none) (ha : EvA (JX K E xe) t ρ M ds) (k : Rf (.ref a :: ds) M R xe) : W (JX K E xe) (tMeth C m (spD K Rf) [] E ta t) ρ M R := fun G σ H r s xo Q q =>
  h G σ H r s xo _ fun v d G1 M1 H1 h1 e1 s1 t1 => by
    obtain ⟨rfl, rfl⟩ := h1
    cases t1
    obtain ⟨dx, gs, g1, g2, g3⟩ := s1.ins hm
    refine ⟨a, dx, gs, rfl, g1, look_dtN g2 l, ha G1 σ H1 (r.mono e1) s1 (xo.mono e1) _ fun vs ds G2 M2 H2 h2 e2 s2 t2 => ?_⟩
    obtain ⟨rfl, rfl⟩ := h2
    rw [List.append_nil]
    exact ⟨G2, M2, _, R, xe, s2, .cons (.ref a) t2, k, q.mono (e1.trans e2), fun c M' G' H' x s' kk => xo c M' G' H' σ ρ x ((e1.trans e2).trans s') (r.mono ((e1.trans e2).trans s')) kk⟩
/-- C(..) -/
theorem w_make {Rf : Pr} {E : XK} (ha : EvA J t ρ M ds) (k : ∀ p, M p = none → Rf (.ref p :: ds) (ud M p (.ins C [])) (fun d M' => d = .non ∧ R (.ref p) M') noX) : W J (tMake C (spD J.K Rf) [] E t) ρ M R := fun G σ H r s xo Q q =>
  ha G σ H r s xo _ fun vs ds' G1 M1 H1 e e1 s1 t1 p dx hp hdx hne => by
    obtain ⟨rfl, rfl⟩ := e
    have s2 := s1.junk (o := .own p) hdx
    have hp2 : (upd H1 dx (.own p)) p = none := by rw [upd_ne (fun z => hne z.symm)]; exact hp
    have s3 := s2.new (o := .ins C dx []) (m := .ins C []) hp2 ⟨dx, [], upd_same, rfl, .nil⟩
    rw [List.append_nil]
    refine ⟨G1, _, _, _, noX, s3, .cons (.ref p) t1, k p (s1.none_m hp), fun v d G' M' H' h' e' s' t' => ?_, fun _ _ _ _ z => z.elim⟩
    obtain ⟨rfl, h'⟩ := h'
    cases t'
    exact ⟨rfl, q _ _ G' M' H' h' (e1.trans e') s' (.ref p)⟩
theorem w_makeX {Rf : Pr} {K : PySem.W.Frag} {E : XK} {xe : Addr → Mp → Prop} (ha : EvA (JX K E xe) t ρ M ds) (k : ∀ p, M p = none → Rf (.ref p :: ds) (ud M p (.ins C [])) (fun d M' => d = .non ∧ R (.ref p) M') xe) : W (JX K E xe) (tMake C (spD K Rf) [] E t) ρ M R := fun G σ H r s xo Q q =>
  ha G σ H r s xo _ fun vs ds' G1 M1 H1 e e1 s1 t1 p dx hp hdx hne => by
    obtain ⟨rfl, rfl⟩ := e
    have s2 := s1.junk (o := .own p) hdx
    have hp2 : (upd H1 dx (.own p)) p = none := by rw [upd_ne (fun z => hne z.symm)]; exact hp
    have s3 := s2.new (o := .ins C dx []) (m := .ins C []) hp2 ⟨dx, [], upd_same, rfl, .nil⟩
    rw [List.append_nil]
    refine ⟨G1, _, _, _, xe, s3, .cons (.ref p) t1, k p (s1.none_m hp), fun v d G' M' H' h' e' s' t' => ?_, fun c M' G' H' x s' kk => xo c M' G' H' σ ρ x (e1.trans s') (r.mono (e1.trans s')) kk⟩
    obtain ⟨rfl, h'⟩ := h'
    cases t'
    exact ⟨rfl, q _ _ G' M' H' h' (e1.trans e') s' (.ref p)⟩
end

/-! ### a def -/
section
open PySem.Spec PyProof.Rows
variable {P : Program} {w : World} {K : PySem.W.Frag} {mg : Str → Option Value} {base : Heap}
theorem fn_dl {x qual : Str} {st : Stmt} {f : Addr} {fd : FuncData} {N ps : List Str} {k : Nat} {Rf : Pr} (F : Fun K x qual st f fd) (Sc : FnScope N ps (defScope st)) (len : ∀ ds M nx xe, Rf ds M nx xe → ds.length = ps.length)
    (hbody : ∀ (cdv : Value) (A : Around) (outer : List Env) (s : Shared) (H : Hp) (E : XK), Room k (A.deeper (envOfC qual (defScope st) s.heap.objs.size f cdv)) →
      ∃ t, PSs (cxOf CX0 P w K mg base N qual (defScope st) f cdv A outer s H E).nox (defBody st) t ∧ ∀ ds M nx xe, Rf ds M nx xe → S (J0 K) t (startD N ds) M { nx := fun _ M' => nx .non M', rt := nx }) : FnOk P w K mg base CX0 (k + 1) f fd ps (spD K Rf) := by
  refine F.ok Sc (fun vs H Q E h => ?_) (fun cdv A outer s H vs Q E hr h => ?_)
  · obtain ⟨G, M, ds, nx, xe, hs, hd, hR, _⟩ := h
    rw [hd.length]
    exact len ds M nx xe hR
  · obtain ⟨G, M, ds, nx, xe, hs, hd, hR, kn, kx⟩ := h
    obtain ⟨t, ht, hS⟩ := hbody cdv A outer s H E hr
    refine ⟨t, ht, hS ds M nx xe hR G _ H _ (rel_start N hd) hs (fun _ _ _ _ _ _ z => z.elim) ⟨fun G' σ' ρ' M' H' h1 e1 r1 s1 => ?_, fun G' v d M' H' h1 e1 s1 t1 => kn v d G' M' H' h1 e1 s1 t1, fun G' σ' ρ' M' H' h1 => False.elim h1, fun G' σ' ρ' M' H' h1 => False.elim h1⟩⟩
    exact kn .non .non G' M' H' h1 e1 s1 .non
end
end DL

namespace DL
open PySem L2
/-! ### great ints -/
/-- at most n bits -/
def Bt (n : Nat) (i : Int) : Prop := Builtin.Int.intBits i ≤ n
theorem bt_iff {n : Nat} {i : Int} : Bt n i ↔ i.natAbs < 2 ^ n := by
  unfold Bt Builtin.Int.intBits
  by_cases h : i = 0
  · rw [if_pos (by simpa using h), h]
    constructor
    · intro _; exact Nat.two_pow_pos n
    · intro _; exact Nat.zero_le _
  · rw [if_neg (by simpa using h)]
    have h0 : i.natAbs ≠ 0 := by omega
    constructor
    · intro q
      exact (Nat.log2_lt h0).mp (by omega)
    · intro q
      have := (Nat.log2_lt h0).mpr q
      omega
theorem Bt.mono {n m : Nat} {i : Int} (h : Bt n i) (l : n ≤ m) : Bt m i := Nat.le_trans h l
theorem Bt.of_le {n : Nat} {i j : Int} (h : Bt n i) (l : j.natAbs ≤ i.natAbs) : Bt n j := bt_iff.mpr (Nat.lt_of_le_of_lt l (bt_iff.mp h))
theorem Bt.add {n : Nat} {i j : Int} (h : Bt n i) (k : Bt n j) : Bt (n + 1) (i + j) := by
  have a := bt_iff.mp h
  have b := bt_iff.mp k
  refine bt_iff.mpr ?_
  rw [Nat.pow_succ]
  omega
theorem Bt.neg {n : Nat} {i : Int} (h : Bt n i) : Bt n (-i) := h.of_le (by omega)
theorem Bt.sub {n : Nat} {i j : Int} (h : Bt n i) (k : Bt n j) : Bt (n + 1) (i - j) := by
  rw [Int.sub_eq_add_neg]; exact h.add k.neg
theorem Bt.mul {n m : Nat} {i j : Int} (h : Bt n i) (k : Bt m j) : Bt (n + m) (i * j) := by
  have a := bt_iff.mp h
  have b := bt_iff.mp k
  refine bt_iff.mpr ?_
  rw [Int.natAbs_mul, Nat.pow_add]
  exact Nat.mul_lt_mul'' a b
theorem Bt.div {n : Nat} {i j : Int} (h : Bt n i) (hj : 0 < j) : Bt n (i / j) := by
  refine h.of_le ?_
  rcases Int.le_total 0 i with h0 | h0
  · have a := Int.ediv_nonneg h0 (Int.le_of_lt hj)
    have b : i / j ≤ i := Int.ediv_le_self j h0
    omega
  · have a : i / j ≤ 0 := by
      have := Int.ediv_le_ediv hj h0
      rw [Int.zero_ediv] at this
      exact this
    have b : i ≤ i / j := by
      refine (Int.le_ediv_iff_mul_le hj).mpr ?_
      have e : i * j ≤ i * 1 := Int.mul_le_mul_of_nonpos_left h0 (by omega)
      rw [Int.mul_one] at e
      exact e
    omega
theorem Bt.mod {n : Nat} {i j : Int} (k : Bt n j) (hj : 0 < j) : Bt n (i % j) := by
  refine k.of_le ?_
  have a := Int.emod_nonneg i (by omega : j ≠ 0)
  have b := Int.emod_lt_of_pos i hj
  omega
theorem bt_of_lt {n : Nat} {i : Int} (h : i.natAbs < 2 ^ n) : Bt n i := bt_iff.mpr h
theorem bt_small {n : Nat} {i : Int} (h1 : -(2 ^ n : Nat) < i) (h2 : i < (2 ^ n : Nat)) : Bt n i := bt_iff.mpr (by omega)
theorem bt16 {i : Int} (h1 : -65536 < i) (h2 : i < 65536) : Bt 16 i := by
  have e : (2 : Nat) ^ 16 = 65536 := by decide
  refine bt_iff.mpr ?_
  rw [e]
  omega
theorem bt32 {i : Int} (h1 : -4294967296 < i) (h2 : i < 4294967296) : Bt 32 i := by
  have e : (2 : Nat) ^ 32 = 4294967296 := by decide
  refine bt_iff.mpr ?_
  rw [e]
  omega
def CMulA (i j : Int) : Prop := Builtin.Int.intBits i + Builtin.Int.intBits j ≤ 134217728
theorem CMulA.ok {i j : Int} (h : CMulA i j) : IntMulOk i j := by
  have h' : Builtin.Int.intBits i + Builtin.Int.intBits j ≤ 134217728 := h
  have e : bitsLine = 134217728 := by decide
  unfold IntMulOk
  intro z
  rw [Bool.and_eq_true] at z
  have z2 := z.2
  unfold Builtin.Int.intTooBig at z2
  have z3 := of_decide_eq_true z2
  rw [e] at z3
  omega
theorem mulA {n m : Nat} {i j : Int} (h : Bt n i) (k : Bt m j) (l : n + m ≤ 134217728) : CMulA i j := by
  have a : Builtin.Int.intBits i ≤ n := h
  have b : Builtin.Int.intBits j ≤ m := k
  show Builtin.Int.intBits i + Builtin.Int.intBits j ≤ 134217728
  omega
theorem cmulD {i j : Int} (h : decide (Builtin.Int.intBits i + Builtin.Int.intBits j ≤ 134217728) = true) : CMulA i j := (show Builtin.Int.intBits i + Builtin.Int.intBits j ≤ 134217728 from of_decide_eq_true h)
def CPowW (i j : Int) : Prop := 0 ≤ j ∧ (Builtin.Int.intBits i : Int) * j ≤ 2 ^ 27
theorem cpowD {i j : Int} (h0 : decide (0 ≤ j) = true) (h : decide ((Builtin.Int.intBits i : Int) * j ≤ 2 ^ 27) = true) : CPowW i j := ⟨of_decide_eq_true h0, of_decide_eq_true h⟩
section
open PySem.Spec PyProof.Rows
variable {X : Cx}
theorem op_mulA : OpR X (binaryOp .Mult) (rI CMulA fun i j => .int (i * j)) := opI fun _ _ _ _ _ _ _ hc q => mul_int q hc.ok
theorem op_powW : OpR X (binaryOp .Pow) (rI CPowW fun i j => .int (i ^ j.toNat)) := opI fun _ _ _ _ _ _ _ hc q => pow_int hc.1 hc.2 q
end
theorem hu64 {A : Around} {k : Nat} (hr : Room k A) : A.units + 64 < cLine := Nat.lt_of_le_of_lt (Nat.add_le_add_left (by decide : 64 ≤ 64) _) hr.units

/-! ### types -/
def tyN (M : Mp) : D → String
  | .non => "NoneType" | .bl _ => "bool" | .int _ => "int" | .str _ => "str" | .lst _ => "list" | .frl _ => "list" | .tup _ => "tuple"
  | .ref a => (match M a with
    | some (.lst _) => "list"
    | some (.dct _) => "dict"
    | _ => "")
  | .ty _ => ""
theorem tyN_at {K : PySem.W.Frag} {G H : Hp} {M : Mp} {d : D} {v : V} (s : Hs K G M H) (t : Dt K G v d) (h : tyN M d ≠ "") : TyX K H v (.type (tyN M d)) := by
  cases t with
  | non => exact .base .non
  | bl b => exact .base (.bl b)
  | int i => exact .base (.int i)
  | str x => exact .base (.str x)
  | ty n => exact absurd rfl h
  | ref a =>
    cases e : M a with
    | none => exact absurd (by simp only [tyN, e]) h
    | some o =>
      obtain ⟨g, k⟩ := s.ok a o e
      cases o with
      | lst ds =>
        obtain ⟨xs, e1, _⟩ := k
        rw [show tyN M (.ref a) = "list" by simp only [tyN, e]]
        exact .base (.lst e1)
      | dct kvs =>
        obtain ⟨ws, e1, _⟩ := k
        rw [show tyN M (.ref a) = "dict" by simp only [tyN, e]]
        exact .base (.dK e1)
      | ins C fs => exact absurd (by simp only [tyN, e]) h
      | dcl od ws kvs => exact absurd (by simp only [tyN, e]) h
  | lst h1 h2 => exact .base (.lst (s.sub _ _ h1))
  | frl h1 h2 =>
    rcases h1 with (h1 | ⟨o, h1⟩) | ⟨dd, its, n, q, rest⟩
    · exact .base (.lst (s.sub _ _ h1))
    · exact .base (.frz (s.sub _ _ h1))
    · exact .kList q rest.1
  | tup h1 h2 => exact .base (.tup (s.sub _ _ h1))
section
variable {J : Jx} {te ta tb tc to ti : TE} {tt tu : TT} {t : TA} {ρ : Ro} {M : Mp} {d x y z : D} {ds es : List D} {b c : Bool} {R R' : D → Mp → Prop}
theorem ev_isi {n : String} (ha : Ev J ta ρ M x) (hc : Ev J tb ρ M (.ty n)) (h : kitB (tyN M x) n = some b) (h' : tyN M x ≠ "") : Ev J (tCB (rIsi J.K) (tCons ta (tCons tb tNil))) ρ M (.bl b) :=
  w_cb1 (ea_cons ha (ea_cons hc ea_nil)) (opA_val fun G H vs s tx => by
    cases tx with
    | cons t1 t2 =>
      cases t2 with
      | cons t2 t3 =>
        cases t3
        cases t2
        exact ⟨_, .bl b, fun Q q => ⟨_, _, _, _, b, rfl, .ty n, tyN_at s t1 h', kit_ty h, q⟩⟩)
theorem ev_isiT {n : String} (t : String) (ha : Ev J ta ρ M x) (hc : Ev J tb ρ M (.ty n)) (hx : tyN M x = t) (h : kitB t n = some b) (h' : t ≠ "") : Ev J (tCB (rIsi J.K) (tCons ta (tCons tb tNil))) ρ M (.bl b) :=
  ev_isi ha hc (by rw [hx]; exact h) (by rw [hx]; exact h')
/-! ### == of data -/
mutual
def okPy : D → Bool
  | .non => true | .bl _ => true | .int _ => true | .str x => true | .ty _ => false | .ref _ => false
  | .lst ds => okPys ds | .frl ds => false | .tup ds => okPys ds
def okPys : List D → Bool
  | [] => true
  | d :: ds => okPy d && okPys ds
end
mutual
def toPy : D → PyData
  | .non => .none | .bl b => .bool b | .int i => .int i | .str x => .str x | .ty _ => .none | .ref _ => .none
  | .lst ds => .list (toPys ds) | .frl ds => .list (toPys ds) | .tup ds => .tuple (toPys ds)
def toPys : List D → List PyData
  | [] => []
  | d :: ds => toPy d :: toPys ds
end
mutual
theorem dp_of {K : PySem.W.Frag} {G H : Hp} (e : Same G H) : ∀ {v : V} {d : D}, Dt K G v d → okPy d = true → Dp K H v (toPy d)
  | _, _, .non, _ => by unfold toPy; exact .non
  | _, _, .bl b, _ => by unfold toPy; exact .bl b
  | _, _, .int i, _ => by unfold toPy; exact .int i
  | _, _, .str x, h => by unfold toPy; exact .str x
  | _, _, .ty n, h => by unfold okPy at h; cases h
  | _, _, .ref a, h => by unfold okPy at h; cases h
  | _, _, .lst h1 h2, h => by unfold okPy at h; unfold toPy; exact .lst (SqL.of (e _ _ h1)) (dps_of e h2 h)
  | _, _, .frl h1 h2, h => by unfold okPy at h; cases h
  | _, _, .tup h1 h2, h => by unfold okPy at h; unfold toPy; exact .tup (SqT.of (e _ _ h1)) (dps_of e h2 h)
theorem dps_of {K : PySem.W.Frag} {G H : Hp} (e : Same G H) : ∀ {vs : List V} {ds : List D}, DtL K G vs ds → okPys ds = true → DpAll K H vs (toPys ds)
  | _, _, .nil, _ => by unfold toPys; exact .nil
  | _, _, .cons h1 h2, h => by
    unfold okPys at h
    unfold toPys
    exact .cons (dp_of e h1 (Bool.and_eq_true_iff.mp h).1) (dps_of e h2 (Bool.and_eq_true_iff.mp h).2)
end
/-- what a slot holds, a list of the ledger told as what is in it -/
def Vw (M : Mp) (x d : D) : Prop := x = d ∨ ∃ a ds, x = .ref a ∧ M a = some (.lst ds) ∧ d = .lst ds
theorem Vw.i : Vw M x x := .inl rfl
theorem Vw.r {a : Addr} (h : M a = some (.lst ds)) : Vw M (.ref a) (.lst ds) := .inr ⟨a, ds, rfl, h, rfl⟩
theorem IsM.vw (h : IsM M x ds) : Vw M x (.lst ds) := h.elim .inl fun ⟨a, e1, e2⟩ => .inr ⟨a, ds, e1, e2, rfl⟩
theorem Vw.sub {M' : Mp} (h : Vw M x d) (s : Sub M M') : Vw M' x d := by
  rcases h with h | ⟨a, ds, h1, h2, h3⟩
  · exact .inl h
  · exact .inr ⟨a, ds, h1, s a _ h2, h3⟩
theorem Vw.dp {K : PySem.W.Frag} {G H : Hp} {v : V} (h : Vw M x d) (s : Hs K G M H) (t : Dt K G v x) (ok : okPy d = true) : Dp K H v (toPy d) := by
  rcases h with rfl | ⟨a, ds, rfl, h2, rfl⟩
  · exact dp_of s.sub t ok
  · cases t
    obtain ⟨g, xs, e, k⟩ := s.ok a _ h2
    unfold okPy at ok
    unfold toPy
    exact .lst (SqL.of e) (dps_of s.sub k ok)
/-- a way to tell things of a type as data, == of which is = of the things -/
structure Cd (α : Type) [DecidableEq α] where
  d : α → D
  ok : ∀ a, okPy (d a) = true
  ev : ∀ a b, PyData.eqv (toPy (d a)) (toPy (d b)) = decide (a = b)
  lay : ∀ a, PyData.canLay0 (toPy (d a)) = true
  dep : Nat
  dle : ∀ a, (toPy (d a)).depth ≤ dep
def cI : Cd Int where
  d := .int
  ok := fun a => by unfold okPy; rfl
  ev := fun a b => by
    unfold toPy PyData.eqv
    by_cases h : a = b
    · rw [h]; simp
    · rw [decide_eq_false h]; simpa using h
  lay := fun a => by unfold toPy; rfl
  dep := 1
  dle := fun a => by unfold toPy PyData.depth; decide
def cO : Cd (Option Int) where
  d := oD
  ok := fun a => by cases a <;> (unfold oD okPy; rfl)
  ev := fun a b => by
    cases a <;> cases b <;> (unfold oD toPy PyData.eqv) <;> simp <;> rfl
  lay := fun a => by cases a <;> (unfold oD toPy; rfl)
  dep := 1
  dle := fun a => by cases a <;> (unfold oD toPy PyData.depth; decide)
theorem okPys_map {α : Type} [DecidableEq α] (c : Cd α) : ∀ l : List α, okPys (l.map c.d) = true
  | [] => by unfold List.map okPys; rfl
  | a :: l => by
    rw [List.map_cons]
    unfold okPys
    rw [c.ok, okPys_map c l]; rfl
theorem eqvAll_map {α : Type} [DecidableEq α] (c : Cd α) : ∀ l m : List α, PyData.eqvAll (toPys (l.map c.d)) (toPys (m.map c.d)) = decide (l = m)
  | [], [] => by unfold List.map toPys PyData.eqvAll; simp
  | [], b :: m => by
    rw [List.map_nil, List.map_cons]; unfold toPys PyData.eqvAll; simp
  | a :: l, [] => by
    rw [List.map_nil, List.map_cons]; unfold toPys PyData.eqvAll; simp
  | a :: l, b :: m => by
    rw [List.map_cons, List.map_cons]
    unfold toPys PyData.eqvAll
    rw [c.ev, eqvAll_map c l m, Bool.eq_iff_iff]
    simp
theorem layAll_map {α : Type} [DecidableEq α] (c : Cd α) : ∀ l : List α, PyData.canLayAll0 (toPys (l.map c.d)) = true
  | [] => by rw [List.map_nil]; unfold toPys PyData.canLayAll0; rfl
  | a :: l => by
    rw [List.map_cons]
    unfold toPys PyData.canLayAll0
    rw [c.lay, layAll_map c l]; rfl
theorem depAll_map {α : Type} [DecidableEq α] (c : Cd α) : ∀ l : List α, PyData.depthAll (toPys (l.map c.d)) ≤ c.dep
  | [] => by rw [List.map_nil]; unfold toPys PyData.depthAll; exact Nat.zero_le _
  | a :: l => by
    rw [List.map_cons]
    unfold toPys PyData.depthAll
    exact Nat.max_le.mpr ⟨c.dle a, depAll_map c l⟩
def cL {α : Type} [DecidableEq α] (c : Cd α) : Cd (List α) where
  d := fun l => .lst (l.map c.d)
  ok := fun l => by unfold okPy; exact okPys_map c l
  ev := fun l m => by unfold toPy PyData.eqv; exact eqvAll_map c l m
  lay := fun l => by unfold toPy PyData.canLay0; exact layAll_map c l
  dep := c.dep + 1
  dle := fun l => by
    unfold toPy PyData.depth
    have := depAll_map c l
    omega
/-- a tuple of many -/
def cU {α : Type} [DecidableEq α] (c : Cd α) : Cd (List α) where
  d := fun l => .tup (l.map c.d)
  ok := fun l => by unfold okPy; exact okPys_map c l
  ev := fun l m => by unfold toPy PyData.eqv; exact eqvAll_map c l m
  lay := fun l => by unfold toPy PyData.canLay0; exact layAll_map c l
  dep := c.dep + 1
  dle := fun l => by
    unfold toPy PyData.depth
    have := depAll_map c l
    omega
theorem shaped_of {α : Type} [DecidableEq α] (c : Cd α) (h : c.dep ≤ 64) (a : α) : SeqAt.shaped (toPy (c.d a)) = true := by
  unfold SeqAt.shaped
  rw [c.lay, Bool.true_and]
  exact decide_eq_true (Nat.le_trans (c.dle a) h)
theorem ev_eqC {α : Type} [DecidableEq α] (cc : Cd α) {a a' : α} (ha : Ev J ta ρ M x) (hb : Ev J tb ρ M y) (hx : Vw M x (cc.d a)) (hy : Vw M y (cc.d a')) (hd : cc.dep ≤ 64) : Ev J (tOp (rEqD J.K) ta tb) ρ M (.bl (decide (a = a'))) :=
  w_op1 ha hb (op2_val fun G H vx vy s tx ty => ⟨_, .bl _, fun Q q => ⟨_, _, hx.dp s tx (cc.ok a), hy.dp s ty (cc.ok a'), shaped_of cc hd a, shaped_of cc hd a', by rw [cc.ev]; exact q⟩⟩)
theorem ev_neC {α : Type} [DecidableEq α] (cc : Cd α) {a a' : α} (ha : Ev J ta ρ M x) (hb : Ev J tb ρ M y) (hx : Vw M x (cc.d a)) (hy : Vw M y (cc.d a')) (hd : cc.dep ≤ 64) : Ev J (tOp (rNeD J.K) ta tb) ρ M (.bl (!decide (a = a'))) :=
  w_op1 ha hb (op2_val fun G H vx vy s tx ty => ⟨_, .bl _, fun Q q => ⟨_, _, hx.dp s tx (cc.ok a), hy.dp s ty (cc.ok a'), shaped_of cc hd a, shaped_of cc hd a', by rw [cc.ev]; exact q⟩⟩)
end
/-! ### promises by the number of arguments -/
abbrev NX := D → Mp → Prop
abbrev XE' := Addr → Mp → Prop
def q1 (R : D → Mp → NX → XE' → Prop) : Pr := fun ds M nx xe => ∃ x, ds = [x] ∧ R x M nx xe
def q2 (R : D → D → Mp → NX → XE' → Prop) : Pr := fun ds M nx xe => ∃ x y, ds = [x, y] ∧ R x y M nx xe
def q3 (R : D → D → D → Mp → NX → XE' → Prop) : Pr := fun ds M nx xe => ∃ x y z, ds = [x, y, z] ∧ R x y z M nx xe
def q4 (R : D → D → D → D → Mp → NX → XE' → Prop) : Pr := fun ds M nx xe => ∃ x y z u, ds = [x, y, z, u] ∧ R x y z u M nx xe
def q5 (R : D → D → D → D → D → Mp → NX → XE' → Prop) : Pr := fun ds M nx xe => ∃ x y z u v, ds = [x, y, z, u, v] ∧ R x y z u v M nx xe
def q6 (R : D → D → D → D → D → D → Mp → NX → XE' → Prop) : Pr := fun ds M nx xe => ∃ x y z u v w, ds = [x, y, z, u, v, w] ∧ R x y z u v w M nx xe
theorem q1_len {R} {ds : List D} {M : Mp} {nx : NX} {xe : XE'} (h : q1 R ds M nx xe) : ds.length = 1 := by obtain ⟨_, rfl, _⟩ := h; rfl
theorem q2_len {R} {ds : List D} {M : Mp} {nx : NX} {xe : XE'} (h : q2 R ds M nx xe) : ds.length = 2 := by obtain ⟨_, _, rfl, _⟩ := h; rfl
theorem q3_len {R} {ds : List D} {M : Mp} {nx : NX} {xe : XE'} (h : q3 R ds M nx xe) : ds.length = 3 := by obtain ⟨_, _, _, rfl, _⟩ := h; rfl
theorem q4_len {R} {ds : List D} {M : Mp} {nx : NX} {xe : XE'} (h : q4 R ds M nx xe) : ds.length = 4 := by obtain ⟨_, _, _, _, rfl, _⟩ := h; rfl
theorem q5_len {R} {ds : List D} {M : Mp} {nx : NX} {xe : XE'} (h : q5 R ds M nx xe) : ds.length = 5 := by obtain ⟨_, _, _, _, _, rfl, _⟩ := h; rfl
theorem q6_len {R} {ds : List D} {M : Mp} {nx : NX} {xe : XE'} (h : q6 R ds M nx xe) : ds.length = 6 := by obtain ⟨_, _, _, _, _, _, rfl, _⟩ := h; rfl
section
variable (P : Program) (w : World) (K : PySem.W.Frag) (mg : Str → Option Value) (base : Heap)
/-- a def of the module keeps its promise -/
def OkF (CX : CXT) (k : Nat) (x : Str) (f : Addr) (ps : List Str) (Rf : Pr) : Prop := ∃ fd : FuncData, FnOk P w K mg base CX k f fd ps (spD K Rf) ∧ Binds K fd ps [] ∧ PySem.W.keepIn K (.ref f) = true ∧ mg x = some (.ref f)
def OkM (CX : CXT) (k : Nat) (f : Addr) (ps : List Str) (Rf : Pr) : Prop := ∃ fd : FuncData, FnOk P w K mg base CX k f fd ps (spD K Rf) ∧ Binds K fd ps []
end
/-! ### lists of ints -/
theorem get_int {xs : List Int} {i : Nat} {d : D} (h : (xs.map D.int)[i]? = some d) : ∃ n, xs[i]? = some n ∧ d = .int n := by
  rw [List.getElem?_map] at h
  cases e : xs[i]? with
  | none => rw [e] at h; cases h
  | some n => rw [e] at h; exact ⟨n, rfl, (Option.some.inj h).symm⟩
theorem get_map {α : Type} {f : α → D} {xs : List α} {i : Nat} {d : D} (h : (xs.map f)[i]? = some d) : ∃ n, xs[i]? = some n ∧ d = f n := by
  rw [List.getElem?_map] at h
  cases e : xs[i]? with
  | none => rw [e] at h; cases h
  | some n => rw [e] at h; exact ⟨n, rfl, (Option.some.inj h).symm⟩
theorem drop_at {α : Type} {xs : List α} {i : Nat} {a : α} (h : xs[i]? = some a) : xs.drop i = a :: xs.drop (i + 1) := by
  obtain ⟨hl, e⟩ := List.getElem?_eq_some_iff.mp h
  rw [List.drop_eq_getElem_cons hl, e]
theorem lt_of_get {α : Type} {xs : List α} {i : Nat} {a : α} (h : xs[i]? = some a) : i < xs.length := (List.getElem?_eq_some_iff.mp h).1
theorem atI_int {xs : List Int} {k : Int} (h0 : 0 ≤ k) (h : k < xs.length) : atI (xs.map D.int) k = some (.int (xs.getD k.toNat 0)) := by
  have e : ((k.toNat : Nat) : Int) = k := Int.toNat_of_nonneg h0
  have hl : k.toNat < xs.length := by omega
  have q : (xs.map D.int)[k.toNat]? = some (.int (xs.getD k.toNat 0)) := by
    rw [List.getElem?_map, List.getElem?_eq_getElem hl]
    simp [List.getD_eq_getElem?_getD, List.getElem?_eq_getElem hl]
  have q2 := atI_nat q
  rw [e] at q2
  exact q2
section
open PySem.Spec PyProof.Rows
theorem cx_K {CX : CXT} {P : Program} {w : World} {K : PySem.W.Frag} {mg : Str → Option Value} {base : Heap} {N : List Str} {q : Str} {sc : Scope} {f : Addr} {cd : Value} {A : Around} {o : List Env} {s : Shared} {H : Hp} {E : XK} : (cxOf CX P w K mg base N q sc f cd A o s H E).K = K := rfl
theorem cx_nK {CX : CXT} {P : Program} {w : World} {K : PySem.W.Frag} {mg : Str → Option Value} {base : Heap} {N : List Str} {q : Str} {sc : Scope} {f : Addr} {cd : Value} {A : Around} {o : List Env} {s : Shared} {H : Hp} {E : XK} : (cxOf CX P w K mg base N q sc f cd A o s H E).nox.K = K := rfl
end
section
variable {J : Jx} {te ta tb tc to ti : TE} {tt tu : TT} {t : TA} {t1 t2 : TS} {ρ : Ro} {M : Mp} {d x y z : D} {ds es : List D} {b c : Bool} {P : Po} {R : D → Mp → Prop}
/-- a block cut behind its first statement -/
theorem s_cut (Q : Ro → Mp → Prop) (h1 : S J t1 ρ M ⟨Q, P.rt, P.bk, P.ct⟩) (h2 : ∀ ρ' M', Q ρ' M' → S J t2 ρ' M' P) : S J (tSeq t1 t2) ρ M P := s_seq (h1.imp h2 (fun _ _ h => h) (fun _ _ h => h) fun _ _ h => h)
theorem s_asgE {i : Nat} (h : Ev J te ρ M d) (k : P.nx (ρ.set i (some d)) M) : S J (tAsg te (gName i)) ρ M P := s_asg (h.w k)
theorem s_retE (h : Ev J te ρ M d) (k : P.rt d M) : S J (tRet te) ρ M P := s_ret (h.w k)
end
theorem sz {n : Nat} (h : n ≤ 1000000) : n ≤ sizeLine := Nat.le_trans h (by decide)
theorem szl {n : Nat} (h : n ≤ 1000000) : n < sizeLine := Nat.lt_of_le_of_lt h (by decide)
section
variable {J : Jx} {te ta tb tn : TE} {ρ : Ro} {M : Mp} {i : Nat}
/-- [f(k) for k in range(n)] -/
theorem en_rng {n : Int} (f : Int → D) (hn : Ev J tn ρ M (.int n)) (h1 : -(2 ^ 62) ≤ n) (h2 : n ≤ 1000000) (he : ∀ M1 (k : Int), Sub M M1 → 0 ≤ k → k < n → Ev J te (ρ.set i (some (.int k))) M1 (f k)) : EvN J (tLc (iRng1 (tCons tn tNil)) (gName i) tYes te [i]) ρ M ((List.range n.toNat).map fun (k : Nat) => f (k : Int)) := by
  refine en_lc1 (List.range n.toNat) (fun k => D.int (0 + (k : Int))) (fun (k : Nat) => f (k : Int)) (src_rng1 hn h1 (by omega)) (fun _ _ => trivial) (szl (by rw [List.length_range]; omega)) fun M1 k sb hk => ?_
  have e : (0 : Int) + (k : Int) = (k : Int) := Int.zero_add _
  rw [e]
  have hk' := List.mem_range.mp hk
  exact he M1 k sb (by omega) (by omega)
theorem en_rngI {n : Int} (f : Int → Int) (hn : Ev J tn ρ M (.int n)) (h1 : -(2 ^ 62) ≤ n) (h2 : n ≤ 1000000) (he : ∀ M1 (k : Int), Sub M M1 → 0 ≤ k → k < n → Ev J te (ρ.set i (some (.int k))) M1 (.int (f k))) : EvN J (tLc (iRng1 (tCons tn tNil)) (gName i) tYes te [i]) ρ M (((List.range n.toNat).map fun (k : Nat) => f (k : Int)).map D.int) := by
  have h := en_rng (fun k => D.int (f k)) hn h1 h2 he
  rw [List.map_map]
  exact h
end
/-! ### the rules with the written part named (within comprehensions the reading must not speak of the block) -/
section
open PySem.Spec PyProof.Rows
variable {X : Cx} {K : PySem.W.Frag} {a b e o l : Expr} {ta tb te to tl : TE} {pos apos cpos : Pos} {f : Str}
theorem kx_ixL (h : X.K = K) : IxR X (rIxL K) := h ▸ ix_list
theorem kx_ixT (h : X.K = K) : IxR X (rIxT K) := h ▸ ix_tup
theorem kx_ixQ (h : X.K = K) : IxR X (rIx K) := h ▸ ix_seq
theorem kx_sl (h : X.K = K) : SlR X (rSlL K) := h ▸ sl_list
theorem kx_len (h : X.K = K) : CallR X (.builtin "len") (fun xs H Q => ∃ p ys, xs = [.ref p] ∧ (SqL K H p ys ∨ SqT K H p ys) ∧ Q (.int ys.length) H) := h ▸ call_len_seq
theorem kx_list (h : X.K = K) : CallR X (.type "list") (fun xs H Q => ∃ p ys, xs = [.ref p] ∧ (SqL K H p ys ∨ SqT K H p ys) ∧ ∀ l, H l = none → Q (.ref l) (upd H l (.lst ys))) := h ▸ call_list_of
theorem kx_tuple (h : X.K = K) : CallR X (.type "tuple") (fun xs H Q => ∃ p ys, xs = [.ref p] ∧ ((SqL K H p ys ∧ ∀ l, H l = none → Q (.ref l) (upd H l (.tup ys))) ∨ (SqT K H p ys ∧ Q (.ref p) H))) := h ▸ call_tuple_of
theorem kx_in (h : X.K = K) : OpR X (compareOp .In) (rIn K false) := h ▸ op_in_seq
theorem kx_notIn (h : X.K = K) : OpR X (compareOp .NotIn) (rIn K true) := h ▸ op_notIn_seq
theorem kx_eqD (h : X.K = K) (hu : X.A.units + 64 < cLine) : OpR X (compareOp .Eq) (rEqD K) := h ▸ op_eqD hu
theorem kx_neD (h : X.K = K) (hu : X.A.units + 64 < cLine) : OpR X (compareOp .NotEq) (rNeD K) := h ▸ op_neD hu
theorem kx_isi (h : X.K = K) : CallR X (.builtin "isinstance") (rIsi K) := h ▸ call_isi
theorem kx_isiT (h : X.K = K) : CallR X (.builtin "isinstance") (rIsiT K) := h ▸ call_isiT
theorem kx_sortedI (h : X.K = K) : CallR X (.builtin "sorted") (rSortedI K) := h ▸ cr_sortedI
theorem kx_fld (h : X.K = K) (he : PE X e te) (hb : attributeBase e f X.env (eval e X.env) = eval e X.env) : PE X (.Attribute e f pos) (tFld K te f) := h ▸ pe_fld he hb
theorem kx_sfld {value : Expr} {tv : TE} {pos' : Pos} (h : X.K = K) (ha : PE X o to) (hv : PE X value tv) (hs : swapsWith value (some (.Attribute o f pos')) pos.line X.env = pure false) : PS X (.Assign [.Attribute o f pos'] value pos) (sFld K to tv f) := h ▸ ps_fld ha hv hs
theorem kx_plist {tg : Expr} (h : X.K = K) (hl : PE X l tl) : PI X tg l (iList K tl) := h ▸ pi_list hl
theorem kx_ptup {tg : Expr} (h : X.K = K) (hl : PE X l tl) : PI X tg l (iTup K tl) := h ▸ pi_tup hl
theorem kx_gtup {es : List Expr} {k : Nat} {t : TGs} {n : Nat} (h : X.K = K) (hc : X.calm = true) (hg : PGs X es t)
    (hn : (assignEach es X.env).length = n := by rfl) (hst : (assignEach es X.env).findIdx? (·.1) = none := by rfl) : PG X (.Tuple es k pos) (gTup K n t) := h ▸ pg_tup hc hg hn hst
end
end DL

namespace DL
open PySem L2
/-! ### triples of a wish -/
abbrev Tr := Int × Option Int × Option Int
def tD (t : Tr) : D := .tup [.int t.1, oD t.2.1, oD t.2.2]
def cT : Cd Tr where
  d := tD
  ok := fun t => by
    have h1 := cO.ok t.2.1
    have h2 := cO.ok t.2.2
    show okPys [.int t.1, cO.d t.2.1, cO.d t.2.2] = true
    unfold okPys okPys okPys okPys
    rw [h1, h2]
    rfl
  ev := fun a b => by
    have h1 := cI.ev a.1 b.1
    have h2 := cO.ev a.2.1 b.2.1
    have h3 := cO.ev a.2.2 b.2.2
    show PyData.eqvAll [toPy (cI.d a.1), toPy (cO.d a.2.1), toPy (cO.d a.2.2)] [toPy (cI.d b.1), toPy (cO.d b.2.1), toPy (cO.d b.2.2)] = _
    unfold PyData.eqvAll PyData.eqvAll PyData.eqvAll PyData.eqvAll
    rw [h1, h2, h3, Bool.eq_iff_iff]
    obtain ⟨a1, a2, a3⟩ := a
    obtain ⟨b1, b2, b3⟩ := b
    simp
  lay := fun t => by
    have h1 := cI.lay t.1
    have h2 := cO.lay t.2.1
    have h3 := cO.lay t.2.2
    show PyData.canLayAll0 [toPy (cI.d t.1), toPy (cO.d t.2.1), toPy (cO.d t.2.2)] = true
    unfold PyData.canLayAll0 PyData.canLayAll0 PyData.canLayAll0 PyData.canLayAll0
    rw [h1, h2, h3]
    rfl
  dep := 2
  dle := fun t => by
    have h1 := cI.dle t.1
    have h2 := cO.dle t.2.1
    have h3 := cO.dle t.2.2
    show (PyData.tuple [toPy (cI.d t.1), toPy (cO.d t.2.1), toPy (cO.d t.2.2)]).depth ≤ 2
    unfold PyData.depth PyData.depthAll PyData.depthAll PyData.depthAll PyData.depthAll
    have e1 : cI.dep = 1 := rfl
    have e2 : cO.dep = 1 := rfl
    omega
theorem isNon_oD (a : Option Int) : isNon (oD a) = a.isNone := by cases a <;> rfl
/-- a number between two ends -/
def withinM (v : Int) (lo hi : Option Int) : Bool := (lo.all fun l => decide (l ≤ v)) && (hi.all fun h => decide (v ≤ h))
def fitsM (row : List Int) (wish : List Tr) : Bool := wish.all fun t => withinM (row.getD t.1.toNat 0) t.2.1 t.2.2
/-- the columns of a wish are a row's -/
def ColsOk (n : Nat) (wish : List Tr) : Prop := ∀ t ∈ wish, 0 ≤ t.1 ∧ t.1 < (n : Int)
section
variable {J : Jx} {ta : TE} {ρ : Ro} {M : Mp} {d : D} {b : Bool}
theorem ev_isNb (ha : Ev J ta ρ M d) (h : isNon d = b) : Ev J (tIsN ta) ρ M (.bl b) := (ev_isN ha).is (by rw [h])
theorem ev_notNb (ha : Ev J ta ρ M d) (h : (!isNon d) = b) : Ev J (tNotN ta) ρ M (.bl b) := (ev_notN ha).is (by rw [h])
end
theorem snoc_ind {α : Type} {P : List α → Prop} (h0 : P []) (h1 : ∀ w t, P w → P (w ++ [t])) (w : List α) : P w := by
  have key : ∀ l : List α, P l.reverse := fun l => by
    induction l with
    | nil => exact h0
    | cons a l ih => rw [List.reverse_cons]; exact h1 _ a ih
  have := key w.reverse
  rw [List.reverse_reverse] at this
  exact this
end DL

namespace DL
open PySem L2
/-! ### sorted(d.keys()), any number of ints; list(d.values()) -/
def rSortedKeys : V → Hp → VK → Prop := fun x H Q => ∃ (a : Addr) (kvs : List (Key × V)) (ks : List Int), x = .ref a ∧ H a = some (.dK kvs) ∧ kvs.map (·.1) = ks.map Sum.inl ∧
  ∀ (ys : List Int) (p : Addr), ys.Perm ks → ys.Pairwise (· ≤ ·) → H p = none → Q (.ref p) (upd H p (.lst (ys.map V.int)))
def tSortedKeys (te : TE) : TE := fun σ H Q => te σ H fun x H1 => rSortedKeys x H1 Q
def rListVals : V → Hp → VK → Prop := fun x H Q => ∃ (a : Addr) (kvs : List (Key × V)), x = .ref a ∧ H a = some (.dK kvs) ∧ ∀ p, H p = none → Q (.ref p) (upd H p (.lst (kvs.map (·.2))))
def tListVals (te : TE) : TE := fun σ H Q => te σ H fun x H1 => rListVals x H1 Q
section
open PySem.Spec PyProof.Rows
variable {X : Cx} {e : Expr} {te : TE} {p apos cpos pos : Pos}
theorem kv_vals : ∀ {kvs : List (Key × V)} {vs : List (Key × Value)}, KV kvs vs → Vals (kvs.map (·.2)) (vs.map (·.2))
  | _, _, .nil => .nil
  | _, _, .cons r t => .cons r.2 (kv_vals t)
theorem pe_sortedKeys (hc : X.calm = true) (he : PE X e te) (hg : Gl X "sorted") (hm : X.mg "sorted" = none) (hv : bootBuiltins "sorted" = some (.builtin "sorted")) (hbase : attributeBase e "keys" X.env (eval e X.env) = eval e X.env := by rfl) (hline : (apos.endLine == cpos.line) = true := by rfl)
    (hs : starEach [.Call (.Attribute e "keys" apos) [] [] cpos] X.env = (false, eval (.Call (.Attribute e "keys" apos) [] [] cpos) X.env) :: starEach [] X.env := by rfl) :
    PE X (.Call (.Name "sorted" p) [.Call (.Attribute e "keys" apos) [] [] cpos] [] pos) (tSortedKeys te) := by
  refine ⟨fun pins s σ H Q I hq => ?_⟩
  refine wpAny_Call_Name_kw (ld_blt I hg hm hv ?_)
  refine PyProof.Rows.callWith_builtin1 ?_ hs rfl
  rw [hs]
  show wpAny _ _ (spliced ((false, eval (.Call (.Attribute e "keys" apos) [] [] cpos) X.env) :: backTo pos (starEach [] X.env))) _ _ s
  refine Calls.spliced_cons ?_
  refine wpAny_Call_method (T := "dict") (id := "dict.keys") hbase rfl hline F.plainAttrs_dict F.slot_dict_keys F.type_dict_keys (thn (he.run pins s σ H _ I hq) fun u s1 ⟨x, H1, I1, rx, a, kvs, ks, ex, hd, hks, q⟩ => ?_)
  subst ex
  obtain rfl : u = Value.ref a := rx
  obtain ⟨hz, hs0, vs, kv, hdo⟩ := I1.hok a _ hd
  obtain ⟨ep, hat⟩ := hdo.dictAt
  have I2 : Inv X pins σ H1 { s1 with heap := s1.heap.push { cls := .type "dict_keys", data := .fields #[.ref a] } } := I1.kept (t' := s1.toks) fun b ob q => Heap.get?_push_of_some _ q
  refine ⟨hdo.typeIs, hdo.mapOf.noDict, ?_⟩
  show wpAny _ _ (callWith cpos (.builtin "dict.keys") [.ref a] [] []) _ X.xe s1
  refine method_meetsIn F.slot_dict_keys F.entry_dict_keys rfl (PySem.evalArgs_none ⟨rfl, hdo.typeIs, F.args_dict_keys_1 _, _, PySem.W.kdl_meets_keys (mixKind X.prog X.w) a hs0, ⟨vs, hdo⟩, ?_⟩)
  refine Calls.spliced_nil ?_
  have hkeys : vs.map (·.1) = ks.map Sum.inl := kv.keys.symm.trans hks
  have hl : vs.length = ks.length := by
    have e := congrArg List.length hkeys
    rw [List.length_map, List.length_map] at e
    exact e
  have h16 : vs.length ≤ sizeLine := by rw [← Paired.length kv]; exact hz
  have hat2 := hat.push { cls := .type "dict_keys", data := .fields #[.ref a] }
  have hview : PySem.W.KdlKeysView (s1.heap.push { cls := .type "dict_keys", data := .fields #[.ref a] }) s1.heap.objs.size a := ⟨_, Heap.get?_push_size _ rfl, rfl, rfl⟩
  refine Calls.call_function_entry PyProof.Rows.kind_sorted PyProof.Rows.plain_sorted PyProof.Rows.entry_sorted (PyProof.Rows.args_sorted1 _) ?_
  unfold Builtin.«sorted»
  refine wpAny_bind (m := checkCount "sorted" 1 1 _) (wpAny_pure ?_)
  refine wpAny_bind (PySem.W.kdu_collect (A := X.A.in1) (PySem.W.kdl_keys (knd := mixKind X.prog X.w) (kvs := vs) (ep := ep)) (I1.ok.hd hc) ⟨hview, hat2⟩ h16 fun h' tk acc hk hacc => ?_)
  have hal : acc.toList.length = ks.length := by rw [Array.length_toList, hacc.1, hl]
  have hS : IntsAre acc.toList ks := ints_each hal fun j v e => by
    obtain ⟨k, x, e1, e2⟩ := hacc.2 j v (by rw [← Array.getElem?_toList]; exact e)
    have e3 : (vs.map (·.1))[j]? = some k := by rw [List.getElem?_map, e1]; rfl
    rw [hkeys, List.getElem?_map] at e3
    cases e4 : ks[j]? with
    | none => rw [e4] at e3; cases e3
    | some y =>
      rw [e4] at e3
      have e5 : Sum.inl y = k := Option.some.inj e3
      subst e5
      rcases keyIs_shape (show keyIs (Sum.inl y) v = true from e2) with ⟨i, t, ek, ev⟩ | ⟨z, t, ek, ev⟩
      · cases ek
        exact ⟨y, t, rfl, ev⟩
      · cases ek
  have I3 : Inv X pins σ H1 { s1 with heap := h', toks := tk } := I2.kept hk
  refine wpAny_bind (wpAny_newList ?_ (by rw [hal, ← hl]; exact h16))
  have hoL : (h'.push (seqObj "list" acc.toList.toArray 0)).get? h'.objs.size = some (seqObj "list" acc.toList.toArray 0) := Heap.get?_push_size _ rfl
  show wpAny _ _ _ _ _ { s1 with heap := h'.push (seqObj "list" acc.toList.toArray 0), toks := tk }
  refine wpAny_bind (wpAny_holding (wpAny_call_entry PyProof.Rows.slot_list_sort ⟨_, hoL, rfl⟩ PyProof.Rows.entry_list_sort
    (SrtO.list_sort_ord (s := { s1 with heap := h'.push (seqObj "list" acc.toList.toArray 0), toks := tk }) SrtO.swo_int hoL (by rw [hal, ← hl]; exact h16) (fun h2 => SrtO.ints_sortable hS h2) fun out h1 h2 => ⟨_, rfl, ?_⟩) (PyProof.Rows.args_list_sort _)))
  obtain ⟨k1, k2, k3⟩ := SrtO.ints_out hS h1 h2
  obtain ⟨e', he'⟩ := PyProof.Rows.sortedHeap_at (vs := acc.toList) (out := out.toArray) hoL
  have hlen : ((out.map SrtO.iv).map V.int).length ≤ sizeLine := by
    rw [List.length_map, k2.length_eq, ← hl]
    exact h16
  refine wpAny_pure ⟨_, rfl, .ref h'.objs.size, upd H1 h'.objs.size (.lst ((out.map SrtO.iv).map V.int)), I3.laid (t' := tk) (fun b u e => ?_) (Nat.le_refl _)
    (show ObjOk X.prog X.w _ _ _ (.lst ((out.map SrtO.iv).map V.int)) from ⟨hlen, out, e', vals_of_ints k1, he'⟩), rfl, q _ _ k2 k3 (I3.hok.fresh (Nat.le_refl _))⟩
  have hb : b < h'.objs.size := Heap.lt_size e
  rw [PyProof.Rows.sortedHeap_old (Nat.ne_of_lt hb) (by rw [size_push']; exact Nat.lt_succ_of_lt hb)]
  exact Heap.get?_push_of_some _ e
theorem pe_listVals (hc : X.calm = true) (he : PE X e te) (hg : Gl X "list") (hm : X.mg "list" = none) (hv : bootBuiltins "list" = some (.type "list")) (hbase : attributeBase e "values" X.env (eval e X.env) = eval e X.env := by rfl) (hline : (apos.endLine == cpos.line) = true := by rfl)
    (hs : starEach [.Call (.Attribute e "values" apos) [] [] cpos] X.env = (false, eval (.Call (.Attribute e "values" apos) [] [] cpos) X.env) :: starEach [] X.env := by rfl) :
    PE X (.Call (.Name "list" p) [.Call (.Attribute e "values" apos) [] [] cpos] [] pos) (tListVals te) := by
  refine ⟨fun pins s σ H Q I hq => ?_⟩
  refine wpAny_Call_Name_kw (ld_blt I hg hm hv ?_)
  refine PyProof.Rows.callWith_type1 ?_ hs rfl
  rw [hs]
  show wpAny _ _ (spliced ((false, eval (.Call (.Attribute e "values" apos) [] [] cpos) X.env) :: backTo pos (starEach [] X.env))) _ _ s
  refine Calls.spliced_cons ?_
  refine wpAny_Call_method (T := "dict") (id := "dict.values") hbase rfl hline F.plainAttrs_dict F.slot_dict_values F.type_dict_values (thn (he.run pins s σ H _ I hq) fun u s1 ⟨x, H1, I1, rx, a, kvs, ex, hd, q⟩ => ?_)
  subst ex
  obtain rfl : u = Value.ref a := rx
  obtain ⟨hz, hs0, vs, kv, hdo⟩ := I1.hok a _ hd
  obtain ⟨ep, hat⟩ := hdo.dictAt
  have I2 : Inv X pins σ H1 { s1 with heap := s1.heap.push { cls := .type "dict_values", data := .fields #[.ref a] } } := I1.kept (t' := s1.toks) fun b ob q => Heap.get?_push_of_some _ q
  refine ⟨hdo.typeIs, hdo.mapOf.noDict, ?_⟩
  show wpAny _ _ (callWith cpos (.builtin "dict.values") [.ref a] [] []) _ X.xe s1
  refine method_meetsIn F.slot_dict_values F.entry_dict_values rfl (PySem.evalArgs_none ⟨rfl, hdo.typeIs, F.args_dict_values_1 _, _, meets_dict_values (mixKind X.prog X.w) a hs0, ⟨vs, hdo⟩, ?_⟩)
  refine Calls.spliced_nil ?_
  have hl : kvs.length = vs.length := Paired.length kv
  have hat2 := hat.push { cls := .type "dict_values", data := .fields #[.ref a] }
  refine PySem.W.kdl_call (PySem.W.kdl_values (knd := mixKind X.prog X.w) (kvs := vs) (ep := ep)) (I1.ok.hd hc) ⟨⟨_, Heap.get?_push_size _ rfl, rfl, rfl⟩, hat2⟩ (by rw [← hl]; exact hz) fun h' tk acc c' hk hD hacc => ?_
  have ev : acc.toList = vs.map (·.2) := PySem.W.kdl_vals_eq acc.toList (by rw [Array.length_toList]; exact hacc.1) fun j v e => hacc.2 j v (by rw [← Array.getElem?_toList]; exact e)
  refine ⟨.ref _, upd H1 (s1.heap.push { cls := .type "dict_values", data := .fields #[.ref a] }).objs.size (.lst (kvs.map (·.2))), I2.laid (t' := tk) hk (Nat.le_refl _)
    (show ObjOk X.prog X.w _ _ _ (.lst (kvs.map (·.2))) from ⟨by rw [List.length_map]; exact hz, acc.toList, c', by rw [ev]; exact kv_vals kv, by rw [Array.toArray_toList]; exact hD⟩), rfl, q _ (I2.hok.fresh (Nat.le_refl _))⟩
end
/-! ### dicts -/
section
variable {α : Type}
def valA (kvs : List (Key × α)) (k : Key) : Option α := (kvs.find? fun kv => decide (kv.1 = k)).map (·.2)
def putA (kvs : List (Key × α)) (k : Key) (v : α) : List (Key × α) :=
  if (kvs.any fun kv => decide (kv.1 = k)) = true then kvs.map (fun kv => if kv.1 = k then (kv.1, v) else kv) else kvs ++ [(k, v)]
def dropA (kvs : List (Key × α)) (k : Key) : List (Key × α) := kvs.filter fun kv => decide (kv.1 ≠ k)
theorem valA_nil {k : Key} : valA ([] : List (Key × α)) k = none := rfl
theorem valA_pos {p : Key × α} {r : List (Key × α)} {k : Key} (e : p.1 = k) : valA (p :: r) k = some p.2 := by simp [valA, List.find?_cons, e]
theorem valA_neg {p : Key × α} {r : List (Key × α)} {k : Key} (e : ¬ p.1 = k) : valA (p :: r) k = valA r k := by simp [valA, List.find?_cons, e]
theorem valA_any (k : Key) : ∀ kvs : List (Key × α), (kvs.any fun kv => decide (kv.1 = k)) = (valA kvs k).isSome
  | [] => rfl
  | p :: r => by
    rw [List.any_cons]
    by_cases e : p.1 = k
    · rw [valA_pos e, decide_eq_true e]; rfl
    · rw [valA_neg e, decide_eq_false e, Bool.false_or, valA_any k r]
theorem valA_mem {k : Key} {v : α} : ∀ {kvs : List (Key × α)}, valA kvs k = some v → (k, v) ∈ kvs
  | [], h => by cases h
  | p :: r, h => by
    by_cases e : p.1 = k
    · rw [valA_pos e] at h
      cases h
      rw [← e]
      exact List.mem_cons_self
    · rw [valA_neg e] at h
      exact List.mem_cons_of_mem _ (valA_mem h)
theorem valA_none {k : Key} : ∀ {kvs : List (Key × α)}, valA kvs k = none ↔ k ∉ kvs.map (·.1)
  | [] => by simp [valA_nil]
  | p :: r => by
    by_cases e : p.1 = k
    · rw [valA_pos e]; simp [e]
    · rw [valA_neg e, valA_none (kvs := r), List.map_cons, List.mem_cons]
      constructor
      · intro h z
        rcases z with z | z
        · exact e z.symm
        · exact h z
      · intro h z
        exact h (.inr z)
theorem valA_map_if {k k' : Key} {v : α} : ∀ kvs : List (Key × α), valA (kvs.map fun kv => if kv.1 = k then (kv.1, v) else kv) k' = if k' = k ∧ (valA kvs k').isSome = true then some v else valA kvs k'
  | [] => by simp [valA_nil]
  | p :: r => by
    rw [List.map_cons]
    by_cases e : p.1 = k
    · rw [if_pos e]
      by_cases e2 : p.1 = k'
      · rw [valA_pos (p := (p.1, v)) e2, valA_pos e2, if_pos ⟨e2.symm.trans e, rfl⟩]
      · rw [valA_neg (p := (p.1, v)) e2, valA_neg e2, valA_map_if r]
    · rw [if_neg e]
      by_cases e2 : p.1 = k'
      · rw [if_neg (fun z => e (e2.trans z.1)), valA_pos e2, valA_pos e2]
      · rw [valA_neg e2, valA_neg e2, valA_map_if r]
theorem valA_append {k : Key} {p : Key × α} : ∀ kvs : List (Key × α), valA (kvs ++ [p]) k = match valA kvs k with | some v => some v | none => if p.1 = k then some p.2 else none
  | [] => by
    rw [List.nil_append, valA_nil]
    by_cases e : p.1 = k
    · rw [valA_pos e, if_pos e]
    · rw [valA_neg e, if_neg e]; rfl
  | q :: r => by
    rw [List.cons_append]
    by_cases e : q.1 = k
    · rw [valA_pos e, valA_pos e]
    · rw [valA_neg e, valA_neg e, valA_append r]
theorem valA_put {kvs : List (Key × α)} {k k' : Key} {v : α} : valA (putA kvs k v) k' = if k' = k then some v else valA kvs k' := by
  unfold putA
  rw [valA_any]
  cases h : valA kvs k with
  | some x =>
    rw [if_pos (show (some x).isSome = true from rfl), valA_map_if]
    by_cases e : k' = k
    · rw [if_pos ⟨e, by rw [e, h]; rfl⟩, if_pos e]
    · rw [if_neg (fun z => e z.1), if_neg e]
  | none =>
    rw [if_neg (by simp), valA_append]
    by_cases e : k' = k
    · subst e
      rw [h, if_pos (show k' = k' from rfl)]
    · rw [if_neg e]
      cases valA kvs k' with
      | some v => rfl
      | none =>
        show (if k = k' then some v else none) = none
        rw [if_neg (fun z => e z.symm)]
theorem putA_keys {kvs : List (Key × α)} {k : Key} {v : α} : (putA kvs k v).map (·.1) = if (valA kvs k).isSome = true then kvs.map (·.1) else kvs.map (·.1) ++ [k] := by
  unfold putA
  rw [valA_any]
  by_cases h : (valA kvs k).isSome = true
  · rw [if_pos h, if_pos h, List.map_map]
    refine List.map_congr_left fun p _ => ?_
    show (if p.1 = k then (p.1, v) else p).1 = p.1
    split <;> rfl
  · rw [if_neg h, if_neg h, List.map_append]; rfl
theorem putA_new {kvs : List (Key × α)} {k : Key} {v : α} (h : valA kvs k = none) : putA kvs k v = kvs ++ [(k, v)] := by
  unfold putA
  rw [valA_any, h, if_neg (by simp)]
theorem putA_len {kvs : List (Key × α)} {k : Key} {v : α} : (putA kvs k v).length ≤ kvs.length + 1 := by
  unfold putA
  split
  · rw [List.length_map]; omega
  · rw [List.length_append]; exact Nat.le_refl _
theorem valA_drop {k k' : Key} : ∀ {kvs : List (Key × α)}, valA (dropA kvs k) k' = if k' = k then none else valA kvs k'
  | [] => by
    show valA [] k' = _
    rw [valA_nil]; split <;> rfl
  | p :: r => by
    unfold dropA
    rw [List.filter_cons]
    by_cases e : p.1 = k
    · rw [if_neg (by simp [e])]
      rw [show valA (r.filter fun kv => decide (kv.1 ≠ k)) k' = valA (dropA r k) k' from rfl, valA_drop (kvs := r)]
      by_cases e2 : k' = k
      · rw [if_pos e2, if_pos e2]
      · rw [if_neg e2, if_neg e2, valA_neg (fun z => e2 (z.symm.trans e))]
    · rw [if_pos (by simp [e])]
      by_cases e2 : p.1 = k'
      · rw [valA_pos e2, valA_pos e2, if_neg (fun z => e (e2.trans z))]
      · rw [valA_neg e2, valA_neg e2]
        exact valA_drop (kvs := r)
end
theorem valV_A {ws : List (Key × V)} {k : Key} : valV ws k = valA ws k := rfl
section
variable {K : PySem.W.Frag} {G : Hp}
theorem val_dt {k : Key} : ∀ {ws : List (Key × V)} {kvs : List (Key × D)}, ws.map (·.1) = kvs.map (·.1) → DtL K G (ws.map (·.2)) (kvs.map (·.2)) → (valA kvs k = none ∧ valV ws k = none) ∨ ∃ v d, valA kvs k = some d ∧ valV ws k = some v ∧ Dt K G v d
  | [], [], _, _ => .inl ⟨rfl, rfl⟩
  | [], _ :: _, e, _ => by cases e
  | _ :: _, [], e, _ => by cases e
  | p :: ws, q :: kvs, e, t => by
    rw [List.map_cons, List.map_cons] at e t
    cases t with
    | cons t1 t2 =>
      have e1 := (List.cons.inj e).1
      by_cases h : p.1 = k
      · exact .inr ⟨p.2, q.2, valA_pos (e1.symm.trans h), valV_pos h, t1⟩
      · rw [valA_neg (fun z => h (e1.trans z)), valV_neg h]
        exact val_dt (List.cons.inj e).2 t2
theorem any_dt {k : Key} {α β : Type} : ∀ {ws : List (Key × α)} {kvs : List (Key × β)}, ws.map (·.1) = kvs.map (·.1) → (ws.any fun kv => decide (kv.1 = k)) = kvs.any fun kv => decide (kv.1 = k)
  | [], [], _ => rfl
  | [], _ :: _, e => by cases e
  | _ :: _, [], e => by cases e
  | p :: ws, q :: kvs, e => by
    rw [List.map_cons, List.map_cons] at e
    rw [List.any_cons, List.any_cons, (List.cons.inj e).1, any_dt (List.cons.inj e).2]
theorem mapif_dt {k : Key} {v : V} {d : D} (r : Dt K G v d) : ∀ {ws : List (Key × V)} {kvs : List (Key × D)}, ws.map (·.1) = kvs.map (·.1) → DtL K G (ws.map (·.2)) (kvs.map (·.2)) →
    DtL K G ((ws.map fun kv => if kv.1 = k then (kv.1, v) else kv).map (·.2)) ((kvs.map fun kv => if kv.1 = k then (kv.1, d) else kv).map (·.2))
  | [], [], _, _ => .nil
  | [], _ :: _, e, _ => by cases e
  | _ :: _, [], e, _ => by cases e
  | p :: ws, q :: kvs, e, t => by
    rw [List.map_cons, List.map_cons] at e t
    cases t with
    | cons t1 t2 =>
      have e1 := (List.cons.inj e).1
      rw [List.map_cons, List.map_cons, List.map_cons, List.map_cons]
      refine .cons ?_ (mapif_dt r (List.cons.inj e).2 t2)
      by_cases h : p.1 = k
      · rw [if_pos h, if_pos (e1.symm.trans h)]; exact r
      · rw [if_neg h, if_neg (fun z => h (e1.trans z))]; exact t1
theorem putK_dt {k : Key} {v : V} {d : D} (r : Dt K G v d) {ws : List (Key × V)} {kvs : List (Key × D)} (e : ws.map (·.1) = kvs.map (·.1)) (t : DtL K G (ws.map (·.2)) (kvs.map (·.2))) :
    (putK ws k v).map (·.1) = (putA kvs k d).map (·.1) ∧ DtL K G ((putK ws k v).map (·.2)) ((putA kvs k d).map (·.2)) := by
  constructor
  · have h1 := putA_keys (kvs := ws) (k := k) (v := v)
    have h2 := putA_keys (kvs := kvs) (k := k) (v := d)
    rw [← valA_any] at h1 h2
    rw [show putK ws k v = putA ws k v from rfl, h1, h2, any_dt e, e]
  · unfold putK putA
    rw [any_dt e]
    split
    · exact mapif_dt r e t
    · rw [List.map_append, List.map_append]
      exact t.append (.cons r .nil)
theorem dropK_dt {k : Key} : ∀ {ws : List (Key × V)} {kvs : List (Key × D)}, ws.map (·.1) = kvs.map (·.1) → DtL K G (ws.map (·.2)) (kvs.map (·.2)) →
    (dropK ws k).map (·.1) = (dropA kvs k).map (·.1) ∧ DtL K G ((dropK ws k).map (·.2)) ((dropA kvs k).map (·.2))
  | [], [], _, _ => ⟨rfl, .nil⟩
  | [], _ :: _, e, _ => by cases e
  | _ :: _, [], e, _ => by cases e
  | p :: ws, q :: kvs, e, t => by
    rw [List.map_cons, List.map_cons] at e t
    cases t with
    | cons t1 t2 =>
      have e1 := (List.cons.inj e).1
      obtain ⟨i1, i2⟩ := dropK_dt (k := k) (List.cons.inj e).2 t2
      unfold dropK dropA at i1 i2 ⊢
      rw [List.filter_cons, List.filter_cons]
      by_cases h : p.1 = k
      · rw [if_neg (by simp [h]), if_neg (by simp [e1.symm.trans h])]
        exact ⟨i1, i2⟩
      · rw [if_pos (decide_eq_true h), if_pos (show decide (q.1 ≠ k) = true from decide_eq_true (fun z => h (e1.trans z)))]
        exact ⟨by rw [List.map_cons, List.map_cons, i1, e1], .cons t1 i2⟩
theorem Hs.dct {M : Mp} {H : Hp} {a : Addr} {kvs : List (Key × D)} (s : Hs K G M H) (h : M a = some (.dct kvs)) : ∃ ws, H a = some (.dK ws) ∧ ws.map (·.1) = kvs.map (·.1) ∧ DtL K G (ws.map (·.2)) (kvs.map (·.2)) := (s.ok a _ h).2
end
theorem len_keys {α β : Type} {ws : List (Key × α)} {kvs : List (Key × β)} (e : ws.map (·.1) = kvs.map (·.1)) : ws.length = kvs.length := by
  have h := congrArg List.length e
  rw [List.length_map, List.length_map] at h
  exact h
/-- a key as data -/
def kD : Key → D
  | .inl i => .int i
  | .inr x => .str x
theorem kD_dt {K : PySem.W.Frag} {G : Hp} {v : V} : ∀ {k : Key}, Dt K G v (kD k) → v = kV k
  | .inl i, h => by cases h; rfl
  | .inr x, h => by cases h; rfl
section
variable {J : Jx} {te ta tb td ty tx tv : TE} {t : TA} {ρ : Ro} {M : Mp} {d x y z : D} {P : Po} {R : D → Mp → Prop} {a : Addr} {kvs : List (Key × D)} {k : Key} {b : Bool}
theorem w_dnew (h : ∀ p, M p = none → R (.ref p) (ud M p (.dct []))) : W J tDNewK ρ M R := fun G σ H r s xo Q q p hp => q _ _ G _ _ (h p (s.none_m hp)) (Same.refl G) (s.new (m := .dct []) hp ⟨[], upd_same, rfl, .nil⟩) (.ref p)
theorem ev_dget (hd : Ev J td ρ M (.ref a)) (hk : Ev J ty ρ M (kD k)) (hm : M a = some (.dct kvs)) (h : valA kvs k = some z) : Ev J (tDGet td ty) ρ M z := fun G σ H r s xo Q q =>
  hd G σ H r s xo _ fun v d1 G1 M1 H1 e e1 s1 t1 => by
    obtain ⟨rfl, rfl⟩ := e
    refine hk G1 σ H1 (r.mono e1) s1 (xo.mono e1) _ fun v2 d2 G2 M2 H2 e e2 s2 t2 => ?_
    obtain ⟨rfl, rfl⟩ := e
    cases t1
    obtain ⟨ws, g1, g2, g3⟩ := s2.dct hm
    rcases val_dt (k := k) g2 g3 with ⟨n1, _⟩ | ⟨w, d, h1, h2, h3⟩
    · rw [n1] at h; cases h
    · rw [h] at h1
      cases h1
      refine ⟨a, w, rfl, ?_, q _ _ G2 _ H2 ⟨rfl, rfl⟩ (e1.trans e2) s2 h3⟩
      rw [kD_dt t2, ← h2]
      exact DGet.k g1
theorem ev_dget2 (hd : Ev J td ρ M (.ref a)) (hk : Ev J ty ρ M (kD k)) (hx : Ev J tx ρ M x) (hm : M a = some (.dct kvs)) : Ev J (tDGet2 td ty tx) ρ M ((valA kvs k).getD x) := fun G σ H r s xo Q q =>
  hd G σ H r s xo _ fun v d1 G1 M1 H1 e e1 s1 t1 => by
    obtain ⟨rfl, rfl⟩ := e
    cases t1
    obtain ⟨ws1, f1, _, _⟩ := s1.dct hm
    refine ⟨a, rfl, .inl ⟨ws1, .inl f1⟩, ?_⟩
    refine hk G1 σ H1 (r.mono e1) s1 (xo.mono e1) _ fun v2 d2 G2 M2 H2 e e2 s2 t2 => ?_
    obtain ⟨rfl, rfl⟩ := e
    refine hx G2 σ H2 (r.mono (e1.trans e2)) s2 (xo.mono (e1.trans e2)) _ fun v3 d3 G3 M3 H3 e e3 s3 t3 => ?_
    obtain ⟨rfl, rfl⟩ := e
    obtain ⟨ws, g1, g2, g3⟩ := s3.dct hm
    refine ⟨valV ws k, by rw [kD_dt t2]; exact DGet.k g1, ?_⟩
    rcases val_dt (k := k) g2 g3 with ⟨n1, n2⟩ | ⟨w, d, h1, h2, h3⟩
    · rw [n2]
      exact q _ _ G3 _ H3 ⟨by rw [n1]; rfl, rfl⟩ ((e1.trans e2).trans e3) s3 t3
    · rw [h2]
      exact q _ d G3 _ H3 ⟨by rw [h1]; rfl, rfl⟩ ((e1.trans e2).trans e3) s3 h3
theorem ev_din (hk : Ev J ty ρ M (kD k)) (hd : Ev J td ρ M (.ref a)) (hm : M a = some (.dct kvs)) : Ev J (tDIn ty td) ρ M (.bl (valA kvs k).isSome) := fun G σ H r s xo Q q =>
  hk G σ H r s xo _ fun v d1 G1 M1 H1 e e1 s1 t1 => by
    obtain ⟨rfl, rfl⟩ := e
    refine hd G1 σ H1 (r.mono e1) s1 (xo.mono e1) _ fun v2 d2 G2 M2 H2 e e2 s2 t2 => ?_
    obtain ⟨rfl, rfl⟩ := e
    cases t2
    obtain ⟨ws, g1, g2, g3⟩ := s2.dct hm
    refine ⟨a, valV ws k, rfl, by rw [kD_dt t1]; exact DGet.k g1, ?_⟩
    have e : (valV ws k).isSome = (valA kvs k).isSome := by rcases val_dt (k := k) g2 g3 with ⟨n1, n2⟩ | ⟨w, d, h1, h2, h3⟩ <;> simp [*]
    rw [e]
    exact q _ _ G2 _ H2 ⟨rfl, rfl⟩ (e1.trans e2) s2 (.bl _)
theorem ev_dnotin (hk : Ev J ty ρ M (kD k)) (hd : Ev J td ρ M (.ref a)) (hm : M a = some (.dct kvs)) : Ev J (tDNotIn ty td) ρ M (.bl (!(valA kvs k).isSome)) := fun G σ H r s xo Q q =>
  hk G σ H r s xo _ fun v d1 G1 M1 H1 e e1 s1 t1 => by
    obtain ⟨rfl, rfl⟩ := e
    refine hd G1 σ H1 (r.mono e1) s1 (xo.mono e1) _ fun v2 d2 G2 M2 H2 e e2 s2 t2 => ?_
    obtain ⟨rfl, rfl⟩ := e
    cases t2
    obtain ⟨ws, g1, g2, g3⟩ := s2.dct hm
    refine ⟨a, valV ws k, rfl, by rw [kD_dt t1]; exact DGet.k g1, ?_⟩
    have e : (valV ws k).isSome = (valA kvs k).isSome := by rcases val_dt (k := k) g2 g3 with ⟨n1, n2⟩ | ⟨w, d, h1, h2, h3⟩ <;> simp [*]
    rw [e]
    exact q _ _ G2 _ H2 ⟨rfl, rfl⟩ (e1.trans e2) s2 (.bl _)
theorem s_dput (hv : Ev J tv ρ M x) (hd : Ev J td ρ M (.ref a)) (hk : Ev J ty ρ M (kD k)) (hm : M a = some (.dct kvs)) (hl : kvs.length < sizeLine) (kk : P.nx ρ (ud M a (.dct (putA kvs k x)))) : S J (sDPut td ty tv) ρ M P := fun G σ H D' r s xo q =>
  hv G σ H r s xo _ fun v d1 G1 M1 H1 e e1 s1 t1 => by
    obtain ⟨rfl, rfl⟩ := e
    refine hd G1 σ H1 (r.mono e1) s1 (xo.mono e1) _ fun v2 d2 G2 M2 H2 e e2 s2 t2 => ?_
    obtain ⟨rfl, rfl⟩ := e
    refine hk G2 σ H2 (r.mono (e1.trans e2)) s2 (xo.mono (e1.trans e2)) _ fun v3 d3 G3 M3 H3 e e3 s3 t3 => ?_
    obtain ⟨rfl, rfl⟩ := e
    cases t2
    obtain ⟨g, ws, g1, g2, g3⟩ := s3.ok a _ hm
    obtain ⟨p1, p2⟩ := putK_dt (k := k) (t1.mono (e2.trans e3)) g2 g3
    refine ⟨a, upd H3 a (.dK (putK ws k v)), rfl, by rw [kD_dt t3]; exact DPut.k g1 (by rw [len_keys g2]; exact hl), ?_⟩
    exact q.nx G3 σ ρ _ _ kk ((e1.trans e2).trans e3) (r.mono ((e1.trans e2).trans e3)) (s3.put g ⟨_, upd_same, p1, p2⟩)
theorem w_dpop1 (hd : Ev J td ρ M (.ref a)) (hk : Ev J ty ρ M (kD k)) (hm : M a = some (.dct kvs)) (h : valA kvs k = some z) (kk : R z (ud M a (.dct (dropA kvs k)))) : W J (tDPop1 td ty) ρ M R := fun G σ H r s xo Q q =>
  hd G σ H r s xo _ fun v d1 G1 M1 H1 e e1 s1 t1 => by
    obtain ⟨rfl, rfl⟩ := e
    cases t1
    obtain ⟨ws1, f1, _, _⟩ := s1.dct hm
    refine ⟨a, rfl, .inl ⟨ws1, .inl f1⟩, ?_⟩
    refine hk G1 σ H1 (r.mono e1) s1 (xo.mono e1) _ fun v2 d2 G2 M2 H2 e e2 s2 t2 => ?_
    obtain ⟨rfl, rfl⟩ := e
    obtain ⟨g, ws, g1, g2, g3⟩ := s2.ok a _ hm
    rcases val_dt (k := k) g2 g3 with ⟨n1, _⟩ | ⟨w, d, h1, h2, h3⟩
    · rw [n1] at h; cases h
    · rw [h] at h1
      cases h1
      obtain ⟨p1, p2⟩ := dropK_dt (k := k) g2 g3
      exact ⟨ws, k, w, g1, kD_dt t2, h2, q _ _ G2 _ _ kk (e1.trans e2) (s2.put g ⟨_, upd_same, p1, p2⟩) h3⟩
theorem ev_lenD (hd : Ev J td ρ M (.ref a)) (hm : M a = some (.dct kvs)) : Ev J (tCB (fun xs H Q => ∃ a kvs, xs = [V.ref a] ∧ H a = some (.dK kvs) ∧ Q (.int kvs.length) H) (tCons td tNil)) ρ M (.int kvs.length) :=
  w_cb1 (ea_cons hd ea_nil) (opA_val fun G H vs s tx => by
    cases tx with
    | cons t1 t2 =>
      cases t2
      cases t1
      obtain ⟨ws, g1, g2, g3⟩ := s.dct hm
      exact ⟨_, .int _, fun Q q => ⟨a, ws, rfl, g1, by rw [len_keys g2]; exact q⟩⟩)
/-- sorted(d.keys()) -/
theorem w_sortedKeys {ks : List Int} (hd : Ev J td ρ M (.ref a)) (hm : M a = some (.dct kvs)) (hk : kvs.map (·.1) = ks.map Sum.inl) (h : ∀ (ys : List Int) p, ys.Perm ks → ys.Pairwise (· ≤ ·) → M p = none → R (.ref p) (ud M p (.lst (ys.map .int)))) : W J (tSortedKeys td) ρ M R := fun G σ H r s xo Q q =>
  hd G σ H r s xo _ fun v d1 G1 M1 H1 e e1 s1 t1 => by
    obtain ⟨rfl, rfl⟩ := e
    cases t1
    obtain ⟨ws, g1, g2, g3⟩ := s1.dct hm
    exact ⟨a, ws, ks, rfl, g1, g2.trans hk, fun ys p hp hs hn => q _ _ G1 _ _ (h ys p hp hs (s1.none_m hn)) e1 (s1.new (m := .lst (ys.map .int)) hn ⟨_, upd_same, DtL.of_ints ys⟩) (.ref p)⟩
theorem en_sortedKeys {ks ys : List Int} (hd : Ev J td ρ M (.ref a)) (hm : M a = some (.dct kvs)) (hk : kvs.map (·.1) = ks.map Sum.inl) (hy : ys.Perm ks) (hs : ys.Pairwise (· ≤ ·)) : EvN J (tSortedKeys td) ρ M (ys.map .int) :=
  w_sortedKeys hd hm hk fun zs p hp hz hn => by
    have e : zs = ys := List.Perm.eq_of_pairwise (le := (· ≤ ·)) (fun a b _ _ h1 h2 => Int.le_antisymm h1 h2) hz hs (hp.trans hy.symm)
    rw [e]
    exact ⟨p, hn, rfl, rfl⟩
theorem en_listVals (hd : Ev J td ρ M (.ref a)) (hm : M a = some (.dct kvs)) : EvN J (tListVals td) ρ M (kvs.map (·.2)) := fun G σ H r s xo Q q =>
  hd G σ H r s xo _ fun v d1 G1 M1 H1 e e1 s1 t1 => by
    obtain ⟨rfl, rfl⟩ := e
    cases t1
    obtain ⟨ws, g1, g2, g3⟩ := s1.dct hm
    exact ⟨a, ws, rfl, g1, fun p hp => q _ _ G1 _ _ ⟨p, s1.none_m hp, rfl, rfl⟩ e1 (s1.new (m := .lst (kvs.map (·.2))) hp ⟨_, upd_same, g3⟩) (.ref p)⟩
end
theorem Hs.less {K : PySem.W.Frag} {G H : Hp} {M M2 : Mp} (s : Hs K G M H) (l : Sub M2 M) : Hs K G M2 H := ⟨s.sub, fun a o e => s.ok a o (l a o e)⟩
section
variable {J : Jx} {te : TE} {ts : TS} {ρ : Ro} {M : Mp} {R R' : D → Mp → Prop} {P : Po}
/-- what nobody asks for any more may leave the ledger -/
theorem W.weak (h : W J te ρ M R') (k : ∀ d M', R' d M' → ∃ M2, Sub M2 M' ∧ R d M2) : W J te ρ M R := fun G σ H r s xo Q q => h G σ H r s xo Q fun v d G' M' H' r1 e1 s1 t1 => by
  obtain ⟨M2, l, r2⟩ := k d M' r1
  exact q v d G' M2 H' r2 e1 (s1.less l) t1
theorem s_less {M2 : Mp} (l : Sub M2 M) (h : S J ts ρ M2 P) : S J ts ρ M P := fun G σ H D' r s xo q => h G σ H D' r (s.less l) xo q
theorem S.rtweak {rt' : D → Mp → Prop} (h : S J ts ρ M ⟨P.nx, rt', P.bk, P.ct⟩) (k : ∀ d M', rt' d M' → ∃ M2, Sub M2 M' ∧ P.rt d M2) : S J ts ρ M P := fun G σ H D' r s xo q => h G σ H D' r s xo ⟨q.nx, fun G' v d M' H' h1 e1 s1 t1 => by
  obtain ⟨M2, l, r2⟩ := k d M' h1
  exact q.rt G' v d M2 H' r2 e1 (s1.less l) t1, q.bk, q.ct⟩
end
theorem sub_ud {M M' : Mp} {p : Addr} {o : MO} (s : Sub M M') : Sub (ud M p o) (ud M' p o) := fun a u e => by
  unfold ud at e ⊢
  by_cases z : a = p
  · rw [if_pos z] at e ⊢; exact e
  · rw [if_neg z] at e ⊢; exact s a u e
section
variable {J : Jx} {ta : TE} {ρ : Ro} {M : Mp} {x : D} {R : D → Mp → Prop}
theorem w_max {ns : List Int} (ha : Ev J ta ρ M x) (hx : IsL M x (ns.map .int)) (h0 : 0 < ns.length) (h : ∀ m, m ∈ ns → (∀ y, y ∈ ns → y ≤ m) → R (.int m) M) : W J (tCB (rMax J.K) (tCons ta tNil)) ρ M R :=
  w_cb1 (ea_cons ha ea_nil) fun G H vs s tx Q q => by
    cases tx with
    | cons t1 t2 =>
      cases t2
      obtain ⟨a, xs, rfl, h1, h2⟩ := hx.at s t1
      have e := h2.ints
      subst e
      exact ⟨a, ns, rfl, h1, h0, fun m hm hle => q _ _ G M H (h m hm hle) (Same.refl G) s (.int m)⟩
theorem w_min {ns : List Int} (ha : Ev J ta ρ M x) (hx : IsL M x (ns.map .int)) (h0 : 0 < ns.length) (h : ∀ m, m ∈ ns → (∀ y, y ∈ ns → m ≤ y) → R (.int m) M) : W J (tCB (rMin J.K) (tCons ta tNil)) ρ M R :=
  w_cb1 (ea_cons ha ea_nil) fun G H vs s tx Q q => by
    cases tx with
    | cons t1 t2 =>
      cases t2
      obtain ⟨a, xs, rfl, h1, h2⟩ := hx.at s t1
      have e := h2.ints
      subst e
      exact ⟨a, ns, rfl, h1, h0, fun m hm hle => q _ _ G M H (h m hm hle) (Same.refl G) s (.int m)⟩
end
end DL

namespace DL
open PySem L2
section
variable {J : Jx} {te ta tb tn : TE} {ρ : Ro} {M : Mp} {R : D → Mp → Prop}
/-- list(range(n)) -/
theorem rg_dt {K : PySem.W.Frag} {G : Hp} (n : Int) : DtL K G (rgV 0 n) (((List.range n.toNat).map fun (k : Nat) => (k : Int)).map D.int) := by
  have e : rgV 0 n = ((List.range n.toNat).map fun (k : Nat) => (k : Int)).map V.int := by
    unfold rgV
    rw [List.map_map, Int.sub_zero]
    refine List.map_congr_left fun k _ => ?_
    show V.int (0 + (k : Int)) = V.int (k : Int)
    rw [Int.zero_add]
  rw [e]
  exact DtL.of_ints _
theorem en_listRg {n : Int} (hn : Ev J tn ρ M (.int n)) (h1 : 0 ≤ n) (h2 : n ≤ 1000000) : EvN J (tLstRg (tRg1 tn)) ρ M (((List.range n.toNat).map fun (k : Nat) => (k : Int)).map D.int) := fun G σ H r s xo Q q =>
  hn G σ H r s xo _ fun v d1 G1 M1 H1 e e1 s1 t1 => by
    obtain ⟨rfl, rfl⟩ := e
    cases t1
    refine ⟨n, rfl, .of_le (Int.le_refl 0) (by omega) (by omega) h1, fun p hp => ?_⟩
    exact q _ _ G1 _ _ ⟨p, s1.none_m hp, rfl, rfl⟩ e1 (s1.new (m := .lst (((List.range n.toNat).map fun (k : Nat) => (k : Int)).map D.int)) hp ⟨_, upd_same, rg_dt n⟩) (.ref p)
/-- is None of what may change the ledger -/
theorem w_isN (h : W J ta ρ M fun d M' => R (.bl (isNon d)) M') : W J (tIsN ta) ρ M R := fun G σ H r s xo Q q =>
  h G σ H r s xo _ fun v d' G' M' H' e e1 s1 t1 => by
    show Q (.bl (decide (v = .non))) H'
    rw [isNon_dt t1]
    exact q _ _ G' M' H' e e1 s1 (.bl _)
end
/-! ### rows by their numbers -/
abbrev Th := List (Int × List Int)
abbrev rowD (r : List Int) : D := .lst (r.map .int)
def thD (th : Th) : List (Key × D) := th.map fun p => (.inl p.1, rowD p.2)
theorem thD_keys (th : Th) : (thD th).map (·.1) = (th.map (·.1)).map Sum.inl := by
  unfold thD; rw [List.map_map, List.map_map]; rfl
theorem thD_len (th : Th) : (thD th).length = th.length := List.length_map _
def thGet (th : Th) (n : Int) : Option (List Int) := (th.find? fun p => decide (p.1 = n)).map (·.2)
theorem thD_val (n : Int) : ∀ th : Th, valA (thD th) (.inl n) = (thGet th n).map rowD
  | [] => rfl
  | p :: th => by
    unfold thD thGet
    rw [List.map_cons, List.find?_cons]
    by_cases e : p.1 = n
    · rw [valA_pos (p := (Sum.inl p.1, rowD p.2)) (by rw [e]), decide_eq_true e]; rfl
    · rw [valA_neg (p := (Sum.inl p.1, rowD p.2)) (fun z => e (Sum.inl.inj z)), decide_eq_false e]
      exact thD_val n th
theorem thGet_mem {th : Th} {n : Int} {r : List Int} (h : thGet th n = some r) : (n, r) ∈ th := by
  unfold thGet at h
  cases e : th.find? fun p => decide (p.1 = n) with
  | none => rw [e] at h; cases h
  | some p =>
    rw [e] at h
    cases h
    have h0 : decide (p.1 = n) = true := List.find?_some (p := fun p : Int × List Int => decide (p.1 = n)) e
    have := of_decide_eq_true h0
    rw [← this]
    exact List.mem_of_find?_eq_some e
theorem thGet_of {n : Int} {r : List Int} : ∀ {th : Th}, (th.map (·.1)).Nodup → (n, r) ∈ th → thGet th n = some r
  | p :: th, hn, h => by
    unfold thGet
    rw [List.find?_cons]
    rw [List.map_cons, List.nodup_cons] at hn
    rcases List.mem_cons.mp h with rfl | h
    · rw [decide_eq_true rfl]; rfl
    · have : ¬ p.1 = n := fun e => hn.1 (by rw [e]; exact List.mem_map_of_mem (f := (·.1)) h)
      rw [decide_eq_false this]
      exact thGet_of hn.2 h
theorem thGet_none {th : Th} {n : Int} : thGet th n = none ↔ n ∉ th.map (·.1) := by
  unfold thGet
  rw [Option.map_eq_none_iff, List.find?_eq_none]
  constructor
  · intro h z
    obtain ⟨p, hp, e⟩ := List.mem_map.mp z
    exact h p hp (decide_eq_true e)
  · intro h p hp z
    exact h (List.mem_map.mpr ⟨p, hp, of_decide_eq_true z⟩)
def thDrop (th : Th) (n : Int) : Th := th.filter fun p => decide (p.1 ≠ n)
theorem thD_drop (th : Th) (n : Int) : dropA (thD th) (.inl n) = thD (thDrop th n) := by
  unfold dropA thD thDrop
  rw [List.filter_map]
  congr 1
  refine List.filter_congr fun p _ => ?_
  show decide ((Sum.inl p.1 : Key) ≠ .inl n) = decide (p.1 ≠ n)
  rw [Bool.eq_iff_iff, decide_eq_true_eq, decide_eq_true_eq]
  exact ⟨fun h z => h (by rw [z]), fun h z => h (Sum.inl.inj z)⟩
/-- a row put at a number, new or not -/
def thPut (th : Th) (n : Int) (r : List Int) : Th := if (thGet th n).isSome = true then th.map (fun p => if p.1 = n then (p.1, r) else p) else th ++ [(n, r)]
theorem thD_any (th : Th) (n : Int) : ((thD th).any fun kv => decide (kv.1 = .inl n)) = (thGet th n).isSome := by
  rw [valA_any, thD_val]; cases thGet th n <;> rfl
theorem thD_put (th : Th) (n : Int) (r : List Int) : putA (thD th) (.inl n) (rowD r) = thD (thPut th n r) := by
  unfold putA thPut
  rw [thD_any]
  by_cases e : (thGet th n).isSome = true
  · rw [if_pos e, if_pos e]
    unfold thD
    rw [List.map_map, List.map_map]
    refine List.map_congr_left fun p _ => ?_
    show (if (Sum.inl p.1 : Key) = .inl n then (Sum.inl p.1, rowD r) else (Sum.inl p.1, rowD p.2)) = (Sum.inl (if p.1 = n then (p.1, r) else p).1, rowD (if p.1 = n then (p.1, r) else p).2)
    by_cases e2 : p.1 = n
    · rw [if_pos (by rw [e2]), if_pos e2]
    · rw [if_neg (fun z => e2 (Sum.inl.inj z)), if_neg e2]
  · rw [if_neg e, if_neg e]
    unfold thD
    rw [List.map_append]
    rfl
theorem thDrop_mem {th : Th} {n : Int} {p : Int × List Int} : p ∈ thDrop th n ↔ p ∈ th ∧ p.1 ≠ n := by
  unfold thDrop; rw [List.mem_filter, decide_eq_true_eq]
theorem thDrop_nodup {th : Th} {n : Int} (h : (th.map (·.1)).Nodup) : ((thDrop th n).map (·.1)).Nodup := List.Nodup.sublist (List.Sublist.map _ List.filter_sublist) h
theorem thDrop_perm {n : Int} {r : List Int} : ∀ {th : Th}, (th.map (·.1)).Nodup → (n, r) ∈ th → th.Perm ((n, r) :: thDrop th n)
  | p :: th, hn, h => by
    rw [List.map_cons, List.nodup_cons] at hn
    rcases List.mem_cons.mp h with rfl | h
    · unfold thDrop
      rw [List.filter_cons_of_neg (by simp)]
      have e : th.filter (fun p => decide (p.1 ≠ n)) = th := List.filter_eq_self.mpr fun q hq => decide_eq_true fun z => hn.1 (by rw [← z]; exact List.mem_map_of_mem (f := (·.1)) hq)
      rw [e]
    · have : p.1 ≠ n := fun e => hn.1 (by rw [e]; exact List.mem_map_of_mem (f := (·.1)) h)
      unfold thDrop
      rw [List.filter_cons_of_pos (by simpa using this)]
      exact ((thDrop_perm hn.2 h).cons p).trans (List.Perm.swap _ _ _)
/-- the ints of a list, rising -/
def srtI (ks : List Int) : List Int := ks.mergeSort
theorem srtI_perm (ks : List Int) : (srtI ks).Perm ks := List.mergeSort_perm _ _
theorem srtI_le (ks : List Int) : (srtI ks).Pairwise (· ≤ ·) := by
  have h := List.pairwise_mergeSort (le := fun a b : Int => decide (a ≤ b)) (fun a b c h1 h2 => by simp at *; omega) (fun a b => by simp; omega) ks
  exact h.imp fun h => by simpa using h
theorem srtI_lt {ks : List Int} (h : ks.Nodup) : (srtI ks).Pairwise (· < ·) := by
  have h2 : (srtI ks).Nodup := (srtI_perm ks).nodup_iff.mpr h
  exact ((srtI_le ks).and h2).imp fun ⟨h1, h2⟩ => by omega
theorem srtI_mem {ks : List Int} {n : Int} : n ∈ srtI ks ↔ n ∈ ks := (srtI_perm ks).mem_iff
section
variable {J : Jx} {td : TE} {ρ : Ro} {M : Mp} {a : Addr}
theorem en_thKeys {th : Th} (hd : Ev J td ρ M (.ref a)) (hm : M a = some (.dct (thD th))) : EvN J (tSortedKeys td) ρ M ((srtI (th.map (·.1))).map .int) := en_sortedKeys hd hm (thD_keys th) (srtI_perm _) (srtI_le _)
end
end DL

namespace DL
open PySem L2
/-! ### bits, for the tactic -/
theorem Bt.add2 {n m : Nat} {i j : Int} (h : Bt n i) (k : Bt m j) : Bt (max n m + 1) (i + j) := Bt.add (h.mono (Nat.le_max_left _ _)) (k.mono (Nat.le_max_right _ _))
theorem Bt.sub2 {n m : Nat} {i j : Int} (h : Bt n i) (k : Bt m j) : Bt (max n m + 1) (i - j) := Bt.sub (h.mono (Nat.le_max_left _ _)) (k.mono (Nat.le_max_right _ _))
theorem bt_lit (i : Int) : Bt (Builtin.Int.intBits i) i := Nat.le_refl _
theorem cubeOk {n : Nat} {i : Int} (h : Bt n i) (l : n ≤ 40000000) : CPowW i 3 := by
  refine ⟨by decide, ?_⟩
  have h1 : Builtin.Int.intBits i ≤ n := h
  omega
section
variable {J : Jx} {te ta tb tn : TE} {t : TA} {ρ : Ro} {M : Mp} {x y : D} {R : D → Mp → Prop}
/-! ### in -/
theorem inV_int (i : Int) : ∀ ns : List Int, inV (.int i) (ns.map V.int) = decide (i ∈ ns)
  | [] => rfl
  | n :: ns => by
    have ih := inV_int i ns
    unfold inV at ih ⊢
    rw [List.map_cons, List.any_cons, ih]
    show (n == i || decide (i ∈ ns)) = _
    rw [Bool.eq_iff_iff, Bool.or_eq_true, beq_iff_eq, decide_eq_true_eq, decide_eq_true_eq, List.mem_cons]
    exact ⟨fun h => h.elim (fun e => .inl e.symm) .inr, fun h => h.elim (fun e => .inl e.symm) .inr⟩
theorem flat_ints : ∀ ns : List Int, (ns.map V.int).all flatV = true
  | [] => rfl
  | n :: ns => by rw [List.map_cons, List.all_cons, flat_ints ns]; rfl
theorem ev_inI {i : Int} {ns : List Int} (ha : Ev J ta ρ M (.int i)) (hb : Ev J tb ρ M y) (hy : IsQ M y (ns.map .int)) : Ev J (tOp (rIn J.K false) ta tb) ρ M (.bl (decide (i ∈ ns))) :=
  w_op1 ha hb (op2_val fun G H vx vy s tx ty => by
    cases tx
    obtain ⟨a, xs, rfl, h1, h2⟩ := hy.at s ty
    have e := h2.ints
    subst e
    exact ⟨_, .bl _, fun Q q => ⟨a, _, rfl, h1, rfl, flat_ints ns, by rw [if_neg (by decide), inV_int]; exact q⟩⟩)
theorem ev_notInI {i : Int} {ns : List Int} (ha : Ev J ta ρ M (.int i)) (hb : Ev J tb ρ M y) (hy : IsQ M y (ns.map .int)) : Ev J (tOp (rIn J.K true) ta tb) ρ M (.bl (!decide (i ∈ ns))) :=
  w_op1 ha hb (op2_val fun G H vx vy s tx ty => by
    cases tx
    obtain ⟨a, xs, rfl, h1, h2⟩ := hy.at s ty
    have e := h2.ints
    subst e
    exact ⟨_, .bl _, fun Q q => ⟨a, _, rfl, h1, rfl, flat_ints ns, by rw [if_pos rfl, inV_int]; exact q⟩⟩)
/-! ### sorted, all -/
theorem srtI_eq {ks zs : List Int} (hp : zs.Perm ks) (hz : zs.Pairwise (· ≤ ·)) : zs = srtI ks :=
  List.Perm.eq_of_pairwise (le := (· ≤ ·)) (fun a b _ _ h1 h2 => Int.le_antisymm h1 h2) hz (srtI_le ks) (hp.trans (srtI_perm ks).symm)
theorem w_sortedI {ns : List Int} (ha : W J ta ρ M fun x M1 => IsL M1 x (ns.map .int) ∧ ∀ p, M1 p = none → R (.ref p) (ud M1 p (.lst ((srtI ns).map .int)))) : W J (tCB (rSortedI J.K) (tCons ta tNil)) ρ M R :=
  w_cb (wa_cons (ha.imp fun x M1 h => wa_nil (by
    obtain ⟨hx, k⟩ := h
    intro G H vs s tx Q q
    cases tx with
    | cons t1 t2 =>
      cases t2
      obtain ⟨a, xs, rfl, h1, h2⟩ := hx.at s t1
      have e := h2.ints
      subst e
      refine ⟨a, ns, rfl, h1, fun ns' p hp hs hn => ?_⟩
      rw [srtI_eq hp hs]
      exact q _ _ G _ _ (k p (s.none_m hn)) (Same.refl G) (s.new (m := .lst ((srtI ns).map .int)) hn ⟨_, upd_same, DtL.of_ints _⟩) (.ref p))))
theorem en_sortedI {ns : List Int} (ha : Ev J ta ρ M x) (hx : IsL M x (ns.map .int)) : EvN J (tCB (rSortedI J.K) (tCons ta tNil)) ρ M ((srtI ns).map .int) :=
  w_sortedI (ha.w ⟨hx, fun p hp => ⟨p, hp, rfl, rfl⟩⟩)
theorem ev_all {bs : List Bool} (ha : Ev J ta ρ M x) (hx : IsL M x (bs.map .bl)) : Ev J (tCB (rAll J.K) (tCons ta tNil)) ρ M (.bl (bs.all id)) :=
  w_cb1 (ea_cons ha ea_nil) (opA_val fun G H vs s tx => by
    cases tx with
    | cons t1 t2 =>
      cases t2
      obtain ⟨a, xs, rfl, h1, h2⟩ := hx.at s t1
      have e := h2.bls
      subst e
      exact ⟨_, .bl _, fun Q q => ⟨a, bs, rfl, h1, q⟩⟩)
/-! ### a tuple and a tuple -/
theorem ev_catT {ds es : List D} (ha : Ev J ta ρ M (.tup ds)) (hb : Ev J tb ρ M (.tup es)) (h0 : ds ≠ []) (hl : ds.length + es.length ≤ sizeLine) : Ev J (tOp (rCatT J.K) ta tb) ρ M (.tup (ds ++ es)) :=
  w_op1 ha hb fun G H vx vy s tx ty Q q => by
    obtain ⟨a, xs, rfl, h1, h2⟩ := tup_at s tx
    obtain ⟨b, ys, rfl, g1, g2⟩ := tup_at s ty
    refine ⟨a, b, xs, ys, rfl, rfl, SqT.of h1, SqT.of g1, fun z => ?_, by rw [h2.length, g2.length]; exact hl, fun z => ?_, fun _ p hp => ?_⟩
    · have e := h2.length
      rw [z] at e
      exact h0 (List.length_eq_zero_iff.mp e.symm)
    · have e := g2.length
      rw [z] at e
      have e2 : es = [] := List.length_eq_zero_iff.mp e.symm
      subst e2
      refine q _ _ G M H ⟨?_, rfl⟩ (Same.refl G) s tx
      rw [List.append_nil]
    · obtain ⟨e2, s2⟩ := s.froz (o := .tup (xs ++ ys)) hp
      exact q _ _ _ _ _ ⟨rfl, rfl⟩ e2 s2 (.tup upd_same ((h2.append g2).mono e2))
/-! ### a list's truth -/
theorem et_truthQ {ds : List D} (ha : Ev J ta ρ M x) (hx : IsQ M x ds) : ET J (fun σ H Q => ta σ H fun x H' => ∃ k, TruV J.K x H' k ∧ Q k H') ρ M (!ds.isEmpty) := fun G σ H r s xo Q q =>
  ha G σ H r s xo _ fun v d G1 M1 H1 e e1 s1 t1 => by
    obtain ⟨rfl, rfl⟩ := e
    obtain ⟨a, xs, rfl, h1, h2⟩ := hx.at s1 t1
    have e : (!xs.isEmpty) = !ds.isEmpty := by
      cases h2 <;> rfl
    refine ⟨!ds.isEmpty, ?_, q _ G1 M1 H1 ⟨rfl, rfl⟩ e1 s1⟩
    rcases h1 with h1 | h1
    · exact .inl ⟨xs, h1, e.symm⟩
    · exact .inr (.inl ⟨xs, h1, e.symm⟩)
/-! ### [f(k) for k in range(n) if c(k)] -/
theorem en_rngC {i : Nat} {tt : TT} {n : Int} (c : Int → Bool) (f : Int → D) (hn : Ev J tn ρ M (.int n)) (h1 : -(2 ^ 62) ≤ n) (h2 : n ≤ 1000000) (ht : ∀ M1 (k : Int), Sub M M1 → 0 ≤ k → k < n → ET J tt (ρ.set i (some (.int k))) M1 (c k)) (he : ∀ M1 (k : Int), Sub M M1 → 0 ≤ k → k < n → c k = true → Ev J te (ρ.set i (some (.int k))) M1 (f k)) : EvN J (tLc (iRng1 (tCons tn tNil)) (gName i) tt te [i]) ρ M (((List.range n.toNat).filter fun (k : Nat) => c (k : Int)).map fun (k : Nat) => f (k : Int)) := by
  have e : ∀ k : Nat, (0 : Int) + (k : Int) = (k : Int) := fun k => Int.zero_add _
  refine en_lc (List.range n.toNat) (fun k => D.int (0 + (k : Int))) (fun (k : Nat) => c (k : Int)) (fun (k : Nat) => f (k : Int)) (src_rng1 hn h1 (by omega)) (fun _ _ => trivial) (szl (by rw [List.length_range]; omega)) (fun M1 k sb hk => ?_) fun M1 k sb hk hc => ?_
  · rw [e]
    have hk' := List.mem_range.mp hk
    exact ht M1 k sb (by omega) (by omega)
  · rw [e]
    have hk' := List.mem_range.mp hk
    exact he M1 k sb (by omega) (by omega) hc
end
end DL

namespace DL
open PySem L2
/-! ### len(set(t)), t a tuple of ints -/
theorem keys_len : ∀ (keys ns : List Int), keys.Nodup → (∀ k ∈ keys, k ∈ ns) → keys.length ≤ ns.length
  | [], ns, _, _ => Nat.zero_le _
  | k :: ks, ns, hn, h => by
    obtain ⟨a, b, rfl⟩ := List.append_of_mem (h k List.mem_cons_self)
    have hn := List.nodup_cons.mp hn
    have ih := keys_len ks (a ++ b) hn.2 fun x hx => by
      have := h x (List.mem_cons_of_mem _ hx)
      rcases List.mem_append.mp this with z | z
      · exact List.mem_append_left _ z
      · rcases List.mem_cons.mp z with z | z
        · exact absurd (z ▸ hx) hn.1
        · exact List.mem_append_right _ z
    rw [List.length_append] at ih
    rw [List.length_append, List.length_cons, List.length_cons]
    omega
theorem keys_nodup : ∀ (keys ns : List Int), keys.Nodup → (∀ k ∈ keys, k ∈ ns) → keys.length = ns.length → ns.Nodup
  | [], ns, _, _, e => by rw [List.length_eq_zero_iff.mp e.symm]; exact List.nodup_nil
  | k :: ks, ns, hn, h, e => by
    obtain ⟨a, b, rfl⟩ := List.append_of_mem (h k List.mem_cons_self)
    have hn' := List.nodup_cons.mp hn
    have hsub : ∀ x ∈ ks, x ∈ a ++ b := fun x hx => by
      have := h x (List.mem_cons_of_mem _ hx)
      rcases List.mem_append.mp this with z | z
      · exact List.mem_append_left _ z
      · rcases List.mem_cons.mp z with z | z
        · exact absurd (z ▸ hx) hn'.1
        · exact List.mem_append_right _ z
    have el : ks.length = (a ++ b).length := by
      rw [List.length_append, List.length_cons, List.length_cons] at e
      rw [List.length_append]
      omega
    have ih := keys_nodup ks (a ++ b) hn'.2 hsub el
    have hk : k ∉ a ++ b := fun z => by
      have := keys_len (k :: ks) (a ++ b) hn fun x hx => by
        rcases List.mem_cons.mp hx with rfl | hx
        · exact z
        · exact hsub x hx
      rw [List.length_cons] at this
      omega
    exact List.perm_middle.nodup_iff.mpr (List.nodup_cons.mpr ⟨hk, ih⟩)
def tLenSetT (K : PySem.W.Frag) (ta : TE) : TE := fun σ H Q => ta σ H fun x H1 => ∃ (l : Addr) (ns : List Int), x = .ref l ∧ SqT K H1 l (ns.map V.int) ∧ ns.length ≤ 1000 ∧ ∀ n : Nat, n ≤ ns.length → (n = ns.length ↔ ns.Nodup) → Q (.int (n : Int)) H1
section
open PySem.Spec PyProof.Rows
theorem pe_lenSetT {X : Cx} {a : Expr} {ta : TE} {p p2 q pos : Pos} (hc : X.calm = true) (hg : Gl X "len") (hm : X.mg "len" = none) (hg2 : Gl X "set") (hm2 : X.mg "set" = none) (ha : PE X a ta)
    (na : starEach [a] X.env = (false, eval a X.env) :: starEach [] X.env := by rfl) : PE X (.Call (.Name "len" p) [.Call (.Name "set" p2) [a] [] q] [] pos) (tLenSetT X.K ta) := by
  refine ⟨fun pins s σ H Q I h => ?_⟩
  refine Call_ (ld_blt I hg hm boot_len ?_)
  refine PyProof.Rows.callWith_builtin1 (PyProof.Rows.args_cons ?_ rfl) rfl rfl
  refine Call_ (ld_blt I hg2 hm2 PyProof.Rows.boot_set ?_)
  refine PyProof.Rows.callWith_type1 (PyProof.Rows.args_cons (thn (ha.run pins s σ H _ I h) fun v s1 ⟨x, H1, I1, r1, q1⟩ => PyProof.Rows.args_nil ?_) na) na rfl
  obtain ⟨l, ns, rfl, hq, hl, q1⟩ := q1
  cases r1
  obtain ⟨its, r, pl, hz⟩ := I1.tuple hq
  refine call_set_tupI ns (I1.ok.hd hc) pl (by simpa using r.ints) (by unfold scanBound; omega) fun h' tk c hS hcl hk => ?_
  refine PyProof.Rows.args_nil ?_
  obtain ⟨o, es, ep, t, ho, hex, hd, hg', hnd, hmem, hb, hf, hn, _⟩ := hS
  have I2 : Inv X pins σ H1 { s1 with heap := h', toks := tk } := I1.kept fun b o e => hk b o e
  have hkl : (es.toList.map keyOf).length = c := by rw [List.length_map, Array.length_toList]; exact hn
  have hsub : ∀ k ∈ es.toList.map keyOf, k ∈ ns := fun k hk => of_decide_eq_true ((hmem k).mpr hk)
  have hsup : ∀ k ∈ ns, k ∈ es.toList.map keyOf := fun k hk => (hmem k).mp (decide_eq_true hk)
  refine call_len_set ho hex hd hf (by rw [hn]; omega) ⟨.int (c : Int), H1, I2.tok _, ⟨_, by rw [hn]⟩, q1 c hcl ⟨fun e => ?_, fun e => ?_⟩⟩
  · exact keys_nodup _ _ hnd hsub (by rw [hkl]; exact e)
  · have h1 := keys_len ns (es.toList.map keyOf) e hsup
    omega
/-- a walk over a list or a tuple -/
def iOr (a b : TI) : TI := fun σ H R => a σ H R ∨ b σ H R
theorem pi_or {X : Cx} {tg e : Expr} {a b : TI} (ha : PI X tg e a) (hb : PI X tg e b) : PI X tg e (iOr a b) := ⟨fun pins s σ H R I h => h.elim (ha.run pins s σ H R I) (hb.run pins s σ H R I)⟩
theorem hu65 {A : Around} {k : Nat} (hr : Room k A) : A.units + 65 < cLine := by have := hr.un; omega
theorem kx_inD {X : Cx} {K : PySem.W.Frag} (h : X.K = K) (hu : X.A.units + 65 < cLine) : OpR X (compareOp .In) (rInD K) := h ▸ op_inD hu
theorem kx_notInD {X : Cx} {K : PySem.W.Frag} (h : X.K = K) (hu : X.A.units + 65 < cLine) : OpR X (compareOp .NotIn) (rNotInD K) := h ▸ op_notInD hu
end
section
variable {J : Jx} {te ta tb tn : TE} {t : TA} {ρ : Ro} {M : Mp} {x y d : D} {ds : List D} {b : Bool} {R : D → Mp → Prop}
theorem w_lenSet {ns : List Int} (ha : Ev J ta ρ M (.tup (ns.map .int))) (hl : ns.length ≤ 1000) (k : ∀ n : Nat, n ≤ ns.length → (n = ns.length ↔ ns.Nodup) → R (.int (n : Int)) M) : W J (tLenSetT J.K ta) ρ M R := fun G σ H r s xo Q q =>
  ha G σ H r s xo _ fun v d1 G1 M1 H1 e e1 s1 t1 => by
    obtain ⟨rfl, rfl⟩ := e
    obtain ⟨a, xs, rfl, h1, h2⟩ := tup_at s1 t1
    have e := h2.ints
    subst e
    exact ⟨a, ns, rfl, SqT.of h1, hl, fun n h3 h4 => q _ _ G1 _ H1 (k n h3 h4) e1 s1 (.int _)⟩
theorem ev_lenSet {ns : List Int} (ha : Ev J ta ρ M (.tup (ns.map .int))) (hl : ns.length ≤ 1000) (hn : ns.Nodup) : Ev J (tLenSetT J.K ta) ρ M (.int ns.length) :=
  w_lenSet ha hl fun n _ h => ⟨by rw [h.mpr hn], rfl⟩
/-! ### isinstance(x, (list, tuple)) -/
def kitB2 (a b c : String) : Option Bool := match kitB a b with
  | some true => some true
  | some false => kitB a c
  | none => none
theorem ev_isi2 {n m : String} (t : String) (ha : Ev J ta ρ M x) (hx : tyN M x = t) (h : kitB2 t n m = some b) (h' : t ≠ "") : Ev J (tCB (rIsiT J.K) (tCons ta (tCons (tTup (tCons (tC (.ty n)) (tCons (tC (.ty m)) tNil))) tNil))) ρ M (.bl b) := by
  refine w_cb1 (ea_cons ha (ea_cons (ev_tup (ds := [.ty n, .ty m]) (ea_cons ev_ty (ea_cons ev_ty ea_nil)) (by show 2 ≤ sizeLine; decide)) ea_nil)) (opA_val fun G H vs s tx => ?_)
  cases tx with
  | cons t1 t2 =>
    cases t2 with
    | cons t2 t3 =>
      cases t3
      obtain ⟨a, xs, rfl, h1, h2⟩ := tup_at s t2
      cases h2 with
      | cons g1 g2 =>
        cases g2 with
        | cons g2 g3 =>
          cases g3
          cases g1
          cases g2
          refine ⟨_, .bl b, fun Q q => ⟨_, a, _, _, [.type n, .type m], b, rfl, h1, .cons (.ty n) (.cons (.ty m) .nil), tyN_at s t1 (by rw [hx]; exact h'), ?_, q⟩⟩
          rw [hx]
          unfold kitB2 at h
          cases e : kitB t n with
          | none => rw [e] at h; cases h
          | some b1 =>
            rw [e] at h
            cases b1 with
            | true =>
              cases h
              exact kitAny_cons (kit_ty e) (fun z => nomatch z) fun _ => rfl
            | false =>
              refine kitAny_cons (kit_ty e) (fun _ => ?_) fun z => nomatch z
              cases b with
              | true => exact kitAny_cons (kit_ty h) (fun z => nomatch z) fun _ => rfl
              | false => exact kitAny_cons (kit_ty h) (fun _ => kitAny_nil) fun z => nomatch z
/-! ### in, of deep things -/
theorem anyC {α : Type} [DecidableEq α] (cc : Cd α) (a : α) : ∀ l : List α, ((toPys (l.map cc.d)).any fun z => PyData.eqv z (toPy (cc.d a))) = decide (a ∈ l)
  | [] => by rw [List.map_nil]; unfold toPys; simp
  | c :: l => by
    rw [List.map_cons]
    unfold toPys
    rw [List.any_cons, anyC cc a l, cc.ev, Bool.eq_iff_iff, Bool.or_eq_true, decide_eq_true_eq, decide_eq_true_eq, decide_eq_true_eq, List.mem_cons]
    exact ⟨fun h => h.elim (fun e => .inl e.symm) .inr, fun h => h.elim (fun e => .inl e.symm) .inr⟩
theorem toPy_L {α : Type} [DecidableEq α] (cc : Cd α) (l : List α) : toPy ((cL cc).d l) = .list (toPys (l.map cc.d)) := by
  show toPy (.lst (l.map cc.d)) = _
  unfold toPy
  rfl
theorem ev_inC {α : Type} [DecidableEq α] (cc : Cd α) {a : α} {l : List α} (ha : Ev J ta ρ M x) (hb : Ev J tb ρ M y) (hx : Vw M x (cc.d a)) (hy : Vw M y ((cL cc).d l)) (hd : cc.dep < 64) : Ev J (tOp (rInD J.K) ta tb) ρ M (.bl (decide (a ∈ l))) :=
  w_op1 ha hb (op2_val fun G H vx vy s tx ty => ⟨_, .bl _, fun Q q => ⟨_, _, hx.dp s tx (cc.ok a), by have := hy.dp s ty ((cL cc).ok l); rw [toPy_L] at this; exact this, shaped_of cc (Nat.le_of_lt hd) a, by have := shaped_of (cL cc) (show (cL cc).dep ≤ 64 from hd) l; rw [toPy_L] at this; exact this, by rw [anyC]; exact q⟩⟩)
theorem ev_notInC {α : Type} [DecidableEq α] (cc : Cd α) {a : α} {l : List α} (ha : Ev J ta ρ M x) (hb : Ev J tb ρ M y) (hx : Vw M x (cc.d a)) (hy : Vw M y ((cL cc).d l)) (hd : cc.dep < 64) : Ev J (tOp (rNotInD J.K) ta tb) ρ M (.bl (!decide (a ∈ l))) :=
  w_op1 ha hb (op2_val fun G H vx vy s tx ty => ⟨_, .bl _, fun Q q => ⟨_, _, hx.dp s tx (cc.ok a), by have := hy.dp s ty ((cL cc).ok l); rw [toPy_L] at this; exact this, shaped_of cc (Nat.le_of_lt hd) a, by have := shaped_of (cL cc) (show (cL cc).dep ≤ 64 from hd) l; rw [toPy_L] at this; exact this, by rw [anyC]; exact q⟩⟩)
/-! ### walks -/
theorem src_Q (h : Ev J te ρ M x) (hx : IsQ M x ds) : Src J (iOr (iList J.K te) (iTup J.K te)) ρ M (fun M' => IsQ M' x ds) ds := fun G σ H r s xo R q => by
  rcases hx with rfl | hx
  · exact .inr (src_t h G σ H r s xo R fun I G' H' e1 s1 yl => q I G' H' e1 s1 fun i G1 M1 H1 e2 s2 _ => yl i G1 M1 H1 e2 s2 trivial)
  · exact .inl (h G σ H r s xo _ fun v d G1 M1 H1 e e1 s1 t1 => by
      obtain ⟨rfl, rfl⟩ := e
      obtain ⟨a, xs, rfl, h1, h2⟩ := hx.at s1 t1
      refine ⟨a, rfl, ⟨xs, h1⟩, q _ G1 H1 e1 s1 (yl_list fun G2 M2 H2 e2 s2 k => ?_)⟩
      rcases k with rfl | k
      · obtain ⟨a', xs', ea, h1', h2'⟩ := tup_at s2 (t1.mono e2)
        cases ea
        obtain ⟨a3, xs3, e3, g1, g2⟩ := hx.at s1 t1
        rcases hx with z | z | ⟨_, z, _⟩ <;> cases z
      · obtain ⟨a', xs', ea, h1', h2'⟩ := k.at s2 (t1.mono e2)
        cases ea
        exact ⟨xs', h1', h2'⟩)
def enumD (ds : List D) : List D := (List.range ds.length).map fun (i : Nat) => .tup [.int (i : Int), ds.getD i .non]
theorem enumD_len (ds : List D) : (enumD ds).length = ds.length := by unfold enumD; rw [List.length_map, List.length_range]
theorem enumD_get {ds : List D} {i : Nat} {d : D} (h : (enumD ds)[i]? = some d) : ∃ x, ds[i]? = some x ∧ d = .tup [.int (i : Int), x] := by
  unfold enumD at h
  rw [List.getElem?_map] at h
  cases e : (List.range ds.length)[i]? with
  | none => rw [e] at h; cases h
  | some j =>
    rw [e] at h
    obtain ⟨hl, ej⟩ := List.getElem?_eq_some_iff.mp e
    rw [List.length_range] at hl
    rw [List.getElem_range] at ej
    subst ej
    refine ⟨ds[i], List.getElem?_eq_getElem hl, ?_⟩
    have := Option.some.inj h
    rw [← this]
    show D.tup [.int (i : Int), ds.getD i .non] = _
    rw [List.getD_eq_getElem?_getD, List.getElem?_eq_getElem hl]
    rfl
theorem src_enum (h : Ev J ta ρ M x) (hx : IsL M x ds) : Src J (iEnum J.K (tCons ta tNil)) ρ M (fun M' => IsL M' x ds) (enumD ds) := fun G σ H r s xo R q =>
  (ea_cons h ea_nil) G σ H r s xo _ fun vs dd G1 M1 H1 e e1 s1 t1 => by
    obtain ⟨rfl, rfl⟩ := e
    cases t1 with
    | cons t1 t2 =>
      cases t2
      obtain ⟨a, xs, rfl, h1, h2⟩ := hx.at s1 t1
      refine ⟨a, xs, rfl, h1, q _ G1 H1 e1 s1 fun i G2 M2 H2 e2 s2 k => ?_⟩
      obtain ⟨a', xs', ea, h1', h2'⟩ := k.at s2 (t1.mono e2)
      cases ea
      refine ⟨fun d hd => ?_, fun hl => ⟨xs', h1', by rw [enumD_len] at hl; rw [h2'.length]; exact hl⟩⟩
      obtain ⟨x1, ex, rfl⟩ := enumD_get hd
      obtain ⟨v, f1, f2⟩ := h2'.get ex
      refine ⟨⟨xs', v, h1', f1⟩, fun v' H3 yy => ?_⟩
      obtain ⟨T, v2, rfl, hT, rfl, g1⟩ := yy
      have e' := g1 xs' h1'
      rw [f1] at e'
      cases e'
      obtain ⟨e3, s3⟩ := s2.froz (o := .tup [.int (i : Int), v]) hT
      exact ⟨_, e3, s3, .tup upd_same (.cons (.int _) (.cons (f2.mono e3) .nil))⟩
theorem src_rev (h : Ev J ta ρ M x) (hx : IsL M x ds) : Src J (iRev J.K (tCons ta tNil)) ρ M (fun M' => IsL M' x ds) ds.reverse := fun G σ H r s xo R q =>
  (ea_cons h ea_nil) G σ H r s xo _ fun vs dd G1 M1 H1 e e1 s1 t1 => by
    obtain ⟨rfl, rfl⟩ := e
    cases t1 with
    | cons t1 t2 =>
      cases t2
      obtain ⟨a, xs, rfl, h1, h2⟩ := hx.at s1 t1
      refine ⟨a, xs, rfl, h1, q _ G1 H1 e1 s1 fun i G2 M2 H2 e2 s2 k => ?_⟩
      obtain ⟨a', xs', ea, h1', h2'⟩ := k.at s2 (t1.mono e2)
      cases ea
      have el : xs.length = ds.length := h2.length
      refine ⟨fun d hd => ?_, fun hl => by rw [List.length_reverse] at hl; show xs.length ≤ i; omega⟩
      have hi := (List.getElem?_eq_some_iff.mp hd).1
      rw [List.length_reverse] at hi
      rw [List.getElem?_reverse hi] at hd
      obtain ⟨v, f1, f2⟩ := h2'.get hd
      rw [← el] at f1
      refine ⟨⟨by omega, xs', v, h1', f1⟩, fun v' H3 yy => ?_⟩
      obtain ⟨rfl, g1⟩ := yy
      have e' := g1 xs' h1'
      rw [f1] at e'
      cases e'
      exact ⟨G2, Same.refl _, s2, f2⟩
/-! ### {k: v, ..} -/
def WPs (J : Jx) (trs : List (TE × TE)) (ρ : Ro) (M : Mp) (R : List (D × D) → Mp → Prop) : Prop :=
  ∀ G σ H, Rel J.K G σ ρ → Hs J.K G M H → XOk J G → ∀ Q : List (V × V) → Hp → Prop, (∀ ps ds G' M' H', R ds M' → Same G G' → Hs J.K G' M' H' → DtL J.K G' (ps.map (·.1)) (ds.map (·.1)) → DtL J.K G' (ps.map (·.2)) (ds.map (·.2)) → Q ps H') → tPairs trs σ H Q
theorem wps_nil {R : List (D × D) → Mp → Prop} (h : R [] M) : WPs J [] ρ M R := fun G σ H r s xo Q q => q [] [] G M H h (Same.refl G) s .nil .nil
theorem wps_cons {tk tv : TE} {trs : List (TE × TE)} {R : List (D × D) → Mp → Prop} (h : W J tk ρ M fun x M1 => W J tv ρ M1 fun y M2 => WPs J trs ρ M2 fun ps M3 => R ((x, y) :: ps) M3) : WPs J ((tk, tv) :: trs) ρ M R := fun G σ H r s xo Q q =>
  h G σ H r s xo _ fun v1 d1 G1 M1 H1 h1 e1 s1 t1 => h1 G1 σ H1 (r.mono e1) s1 (xo.mono e1) _ fun v2 d2 G2 M2 H2 h2 e2 s2 t2 =>
    h2 G2 σ H2 (r.mono (e1.trans e2)) s2 (xo.mono (e1.trans e2)) _ fun ps ds G3 M3 H3 h3 e3 s3 t3 t4 => q _ _ G3 M3 H3 h3 ((e1.trans e2).trans e3) s3 (.cons (t1.mono (e2.trans e3)) t3) (.cons (t2.mono e3) t4)
def mergeA (kvs more : List (Key × D)) : List (Key × D) := more.foldl (fun acc kv => putA acc kv.1 kv.2) kvs
theorem merge_dt {K : PySem.W.Frag} {G : Hp} : ∀ {more : List (Key × V)} {mds : List (Key × D)} {ws : List (Key × V)} {kvs : List (Key × D)}, more.map (·.1) = mds.map (·.1) → DtL K G (more.map (·.2)) (mds.map (·.2)) → ws.map (·.1) = kvs.map (·.1) → DtL K G (ws.map (·.2)) (kvs.map (·.2)) →
    (mergeK ws more).map (·.1) = (mergeA kvs mds).map (·.1) ∧ DtL K G ((mergeK ws more).map (·.2)) ((mergeA kvs mds).map (·.2))
  | [], [], _, _, _, _, h1, h2 => ⟨h1, h2⟩
  | [], _ :: _, _, _, h, _, _, _ => by simp at h
  | _ :: _, [], _, _, h, _, _, _ => by simp at h
  | p :: more, q :: mds, ws, kvs, h, t, h1, h2 => by
    rw [List.map_cons, List.map_cons] at h t
    have e1 : p.1 = q.1 := (List.cons.inj h).1
    cases t with
    | cons t1 t2 =>
      obtain ⟨g1, g2⟩ := putK_dt (k := q.1) t1 h1 h2
      have := merge_dt (more := more) (mds := mds) (ws := putK ws q.1 p.2) (kvs := putA kvs q.1 q.2) (List.cons.inj h).2 t2 g1 g2
      have e0 : mergeK ws (p :: more) = mergeK (putK ws q.1 p.2) more := by
        show mergeK (putK ws p.1 p.2) more = _
        rw [e1]
      rw [e0]
      exact this
theorem keys_dt {K : PySem.W.Frag} {G : Hp} : ∀ {ps : List (V × V)} {kds : List (Key × D)}, DtL K G (ps.map (·.1)) ((kds.map fun kv => (kD kv.1, kv.2)).map (·.1)) → ∃ kvs : List (Key × V), ps = kvs.map (fun kv => (kV kv.1, kv.2)) ∧ kvs.map (·.1) = kds.map (·.1) ∧ kvs.map (·.2) = ps.map (·.2)
  | [], [], _ => ⟨[], rfl, rfl, rfl⟩
  | [], _ :: _, h => by cases h
  | _ :: _, [], h => by cases h
  | p :: ps, kd :: kds, h => by
    rw [List.map_cons, List.map_cons, List.map_cons] at h
    cases h with
    | cons h1 h2 =>
      obtain ⟨kvs, e1, e2, e3⟩ := keys_dt h2
      refine ⟨(kd.1, p.2) :: kvs, ?_, ?_, ?_⟩
      · rw [List.map_cons, ← e1]
        congr 1
        show p = (kV kd.1, p.2)
        rw [← kD_dt h1]
      · rw [List.map_cons, List.map_cons, e2]
      · rw [List.map_cons, List.map_cons, e3]
theorem w_disp {trs : List (TE × TE)} (h : ∀ p, M p = none → WPs J trs ρ (ud M p (.dct [])) fun ps M2 => M2 p = some (.dct []) ∧ ∃ kds : List (Key × D), ps = kds.map (fun kv => (kD kv.1, kv.2)) ∧ kds.length ≤ 15 ∧ R (.ref p) (ud M2 p (.dct (mergeA [] kds)))) : W J (tDisp trs) ρ M R := fun G σ H r s xo Q q p hp => by
  refine h p (s.none_m hp) G σ _ r (s.new (m := .dct []) hp ⟨[], upd_same, rfl, .nil⟩) xo _ fun ps ds G2 M2 H2 h2 e2 s2 t1 t2 => ?_
  obtain ⟨hm, kds, rfl, hl, hR⟩ := h2
  obtain ⟨g, ws, g1, g2, g3⟩ := s2.ok p _ hm
  have ws0 : ws = [] := List.length_eq_zero_iff.mp (by rw [len_keys g2]; rfl)
  subst ws0
  refine ⟨g1, ?_⟩
  obtain ⟨kvs, e1, e3, e4⟩ := keys_dt t1
  refine ⟨kvs, e1, by rw [len_keys e3]; exact hl, ?_⟩
  have t2' : DtL J.K G2 (kvs.map (·.2)) (kds.map (·.2)) := by
    rw [e4]
    rw [List.map_map] at t2
    exact t2
  obtain ⟨m1, m2⟩ := merge_dt e3 t2' g2 g3
  exact q _ _ G2 _ _ hR e2 (s2.put g ⟨_, upd_same, m1, m2⟩) (.ref p)
end
section
variable {J : Jx} {to : TE} {ρ : Ro} {M : Mp} {ds : List D} {R : D → Mp → Prop}
theorem w_reverse {a : Addr} (ho : Ev J to ρ M (.ref a)) (hm : M a = some (.lst ds)) (kk : R .non (ud M a (.lst ds.reverse))) : W J (tBM0 J.K "list" rReverse to) ρ M R :=
  w_bm0 (ho.w ⟨⟨ds, .r hm⟩, fun G H v vs s tx tv Q q => by
    cases tx
    cases tv
    obtain ⟨g, xs, e, g2⟩ := s.ok a _ hm
    exact ⟨a, xs, rfl, rfl, e, q _ _ G _ _ kk (Same.refl G) (s.put g ⟨_, upd_same, g2.reverse⟩) .non⟩⟩)
end
/-! ### whole numbers -/
def wholeD : D → Bool
  | .int _ => true
  | _ => false
theorem whole_kit (M : Mp) (x : D) (h : tyN M x ≠ "") : ∃ a b, kitB (tyN M x) "int" = some a ∧ kitB (tyN M x) "bool" = some b ∧ wholeD x = (a && !b) := by
  have g : ∀ (s : String) (a b : Bool), tyN M x = s → kitB s "int" = some a → kitB s "bool" = some b → wholeD x = (a && !b) → ∃ a b, kitB (tyN M x) "int" = some a ∧ kitB (tyN M x) "bool" = some b ∧ wholeD x = (a && !b) := fun s a b e h1 h2 h3 => ⟨a, b, by rw [e]; exact h1, by rw [e]; exact h2, h3⟩
  cases x with
  | non => exact g "NoneType" false false rfl (by decide +kernel) (by decide +kernel) rfl
  | bl b => exact g "bool" true true rfl (by decide +kernel) (by decide +kernel) rfl
  | int i => exact g "int" true false rfl (by decide +kernel) (by decide +kernel) rfl
  | str s => exact g "str" false false rfl (by decide +kernel) (by decide +kernel) rfl
  | ty n => exact absurd rfl h
  | lst ds => exact g "list" false false rfl (by decide +kernel) (by decide +kernel) rfl
  | frl ds => exact g "list" false false rfl (by decide +kernel) (by decide +kernel) rfl
  | tup ds => exact g "tuple" false false rfl (by decide +kernel) (by decide +kernel) rfl
  | ref a =>
    cases e : M a with
    | none => exact absurd (by simp only [tyN, e]) h
    | some o =>
      cases o with
      | lst ds => exact g "list" false false (by simp only [tyN, e]) (by decide +kernel) (by decide +kernel) rfl
      | dct kvs => exact g "dict" false false (by simp only [tyN, e]) (by decide +kernel) (by decide +kernel) rfl
      | ins C fs => exact absurd (by simp only [tyN, e]) h
      | dcl od ws kvs => exact absurd (by simp only [tyN, e]) h
theorem tyN_L {M : Mp} {x : D} {ds : List D} (h : IsM M x ds) : tyN M x = "list" := by
  rcases h with rfl | ⟨a, rfl, h⟩
  · rfl
  · simp only [tyN, h]
theorem putA_ne {α : Type} {k k' : Key} {v x : α} {r : List (Key × α)} (h : k' ≠ k) : putA ((k', v) :: r) k x = (k', v) :: putA r k x := by
  unfold putA
  rw [List.any_cons, decide_eq_false (show ¬ (k', v).1 = k from h), Bool.false_or, List.map_cons, if_neg (show ¬ (k', v).1 = k from h)]
  split <;> rfl
theorem putA_eq {α : Type} {k : Key} {v x : α} {r : List (Key × α)} (h : k ∉ r.map (·.1)) : putA ((k, v) :: r) k x = (k, x) :: r := by
  unfold putA
  rw [List.any_cons, decide_eq_true (show (k, v).1 = k from rfl), Bool.true_or, if_pos rfl, List.map_cons, if_pos (show (k, v).1 = k from rfl)]
  congr 1
  conv => rhs; rw [← List.map_id r]
  refine List.map_congr_left fun p hp => ?_
  rw [if_neg (fun e => h (by rw [← e]; exact List.mem_map_of_mem (f := (·.1)) hp))]
  rfl
theorem putA_nil {α : Type} {k : Key} {x : α} : putA ([] : List (Key × α)) k x = [(k, x)] := rfl
theorem valS_ne {α : Type} {f g : Str} {x : α} {r : List (Key × α)} (h : ¬ g = f) : valA ((.inr g, x) :: r) (.inr f) = valA r (.inr f) := valA_neg (p := (Sum.inr g, x)) (fun z => h (Sum.inr.inj z))
theorem valS_eq {α : Type} {f : Str} {x : α} {r : List (Key × α)} : valA ((.inr f, x) :: r) (.inr f) = some x := valA_pos (p := (Sum.inr f, x)) rfl
theorem putS_ne {α : Type} {f g : Str} {x v : α} {r : List (Key × α)} (h : ¬ g = f) : putA ((.inr g, x) :: r) (.inr f) v = (.inr g, x) :: putA r (.inr f) v := putA_ne (fun z => h (Sum.inr.inj z))
theorem putD_nil {f : Str} {v : D} : putD f v [] = [(f, v)] := rfl
theorem putD_ne {f g : Str} {v x : D} {r : List (Str × D)} (h : ¬ g = f) : putD f v ((g, x) :: r) = (g, x) :: putD f v r := if_neg h
theorem putD_eq {f : Str} {v x : D} {r : List (Str × D)} : putD f v ((f, x) :: r) = (f, v) :: r := if_pos rfl
def WideIn (th : Th) (w : Nat) : Prop := ∀ p ∈ th, p.2.length = w
end DL

namespace DL
open PySem L2
/-! ### a dict, locked while a loop walks it -/
theorem ud_id {M : Mp} {a : Addr} {o : MO} (h : M a = some o) : ud M a o = M := by
  funext b
  unfold ud
  by_cases e : b = a
  · rw [if_pos e, e, h]
  · rw [if_neg e]
section
variable {J : Jx} {td ty te : TE} {ts : TS} {ρ : Ro} {M : Mp} {P : Po} {a : Addr} {kvs : List (Key × D)} {k : Key} {z : D} {od : Obj} {ws : List (Key × V)}
theorem s_lock (hm : M a = some (.dct kvs)) (h : ∀ od ws, S J ts ρ (ud M a (.dcl od ws kvs)) ⟨fun ρ' M' => M' a = some (.dcl od ws kvs) ∧ P.nx ρ' (ud M' a (.dct kvs)), fun d M' => M' a = some (.dcl od ws kvs) ∧ P.rt d (ud M' a (.dct kvs)), fun ρ' M' => M' a = some (.dcl od ws kvs) ∧ P.bk ρ' (ud M' a (.dct kvs)), fun ρ' M' => M' a = some (.dcl od ws kvs) ∧ P.ct ρ' (ud M' a (.dct kvs))⟩) : S J (tLock ts) ρ M P := fun G σ H D' r s xo q => by
  obtain ⟨g, ws, e1, e2, e3⟩ := s.ok a _ hm
  refine ⟨a, .dK ws, e1, trivial, fun od => ?_⟩
  have s1 : Hs J.K G (ud M a (.dcl od ws kvs)) (upd H a (.frz od (.dK ws))) := s.put g ⟨upd_same, e2, e3⟩
  have back : ∀ G' M' H', Hs J.K G' M' H' → M' a = some (.dcl od ws kvs) → H' a = some (.frz od (.dK ws)) ∧ Hs J.K G' (ud M' a (.dct kvs)) (upd H' a (.dK ws)) := fun G' M' H' s' hm' => by
    obtain ⟨g', f1, f2, f3⟩ := s'.ok a _ hm'
    exact ⟨f1, s'.put g' ⟨ws, upd_same, f2, f3⟩⟩
  refine h od ws G σ _ _ r s1 xo ⟨fun G' σ' ρ' M' H' h1 e r1 s' => ?_, fun G' v d M' H' h1 e s' t1 => ?_, fun G' σ' ρ' M' H' h1 e r1 s' => ?_, fun G' σ' ρ' M' H' h1 e r1 s' => ?_⟩
  · obtain ⟨b1, b2⟩ := back G' M' H' s' h1.1
    exact ⟨b1, q.nx G' σ' ρ' _ _ h1.2 e r1 b2⟩
  · obtain ⟨b1, b2⟩ := back G' M' H' s' h1.1
    exact ⟨b1, q.rt G' v d _ _ h1.2 e b2 t1⟩
  · obtain ⟨b1, b2⟩ := back G' M' H' s' h1.1
    exact ⟨b1, q.bk G' σ' ρ' _ _ h1.2 e r1 b2⟩
  · obtain ⟨b1, b2⟩ := back G' M' H' s' h1.1
    exact ⟨b1, q.ct G' σ' ρ' _ _ h1.2 e r1 b2⟩
theorem ev_dgetL (hd : Ev J td ρ M (.ref a)) (hk : Ev J ty ρ M (kD k)) (hm : M a = some (.dcl od ws kvs)) (h : valA kvs k = some z) : Ev J (tDGet td ty) ρ M z := fun G σ H r s xo Q q =>
  hd G σ H r s xo _ fun v d1 G1 M1 H1 e e1 s1 t1 => by
    obtain ⟨rfl, rfl⟩ := e
    refine hk G1 σ H1 (r.mono e1) s1 (xo.mono e1) _ fun v2 d2 G2 M2 H2 e e2 s2 t2 => ?_
    obtain ⟨rfl, rfl⟩ := e
    cases t1
    obtain ⟨_, g1, g2, g3⟩ := s2.ok a _ hm
    rcases val_dt (k := k) g2 g3 with ⟨n1, _⟩ | ⟨w, d, h1, h2, h3⟩
    · rw [n1] at h; cases h
    · rw [h] at h1
      cases h1
      refine ⟨a, w, rfl, ?_, q _ _ G2 _ H2 ⟨rfl, rfl⟩ (e1.trans e2) s2 h3⟩
      rw [kD_dt t2, ← h2]
      exact .inl ⟨ws, k, .inr ⟨od, g1⟩, rfl, rfl⟩
theorem dt_kD {K : PySem.W.Frag} {G : Hp} : ∀ k : Key, Dt K G (kV k) (kD k)
  | .inl i => .int i
  | .inr x => .str x
theorem src_keysL (hd : Ev J td ρ M (.ref a)) (hm : M a = some (.dcl od ws kvs)) : Src J (iKeysM td) ρ M (fun M' => M' a = some (.dcl od ws kvs)) (kvs.map fun kv => kD kv.1) := fun G σ H r s xo R q =>
  hd G σ H r s xo _ fun v d1 G1 M1 H1 e e1 s1 t1 => by
    obtain ⟨rfl, rfl⟩ := e
    cases t1
    obtain ⟨g, f1, f2, f3⟩ := s1.ok a _ hm
    have hl : ws.length = kvs.length := len_keys f2
    refine ⟨a, od, ws, rfl, f1, q _ G1 H1 e1 s1 fun i G2 M2 H2 e2 s2 k => ?_⟩
    obtain ⟨g2, h1, h2, h3⟩ := s2.ok a _ k
    refine ⟨fun d hd => ?_, fun hl' => ⟨h1, by rw [List.length_map] at hl'; omega⟩⟩
    obtain ⟨kv, hk, rfl⟩ := get_map hd
    have hi := lt_of_get hk
    refine ⟨⟨h1, by omega⟩, fun v' H3 y => ?_⟩
    obtain ⟨rfl, k', v0, y1, rfl⟩ := y
    have ek : k' = kv.1 := by
      have e : (ws.map (·.1))[i]? = (kvs.map (·.1))[i]? := by rw [f2]
      rw [List.getElem?_map, List.getElem?_map, y1, hk] at e
      exact Option.some.inj e
    rw [ek]
    exact ⟨G2, Same.refl _, s2, dt_kD _⟩
end
section
open PySem.Spec PyProof.Rows
theorem kx_catT {X : Cx} {K : PySem.W.Frag} (h : X.K = K) : OpR X (binaryOp .Add) (rCatT K) := h ▸ op_catT
end
section
variable {J : Jx} {M : Mp} {R : D → Mp → Prop}
theorem op2_eqI {i j : Int} (h : R (.bl (decide (i = j))) M) : Op2 J rEq (.int i) (.int j) M R := fun G H vx vy s tx ty Q q => by
  cases tx
  cases ty
  exact ⟨rfl, by rw [dec_I]; exact q _ _ G M H h (Same.refl G) s (.bl _)⟩
end
end DL

namespace DL
open PySem L2
/-! ### exceptions -/
section
open PySem.Spec PyProof.Rows
variable {X : Cx} {e : Expr} {t1 t2 : TE}
/-- one of two readings -/
def tEi (t1 t2 : TE) : TE := fun σ H Q => t1 σ H Q ∨ t2 σ H Q
theorem pe_ei (h1 : PE X e t1) (h2 : PE X e t2) : PE X e (tEi t1 t2) := ⟨fun pins s σ H Q I h => h.elim (h1.run pins s σ H Q I) (h2.run pins s σ H Q I)⟩
/-- a method whose wish of an exception speaks of the caller's slots -/
def tMethW (C : Addr) (m : Str) (sp : Sp) (E : L2.St → XK) (ta : TE) (t : TA) : TE := fun σ H Q => ta σ H fun x H1 => ∃ a dx fs, x = .ref a ∧ H1 a = some (.ins C dx fs) ∧ fs.lookup m = none ∧ t σ H1 fun vs H2 => sp (x :: vs) H2 Q (E σ)
theorem pe_methW {CXX : CXT} {k : Nat} {f C : Addr} {fd : FuncData} {ps : List Str} {sp : Sp} {E : L2.St → XK} {m : Str} {pos apos : Pos} {ob arg : Expr} {args : List Expr} {ta : TE} {t : TA} {pl : Sem Bool} (hob : PE X ob ta) (hcl : Cls X.K C) (hme : Meth X.K C m f)
    (F : FnOk X.prog X.w X.K X.mg X.base CXX k f fd ps sp) (hroom : Room k X.A) (hbd : Binds X.K fd ps []) (hpass : ∀ σ, PassesAt CXX X σ (E σ)) (hargs : PA X (arg :: args) t)
    (h1 : starEach (arg :: args) X.env = (false, eval arg X.env) :: starEach args X.env := by rfl) (h2 : (backTo pos (starEach args X.env)).any (·.1) = false := by rfl)
    (h3 : eval (.Call (.Attribute ob m apos) (arg :: args) [] pos) X.env = (do
      let v ← eval ob X.env
      standAt apos.atName
      let (g, first) ← holding [v] (getMethod v m pl)
      callWith pos g first (backTo pos (starEach (arg :: args) X.env)) (backToKw pos (keywordEach [] X.env))) := by rfl) : PE X (.Call (.Attribute ob m apos) (arg :: args) [] pos) (tMethW C m sp E ta t) := ⟨fun pins s σ H Q I h => by
  refine PySem.W.methodCall_KW (pl := pl) (thn (hob.run pins s σ H _ I h) fun u s1 hu => ?_) h3
  obtain ⟨x, H1, I1, rx, a, dx, fs, ex, ea, l, q⟩ := hu
  subst ex
  obtain rfl : u = Value.ref a := rx
  refine getmeth_ok I1 ea hcl hme l (PySem.W.callWith_K (first := [.ref a]) (h₀ := X.base) I.ok.mod.kin hme.kp (thn (hargs.run pos pins s1 σ H1 _ I1 q) fun us s2 hv => ?_) h1 h2)
  obtain ⟨vs, H2, I2, r, q2⟩ := hv
  exact ⟨I2.kIn, run_fnS (us := .ref a :: us) (vs := .ref a :: vs) F hroom hbd (hpass σ) I2 (.cons rfl r) q2⟩⟩
end
section
variable {J : Jx} {te ta tb t1 t2 : TE} {t : TA} {ts : TS} {ρ : Ro} {M : Mp} {x y z : D} {ds : List D} {b : Bool} {P : Po} {R : D → Mp → Prop} {C a : Addr} {fs : List (Str × D)} {m : Str}
theorem w_ei1 (h : W J t1 ρ M R) : W J (tEi t1 t2) ρ M R := fun G σ H r s xo Q q => .inl (h G σ H r s xo Q q)
theorem w_ei2 (h : W J t2 ρ M R) : W J (tEi t1 t2) ρ M R := fun G σ H r s xo Q q => .inr (h G σ H r s xo Q q)
/-- a call in a try's body -/
theorem w_callS {Rf : Pr} (ha : WA J t ρ M fun ds M1 => Rf ds M1 R (J.xe ρ)) : W J (tCallS (spD J.K Rf) J.E t) ρ M R := fun G σ H r s xo Q q => ha G σ H r s xo _ fun vs ds G1 M1 H1 h1 e1 s1 t1 =>
  ⟨G1, M1, ds, R, J.xe ρ, s1, t1, h1, q.mono e1, fun c M' G' H' x s' k => xo c M' G' H' σ ρ x (e1.trans s') (r.mono (e1.trans s')) k⟩
theorem w_methW {Rf : Pr} (h : Ev J ta ρ M (.ref a)) (hm : M a = some (.ins C fs)) (l : fs.lookup m = none) (ha : EvA J t ρ M ds) (k : Rf (.ref a :: ds) M R (J.xe ρ)) : W J (tMethW C m (spD J.K Rf) J.E ta t) ρ M R := fun G σ H r s xo Q q =>
  h G σ H r s xo _ fun v d G1 M1 H1 h1 e1 s1 t1 => by
    obtain ⟨rfl, rfl⟩ := h1
    cases t1
    obtain ⟨dx, gs, g1, g2, g3⟩ := s1.ins hm
    refine ⟨a, dx, gs, rfl, g1, look_dtN g2 l, ha G1 σ H1 (r.mono e1) s1 (xo.mono e1) _ fun vs ds G2 M2 H2 h2 e2 s2 t2 => ?_⟩
    obtain ⟨rfl, rfl⟩ := h2
    exact ⟨G2, M2, _, R, J.xe ρ, s2, .cons (.ref a) t2, k, q.mono (e1.trans e2), fun c M' G' H' x s' kk => xo c M' G' H' σ ρ x ((e1.trans e2).trans s') (r.mono ((e1.trans e2).trans s')) kk⟩
/-- raise C(..) -/
theorem s_raise (h : J.xe ρ C M) (e : ∀ (D' : Ends) σ H, J.E σ (.ref C) none H → ts D' σ H) : S J ts ρ M P := fun G σ H D' r s xo q => e D' σ H (xo C M G H σ ρ h (Same.refl G) r s)
/-! try -/
abbrev Hds : Type := List (Value × (Addr → Value → Option Addr → TS))
def HdR (K : PySem.W.Frag) (P : Po) (ρ : Ro) (c : Addr) (M : Mp) : Hds → Prop
  | [] => False
  | (cv, ts) :: l => ∃ b, PySem.W.exmOne K (.ref c) cv = some b ∧ (b = true → ∀ a, M a = none → S (J0 K) (ts a (.ref c) none) ρ M P) ∧ (b = false → HdR K P ρ c M l)
section
variable {K : PySem.W.Frag} {c : Addr} {cv : Value} {hs : Addr → Value → Option Addr → TS} {l : Hds}
theorem hd_yes (h : PySem.W.exmOne K (.ref c) cv = some true) (k : ∀ a, M a = none → S (J0 K) (hs a (.ref c) none) ρ M P) : HdR K P ρ c M ((cv, hs) :: l) := ⟨true, h, fun _ => k, fun z => nomatch z⟩
theorem hd_at (h : HdR K P ρ c M l) : HdR K P ρ c M l := h
theorem hd_no (h : PySem.W.exmOne K (.ref c) cv = some false) (k : HdR K P ρ c M l) : HdR K P ρ c M ((cv, hs) :: l) := ⟨false, h, fun z => (nomatch z), fun _ => k⟩
end
theorem xok0 {K : PySem.W.Frag} {G : Hp} : XOk (J0 K) G := fun _ _ _ _ _ _ z => z.elim
theorem hd_many {K : PySem.W.Frag} {Wout : WX} {D' : Ends} {G H : Hp} {σ : L2.St} {c : Addr} (r : Rel K G σ ρ) (s : Hs K G M H) (q : DQ (J0 K) G P D') : ∀ l : Hds, HdR K P ρ c M l → wMany K Wout D' l (.ref c) none σ H
  | [], h => h.elim
  | (cv, ts) :: l, ⟨b, e, hy, hn⟩ => ⟨b, e, fun hb a ha => hy hb a (s.none_m ha) G σ H D' r s xok0 q, fun hb => hd_many r s q l (hn hb)⟩
def tTryM (K : PySem.W.Frag) (Wout : WX) (l : Hds) (bd : WX → TS) : TS := fun D σ H => bd (wMany K Wout D l) D σ H
def tTryA (K : PySem.W.Frag) (cv : Value) (i : Nat) (ts : Addr → Value → Option Addr → TS) (Wout : WX) (bd : WX → TS) : TS := fun D σ H => bd (wAs K cv i ts Wout D) D σ H
/-- try: .. except A: .. except B: .. -/
theorem s_tryM {bd : WX → TS} {Wout : WX} {l : Hds} (h : ∀ W : WX, S ⟨J.K, WE W, fun ρ' c M' => HdR J.K P ρ' c M' l⟩ (bd W) ρ M P) : S J (tTryM J.K Wout l bd) ρ M P := fun G σ H D' r s xo q =>
  h (wMany J.K Wout D' l) G σ H D' r s (fun c M' G' H' σ' ρ' x e r' s' => hd_many r' s' ⟨(q.mono e).nx, (q.mono e).rt, (q.mono e).bk, (q.mono e).ct⟩ l x) ⟨q.nx, q.rt, q.bk, q.ct⟩
/-- try: .. except A as n: .. -/
theorem s_tryA {bd : WX → TS} {Wout : WX} {cv : Value} {i : Nat} {ts : Addr → Value → Option Addr → TS} (h : ∀ W : WX, S ⟨J.K, WE W, fun ρ' c M' => PySem.W.exmOne J.K (.ref c) cv = some true ∧ ∀ a, M' a = none → S (J0 J.K) (ts a (.ref c) none) (ρ'.set i (some (.ref a))) M' ⟨fun ρ2 M2 => P.nx (ρ2.set i none) M2, P.rt, fun ρ2 M2 => P.bk (ρ2.set i none) M2, fun ρ2 M2 => P.ct (ρ2.set i none) M2⟩⟩ (bd W) ρ M P) :
    S J (tTryA J.K cv i ts Wout bd) ρ M P := fun G σ H D' r s xo q => by
  refine h (wAs J.K cv i ts Wout D') G σ H D' r s (fun c M' G' H' σ' ρ' x e r' s' => ?_) ⟨q.nx, q.rt, q.bk, q.ct⟩
  obtain ⟨x1, x2⟩ := x
  refine ⟨true, x1, fun _ a ha => ?_, fun z => nomatch z⟩
  have q' := q.mono e
  exact x2 a (s'.none_m ha) G' _ H' _ (r'.set (.ref a) i) s' xok0 ⟨fun G2 σ2 ρ2 M2 H2 h2 e2 r2 s2 => q'.nx G2 _ _ M2 H2 h2 e2 (r2.unset i) s2, q'.rt, fun G2 σ2 ρ2 M2 H2 h2 e2 r2 s2 => q'.bk G2 _ _ M2 H2 h2 e2 (r2.unset i) s2, fun G2 σ2 ρ2 M2 H2 h2 e2 r2 s2 => q'.ct G2 _ _ M2 H2 h2 e2 (r2.unset i) s2⟩
end
section
open PySem.Spec PyProof.Rows
variable {X : Cx} {K : PySem.W.Frag} {body : List Stmt} {bd : WX → TS} {Wout : WX}
theorem ps_tryM {hd : ExceptHandler} {hds : List ExceptHandler} {l : Hds} {pos : Pos} (h : X.K = K) (h1 : X.stack = X.env :: X.outer) (h2 : X.env.frame = some X.env.locals) (tk : Takes X Wout)
    (hb : ∀ (W : WX) (pn : List (Addr × Obj)) (xe : Value → Shared → Prop), Takes (X.tr pn xe) W → PassesOwn (model X.prog X.w) X.A X.env xe → PSs (X.tr pn xe) body (bd W)) (hh : HdsOk X (hd :: hds) l) : PS X (.Try body (hd :: hds) [] [] pos) (tTryM K Wout l bd) :=
  h ▸ ps_try_many h1 h2 tk hb hh
theorem ps_tryA {x n : Str} {c : Value} {i : Nat} {suite : List Stmt} {b₀ : Stmt} {np pos pos' : Pos} {ts : Addr → Value → Option Addr → TS} (h : X.K = K) (h1 : X.stack = X.env :: X.outer) (h2 : X.env.frame = some X.env.locals) (h3 : X.N.Nodup) (h4 : X.N[i]? = some n) (h5 : X.env.kindOf n = some .local) (h6 : Names X x c) (tk : Takes X Wout)
    (hb : ∀ (W : WX) (pn : List (Addr × Obj)) (xe : Value → Shared → Prop), Takes (X.tr pn xe) W → PassesOwn (model X.prog X.w) X.A X.env xe → PSs (X.tr pn xe) body (bd W))
    (hsu : ∀ (a : Addr) (oe : Obj) (cls : Value) (d : Option Addr) (pn : List (Addr × Obj)), Zc cls d oe → (∃ vs, oe.data = .fields vs) → PSs (X.suite a ((a, oe) :: pn)) (b₀ :: suite) (ts a cls d)) : PS X (.Try body [.ExceptHandler (some (.Name x np)) (some n) (b₀ :: suite) pos'] [] [] pos) (tTryA K c i ts Wout bd) :=
  h ▸ ps_try_as h1 h2 h3 h4 h5 h6 tk hb hsu
end
/-! isinstance of what an except suite holds -/
section
open PySem.Spec PyProof.Rows
variable {X : Cx} {K : PySem.W.Frag} {a C : Addr} {oe : Obj} {cls : Value} {d : Option Addr} {pn : List (Addr × Obj)}
theorem zc_of (h : Zc cls d oe) (e1 : cls = .ref C) (e2 : d = none) : Zc (.ref C) none oe := e1 ▸ e2 ▸ h
theorem kx_isE (h : X.K = K) (ec : ExcC K C) (hz : Zc (.ref C) none oe) (hf : ∃ vs, oe.data = .fields vs) : CallR (X.suite a ((a, oe) :: pn)) (.builtin "isinstance") (rIsE K C a) := h ▸ call_isE (h ▸ ec) hz hf
def tExc (K : PySem.W.Frag) (cls : Value) (d : Option Addr) (t : Addr → TS) : TS := fun D σ H => ∃ C, cls = .ref C ∧ d = none ∧ ExcC K C ∧ t C D σ H
theorem pss_exc {sts : List Stmt} {t : Addr → TS} (hb : ∀ C, cls = .ref C → d = none → ExcC K C → PSs X sts (t C)) : PSs X sts (tExc K cls d t) := ⟨fun pins s σ H D I h => by
  obtain ⟨C, e1, e2, ec, h⟩ := h
  exact (hb C e1 e2 ec).run pins s σ H D I h⟩
end
section
variable {J : Jx} {ta tb : TE} {ρ : Ro} {M : Mp} {y : D} {P : Po} {C a : Addr} {b : Bool}
theorem s_exc {t : Addr → TS} (ec : ExcC J.K C) (h : S J (t C) ρ M P) : S J (tExc J.K (.ref C) none t) ρ M P := fun G σ H D' r s xo q => ⟨C, rfl, rfl, ec, h G σ H D' r s xo q⟩
theorem ev_isE {B : Addr} (ha : Ev J ta ρ M (.ref a)) (hb : Ev J tb ρ M (.ref B)) (h : PySem.W.kitOne J.K (.ref C) (.ref B) = some b) : Ev J (tCB (rIsE J.K C a) (tCons ta (tCons tb tNil))) ρ M (.bl b) :=
  w_cb1 (ea_cons ha (ea_cons hb ea_nil)) (opA_val fun G H vs s tx => by
    cases tx with
    | cons t1 t2 =>
      cases t2 with
      | cons t2 t3 =>
        cases t3
        cases t1
        cases t2
        exact ⟨_, .bl b, fun Q q => ⟨_, .ref B, b, rfl, fun u r => r, h, q⟩⟩)
theorem ev_isEt {n : String} (ha : Ev J ta ρ M (.ref a)) (hb : Ev J tb ρ M (.ty n)) (h : PySem.W.kitOne J.K (.ref C) (.type n) = some b) : Ev J (tCB (rIsE J.K C a) (tCons ta (tCons tb tNil))) ρ M (.bl b) :=
  w_cb1 (ea_cons ha (ea_cons hb ea_nil)) (opA_val fun G H vs s tx => by
    cases tx with
    | cons t1 t2 =>
      cases t2 with
      | cons t2 t3 =>
        cases t3
        cases t1
        cases t2
        exact ⟨_, .bl b, fun Q q => ⟨_, .type n, b, rfl, fun u r => r, h, q⟩⟩)
/-! texts, int() of a truth -/
theorem dec_S {i j : Str} : decide (V.str i = V.str j) = decide (i = j) := by
  by_cases h : i = j
  · rw [h]; simp
  · rw [decide_eq_false h]; exact decide_eq_false fun e => h (V.str.inj e)
theorem ev_eqS {i j : Str} (ha : Ev J ta ρ M (.str i)) (hb : Ev J tb ρ M (.str j)) : Ev J (tOp rEq ta tb) ρ M (.bl (decide (i = j))) :=
  w_op1 ha hb (op2_val fun G H vx vy s tx ty => by cases tx; cases ty; exact ⟨_, .bl _, fun Q q => ⟨rfl, by rw [dec_S]; exact q⟩⟩)
theorem ev_neS {i j : Str} (ha : Ev J ta ρ M (.str i)) (hb : Ev J tb ρ M (.str j)) : Ev J (tOp rNe ta tb) ρ M (.bl (!decide (i = j))) :=
  w_op1 ha hb (op2_val fun G H vx vy s tx ty => by cases tx; cases ty; exact ⟨_, .bl _, fun Q q => ⟨rfl, by rw [dec_S]; exact q⟩⟩)
theorem ev_int1 (ha : Ev J ta ρ M (.bl b)) : Ev J (tCB (fun xs H Q => (∃ i, xs = [V.int i] ∧ Q (.int i) H) ∨ ∃ k, xs = [V.bl k] ∧ Q (.int (if k then 1 else 0)) H) (tCons ta tNil)) ρ M (.int (if b then 1 else 0)) :=
  w_cb1 (ea_cons ha ea_nil) (opA_val fun G H vs s tx => by
    cases tx with
    | cons t1 t2 =>
      cases t2
      cases t1
      exact ⟨_, .int _, fun Q q => .inr ⟨b, rfl, q⟩⟩)
end
section
variable {J : Jx} {ta tb : TE} {t : TA} {ρ : Ro} {M M' : Mp} {d : D} {ds : List D} {R : D → Mp → Prop}
/-- a list whose things change the ledger -/
theorem w_lst (h : WA J t ρ M fun ds M1 => ds.length ≤ sizeLine ∧ ∀ p, M1 p = none → R (.ref p) (ud M1 p (.lst ds))) : W J (tLst t) ρ M R := fun G σ H r s xo Q q => h G σ H r s xo _ fun vs ds' G1 M1 H1 e e1 s1 t1 =>
  ⟨by rw [t1.length]; exact e.1, fun p hp => q _ _ G1 _ _ (e.2 p (s1.none_m hp)) e1 (s1.new (m := .lst ds') hp ⟨vs, upd_same, t1⟩) (.ref p)⟩
theorem w_tup (h : WA J t ρ M fun ds M1 => ds.length ≤ sizeLine ∧ R (.tup ds) M1) : W J (tTup t) ρ M R := fun G σ H r s xo Q q => h G σ H r s xo _ fun vs ds' G1 M1 H1 e e1 s1 t1 => by
  refine ⟨by rw [t1.length]; exact e.1, fun p hp => ?_⟩
  obtain ⟨e2, s2⟩ := s1.froz (o := .tup vs) hp
  exact q _ _ _ _ _ e.2 (e1.trans e2) s2 (.tup upd_same (t1.mono e2))
theorem op2_ixL {x z : D} {i : Int} (hx : IsL M x ds) (h : atI ds i = some z) (k : R z M) : Op2 J (rIxL J.K) x (.int i) M R := fun G H vx vy s tx ty Q q => by
  cases ty
  obtain ⟨a, xs, e, h1, h2⟩ := hx.at s tx
  obtain ⟨v, e1, e2⟩ := atI_dt h2 h
  exact ⟨a, xs, i, v, e, rfl, h1, e1, q _ _ G M H k (Same.refl G) s e2⟩
theorem tyN_sub (s : Sub M M') (h : tyN M d ≠ "") : tyN M' d ≠ "" := by
  cases d with
  | ref a =>
    cases e : M a with
    | none => exact absurd (by simp only [tyN, e]) h
    | some o =>
      have e2 := s a o e
      have : tyN M' (.ref a) = tyN M (.ref a) := by simp only [tyN, e, e2]
      rw [this]
      exact h
  | _ => exact h
/-- a thing that tells its type by itself -/
def flatD : D → Bool
  | .ty _ => false
  | .ref _ => false
  | _ => true
theorem tyN_fl (h : flatD d = true) : tyN M d ≠ "" := by
  cases d with
  | non => exact (by decide : "NoneType" ≠ "")
  | bl b => exact (by decide : "bool" ≠ "")
  | int i => exact (by decide : "int" ≠ "")
  | str x => exact (by decide : "str" ≠ "")
  | ty n => cases h
  | ref a => cases h
  | lst ds => exact (by decide : "list" ≠ "")
  | frl ds => exact (by decide : "list" ≠ "")
  | tup ds => exact (by decide : "tuple" ≠ "")
theorem atI_mem {k : Int} (h0 : 0 ≤ k) (h : k < ds.length) : ∃ z, atI ds k = some z ∧ z ∈ ds := by
  have e : ((k.toNat : Nat) : Int) = k := Int.toNat_of_nonneg h0
  have hl : k.toNat < ds.length := by omega
  have q := atI_nat (List.getElem?_eq_getElem hl)
  rw [e] at q
  exact ⟨_, q, List.getElem_mem hl⟩
theorem whole_cases (d : D) : wholeD d = false ∨ ∃ n, d = .int n := by
  cases d with
  | int n => exact .inr ⟨n, rfl⟩
  | _ => exact .inl rfl
end
/-! ### a def that may raise -/
section
open PySem.Spec PyProof.Rows
variable {P : Program} {w : World} {K : PySem.W.Frag} {mg : Str → Option Value} {base : Heap}
theorem fn_dlX {x qual : Str} {st : Stmt} {f : Addr} {fd : FuncData} {N ps : List Str} {k : Nat} {Rf : Pr} (F : Fun K x qual st f fd) (Sc : FnScope N ps (defScope st)) (len : ∀ ds M nx xe, Rf ds M nx xe → ds.length = ps.length)
    (hbody : ∀ (cdv : Value) (A : Around) (outer : List Env) (s : Shared) (H : Hp) (E : XK), Room k (A.deeper (envOfC qual (defScope st) s.heap.objs.size f cdv)) →
      ∃ t, PSs (cxOf (L2.CX P w) P w K mg base N qual (defScope st) f cdv A outer s H E) (defBody st) t ∧ ∀ ds M nx xe, Rf ds M nx xe → S (JX K E xe) t (startD N ds) M { nx := fun _ M' => nx .non M', rt := nx }) : FnOk P w K mg base (L2.CX P w) (k + 1) f fd ps (spD K Rf) := by
  refine F.okX Sc (fun vs H Q E h => ?_) (fun cdv A outer s H vs Q E hr h => ?_)
  · obtain ⟨G, M, ds, nx, xe, hs, hd, hR, _⟩ := h
    rw [hd.length]
    exact len ds M nx xe hR
  · obtain ⟨G, M, ds, nx, xe, hs, hd, hR, kn, kx⟩ := h
    obtain ⟨t, ht, hS⟩ := hbody cdv A outer s H E hr
    refine ⟨t, ht, hS ds M nx xe hR G _ H _ (rel_start N hd) hs (fun c M' G' H' _ _ x e _ s' => kx c M' G' H' x e s') ⟨fun G' σ' ρ' M' H' h1 e1 r1 s1 => ?_, fun G' v d M' H' h1 e1 s1 t1 => kn v d G' M' H' h1 e1 s1 t1, fun G' σ' ρ' M' H' h1 => False.elim h1, fun G' σ' ρ' M' H' h1 => False.elim h1⟩⟩
    exact kn .non .non G' M' H' h1 e1 s1 .non
end
/-! ### more facts of the top -/
inductive Fx where
  | iso (x : Str)
  | kt (x : Str) (n : String) (b : Bool)
  | kr (x y : Str) (b : Bool)
def Fx.ok (K : PySem.W.Frag) : Fx → Bool
  | .iso x =>
    (He.eqO (PySem.W.findIn K (.ref (He.ga K x)) "__getattribute__") (some (some (.builtin "BaseException.__getattribute__"))) && He.eqO (PySem.W.findIn K (.ref (He.ga K x)) "__getattr__") (some none)) &&
    ((decide (PySem.W.subIn K (.ref (He.ga K x)) (.type "BaseException") = some true) && PySem.W.hasDictIn K (He.ga K x)) &&
    ((He.eqO (PySem.W.findIn K (.ref (He.ga K x)) "__class__") (some (some (.builtin "object.__class__"))) && He.eqO (PySem.W.specialIn K (.builtin "object.__class__") "__get__") (some (some (.builtin "getset_descriptor.__get__")))) &&
    (decide (PySem.W.takesIn K (.builtin "object.__class__") = some true) && decide (PySem.W.mroIn K (He.ga K x) (.type "object") = some true))))
  | .kt x n b => decide (PySem.W.kitOne K (.ref (He.ga K x)) (.type n) = some b)
  | .kr x y b => decide (PySem.W.kitOne K (.ref (He.ga K x)) (.ref (He.ga K y)) = some b)
theorem fx_iso {K : PySem.W.Frag} {x : Str} (h : (Fx.iso x).ok K = true) : ExcC K (He.ga K x) := by
  obtain ⟨h1, h2⟩ := Bool.and_eq_true_iff.mp h
  obtain ⟨h2, h3⟩ := Bool.and_eq_true_iff.mp h2
  obtain ⟨h3, h4⟩ := Bool.and_eq_true_iff.mp h3
  obtain ⟨a1, a2⟩ := Bool.and_eq_true_iff.mp h1
  obtain ⟨b1, b2⟩ := Bool.and_eq_true_iff.mp h2
  obtain ⟨c1, c2⟩ := Bool.and_eq_true_iff.mp h3
  obtain ⟨d1, d2⟩ := Bool.and_eq_true_iff.mp h4
  exact ⟨He.eqO_ok a1, He.eqO_ok a2, of_decide_eq_true b1, b2, He.eqO_ok c1, He.eqO_ok c2, of_decide_eq_true d1, of_decide_eq_true d2⟩
/-- the head's facts and these -/
def hookW (n : Nat) (fa : List He.Fa) (fn : List He.FnD) (fx : List Fx) : PySem.W.Hook where
  α := He.Al × Bool
  obs := fun s => (He.obsG n fa fn s.heap.get?, fx.all fun f => f.ok (He.frG s.heap.get? (He.asG s.heap.get? n)))
  val := fun _ => (He.valE fn, true)
  says := fun _ h => ∃ K : PySem.W.Frag, K.In h ∧ He.SaysE fa fn K ∧ (fx.all fun f => f.ok K) = true
  of := fun _ _ e => ⟨_, He.frG_in, (Prod.mk.inj e).1, (Prod.mk.inj e).2⟩
  keeps := fun _ _ _ h k => by
    obtain ⟨K, hK, c⟩ := h
    exact ⟨K, PySem.W.Frag.In.keeps hK k, c⟩
def obsW (n : Nat) (fa : List He.Fa) (fn : List He.FnD) (fx : List Fx) (g : Addr → Option Obj) : He.Al × Bool := (He.obsG n fa fn g, fx.all fun f => f.ok (He.frG g (He.asG g n)))
theorem obsW_eq {n : Nat} {fa : List He.Fa} {fn : List He.FnD} {fx : List Fx} {g : Addr → Option Obj} {s : Shared} (h : ∀ a, g a = s.heap.get? a) : obsW n fa fn fx g = (hookW n fa fn fx).obs s := by
  have e : g = s.heap.get? := funext h
  rw [e]
  rfl
end DL

namespace DL
open PySem L2
/-! ### things that are none -/
theorem kit_tl (M : Mp) (x : D) (h : tyN M x ≠ "") : kitB (tyN M x) "tuple" = some (decide (tyN M x = "tuple")) ∧ kitB (tyN M x) "list" = some (decide (tyN M x = "list")) ∧ kitB2 (tyN M x) "list" "tuple" = some (decide (tyN M x = "list") || decide (tyN M x = "tuple")) := by
  have g : ∀ s : String, tyN M x = s → kitB s "tuple" = some (decide (s = "tuple")) → kitB s "list" = some (decide (s = "list")) → kitB2 s "list" "tuple" = some (decide (s = "list") || decide (s = "tuple")) → kitB (tyN M x) "tuple" = some (decide (tyN M x = "tuple")) ∧ kitB (tyN M x) "list" = some (decide (tyN M x = "list")) ∧ kitB2 (tyN M x) "list" "tuple" = some (decide (tyN M x = "list") || decide (tyN M x = "tuple")) := fun s e h1 h2 h3 => by
    rw [e]
    exact ⟨h1, h2, h3⟩
  cases x with
  | non => exact g "NoneType" rfl (by decide +kernel) (by decide +kernel) (by decide +kernel)
  | bl b => exact g "bool" rfl (by decide +kernel) (by decide +kernel) (by decide +kernel)
  | int i => exact g "int" rfl (by decide +kernel) (by decide +kernel) (by decide +kernel)
  | str s => exact g "str" rfl (by decide +kernel) (by decide +kernel) (by decide +kernel)
  | ty n => exact absurd rfl h
  | lst ds => exact g "list" rfl (by decide +kernel) (by decide +kernel) (by decide +kernel)
  | frl ds => exact g "list" rfl (by decide +kernel) (by decide +kernel) (by decide +kernel)
  | tup ds => exact g "tuple" rfl (by decide +kernel) (by decide +kernel) (by decide +kernel)
  | ref a =>
    cases e : M a with
    | none => exact absurd (by simp only [tyN, e]) h
    | some o =>
      cases o with
      | lst ds => exact g "list" (by simp only [tyN, e]) (by decide +kernel) (by decide +kernel) (by decide +kernel)
      | dct kvs => exact g "dict" (by simp only [tyN, e]) (by decide +kernel) (by decide +kernel) (by decide +kernel)
      | ins C fs => exact absurd (by simp only [tyN, e]) h
      | dcl od ws kvs => exact absurd (by simp only [tyN, e]) h
/-- a column of a table of that width -/
def colB (w : Int) : D → Bool
  | .int n => decide (0 ≤ n) && decide (n < w)
  | _ => false
def endB : D → Bool
  | .non => true
  | .int _ => true
  | _ => false
/-- a triple -/
def tripB (w : Int) : D → Bool
  | .tup [c, l, h] => colB w c && (endB l && endB h)
  | _ => false
theorem endB_eq (x : D) : endB x = (isNon x || wholeD x) := by cases x <;> rfl
theorem colB_cases (w : Int) (d : D) : colB w d = false ∨ ∃ n, d = .int n ∧ 0 ≤ n ∧ n < w := by
  cases d with
  | int n =>
    by_cases h : 0 ≤ n ∧ n < w
    · exact .inr ⟨n, rfl, h.1, h.2⟩
    · refine .inl ?_
      show (decide (0 ≤ n) && decide (n < w)) = false
      rw [Bool.eq_false_iff]
      intro z
      rw [Bool.and_eq_true] at z
      exact h ⟨of_decide_eq_true z.1, of_decide_eq_true z.2⟩
  | _ => exact .inl rfl
theorem cols_of {w : Int} : ∀ {ds : List D}, (∀ d ∈ ds, colB w d = true) → ∃ cols : List Int, ds = cols.map .int ∧ ∀ c ∈ cols, 0 ≤ c ∧ c < w
  | [], _ => ⟨[], rfl, fun c hc => (nomatch hc)⟩
  | d :: ds, h => by
    obtain ⟨cols, e, hc⟩ := cols_of (ds := ds) fun x hx => h x (List.mem_cons_of_mem _ hx)
    rcases colB_cases w d with h1 | ⟨n, rfl, h0, h1⟩
    · rw [h d List.mem_cons_self] at h1; cases h1
    · refine ⟨n :: cols, by rw [e]; rfl, fun c hc' => ?_⟩
      rcases List.mem_cons.mp hc' with rfl | hc'
      · exact ⟨h0, h1⟩
      · exact hc c hc'
theorem ints_of : ∀ {ds : List D}, (∀ d ∈ ds, wholeD d = true) → ∃ r : List Int, ds = r.map .int
  | [], _ => ⟨[], rfl⟩
  | d :: ds, h => by
    obtain ⟨r, e⟩ := ints_of (ds := ds) fun x hx => h x (List.mem_cons_of_mem _ hx)
    rcases whole_cases d with h1 | ⟨n, rfl⟩
    · rw [h d List.mem_cons_self] at h1; cases h1
    · exact ⟨n :: r, by rw [e]; rfl⟩
theorem all_or {α : Type} (f : α → Bool) (l : List α) : (∃ x ∈ l, f x = false) ∨ ∀ x ∈ l, f x = true := by
  by_cases h : ∃ x ∈ l, f x = false
  · exact .inl h
  · refine .inr fun x hx => ?_
    cases q : f x with
    | true => rfl
    | false => exact absurd ⟨x, hx, q⟩ h
/-- what is no width -/
def WidBad (M : Mp) (x : D) : Prop := tyN M x ≠ "" ∧ ∀ w, x = .int w → ¬ (1 ≤ w ∧ w ≤ 6)
/-- what is no row -/
def RowBad (M : Mp) (w : Int) (x : D) : Prop := (tyN M x ≠ "" ∧ tyN M x ≠ "list" ∧ tyN M x ≠ "tuple") ∨ ∃ ds, IsQ M x ds ∧ (∀ d ∈ ds, tyN M d ≠ "") ∧ ((ds.length : Int) ≠ w ∨ (ds.length : Int) = w ∧ ∃ d ∈ ds, wholeD d = false)
/-- what is no order -/
def OrdBad (M : Mp) (w : Int) (x : D) : Prop := (tyN M x ≠ "" ∧ tyN M x ≠ "tuple") ∨ ∃ ds, x = .tup ds ∧ (∀ d ∈ ds, tyN M d ≠ "") ∧ (ds = [] ∨ (∃ d ∈ ds, colB w d = false) ∨ ∃ cols : List Int, ds = cols.map .int ∧ (∀ c ∈ cols, 0 ≤ c ∧ c < w) ∧ cols.length ≤ 1000 ∧ ¬ cols.Nodup)
/-- what is no wish -/
def TripTy (M : Mp) (x : D) : Prop := tyN M x ≠ "" ∧ ∀ ds, x = .tup ds → ∀ d ∈ ds, tyN M d ≠ ""
def WishBad (M : Mp) (w : Int) (x : D) : Prop := (tyN M x ≠ "" ∧ tyN M x ≠ "list") ∨ ∃ ds, IsM M x ds ∧ (ds.length > 20 ∨ ds.length ≤ 20 ∧ (∀ d ∈ ds, TripTy M d) ∧ ∃ d ∈ ds, tripB w d = false)
/-! plain data -/
def plainD : Nat → D → Bool
  | _, .non => true
  | _, .bl _ => true
  | _, .int _ => true
  | _, .str x => PyData.strOk x
  | n + 1, .lst ds => ds.all (plainD n)
  | n + 1, .tup ds => ds.all (plainD n)
  | _, _ => false
theorem plain_all {n : Nat} (ih : ∀ d, plainD n d = true → okPy d = true ∧ PyData.canLay0 (toPy d) = true ∧ (toPy d).depth ≤ n + 1) : ∀ ds : List D, ds.all (plainD n) = true → okPys ds = true ∧ PyData.canLayAll0 (toPys ds) = true ∧ PyData.depthAll (toPys ds) ≤ n + 1
  | [], _ => by
    unfold okPys toPys PyData.canLayAll0 PyData.depthAll
    exact ⟨rfl, rfl, Nat.zero_le _⟩
  | d :: ds, h => by
    rw [List.all_cons, Bool.and_eq_true] at h
    obtain ⟨a1, a2, a3⟩ := ih d h.1
    obtain ⟨b1, b2, b3⟩ := plain_all ih ds h.2
    unfold okPys toPys PyData.canLayAll0 PyData.depthAll
    exact ⟨by rw [a1, b1]; rfl, by rw [a2, b2]; rfl, Nat.max_le.mpr ⟨a3, b3⟩⟩
theorem plain_ok : ∀ (n : Nat) (d : D), plainD n d = true → okPy d = true ∧ PyData.canLay0 (toPy d) = true ∧ (toPy d).depth ≤ n + 1 := fun n => by
  induction n with
  | zero =>
    intro d h
    cases d with
    | non => exact ⟨by unfold okPy; rfl, by unfold toPy; rfl, by unfold toPy PyData.depth; omega⟩
    | bl b => exact ⟨by unfold okPy; rfl, by unfold toPy; rfl, by unfold toPy PyData.depth; omega⟩
    | int i => exact ⟨by unfold okPy; rfl, by unfold toPy; rfl, by unfold toPy PyData.depth; omega⟩
    | str x => exact ⟨by unfold okPy; rfl, by unfold toPy PyData.canLay0; exact h, by unfold toPy PyData.depth; omega⟩
    | _ => cases h
  | succ n ih =>
    intro d h
    cases d with
    | non => exact ⟨by unfold okPy; rfl, by unfold toPy; rfl, by unfold toPy PyData.depth; omega⟩
    | bl b => exact ⟨by unfold okPy; rfl, by unfold toPy; rfl, by unfold toPy PyData.depth; omega⟩
    | int i => exact ⟨by unfold okPy; rfl, by unfold toPy; rfl, by unfold toPy PyData.depth; omega⟩
    | str x => exact ⟨by unfold okPy; rfl, by unfold toPy PyData.canLay0; exact h, by unfold toPy PyData.depth; omega⟩
    | lst ds =>
      obtain ⟨h1, h2, h3⟩ := plain_all ih ds h
      exact ⟨by unfold okPy; exact h1, by unfold toPy PyData.canLay0; exact h2, by unfold toPy PyData.depth; omega⟩
    | tup ds =>
      obtain ⟨h1, h2, h3⟩ := plain_all ih ds h
      exact ⟨by unfold okPy; exact h1, by unfold toPy PyData.canLay0; exact h2, by unfold toPy PyData.depth; omega⟩
    | _ => cases h
theorem plain_ty {n : Nat} {d : D} {M : Mp} (h : plainD n d = true) : tyN M d ≠ "" := by
  cases d with
  | ty x => cases n <;> cases h
  | ref a => cases n <;> cases h
  | _ => exact tyN_fl rfl
theorem plain_tys {n : Nat} {ds : List D} {M : Mp} (h : plainD (n + 1) (.tup ds) = true) : ∀ d ∈ ds, tyN M d ≠ "" := fun d hd => plain_ty (n := n) (List.all_eq_true.mp h d hd)
/-- a thing is an order, or none -/
theorem ord_cases {n : Nat} {w : Int} {x : D} (M : Mp) (h : plainD (n + 1) x = true) (hl : ∀ ds, x = .tup ds → ds.length ≤ 1000) : OrdBad M w x ∨ ∃ cols : List Int, x = .tup (cols.map .int) ∧ (∀ c ∈ cols, 0 ≤ c ∧ c < w) ∧ cols.Nodup ∧ cols ≠ [] := by
  have key : ∀ ds, x = .tup ds → OrdBad M w x ∨ ∃ cols : List Int, x = .tup (cols.map .int) ∧ (∀ c ∈ cols, 0 ≤ c ∧ c < w) ∧ cols.Nodup ∧ cols ≠ [] := fun ds e => by
    have ht := plain_tys (M := M) (by rw [← e]; exact h)
    have hl := hl ds e
    by_cases h0 : ds = []
    · exact .inl (.inr ⟨ds, e, ht, .inl h0⟩)
    rcases all_or (colB w) ds with h1 | h1
    · exact .inl (.inr ⟨ds, e, ht, .inr (.inl h1)⟩)
    obtain ⟨cols, ec, hc⟩ := cols_of h1
    by_cases h2 : cols.Nodup
    · exact .inr ⟨cols, by rw [e, ec], hc, h2, fun z => h0 (by rw [ec, z]; rfl)⟩
    · exact .inl (.inr ⟨ds, e, ht, .inr (.inr ⟨cols, ec, hc, by rw [ec, List.length_map] at hl; exact hl, h2⟩)⟩)
  cases x with
  | tup ds => exact key ds rfl
  | non => exact .inl (.inl ⟨tyN_fl rfl, (by decide : "NoneType" ≠ "tuple")⟩)
  | bl b => exact .inl (.inl ⟨tyN_fl rfl, (by decide : "bool" ≠ "tuple")⟩)
  | int i => exact .inl (.inl ⟨tyN_fl rfl, (by decide : "int" ≠ "tuple")⟩)
  | str s => exact .inl (.inl ⟨tyN_fl rfl, (by decide : "str" ≠ "tuple")⟩)
  | lst ds => exact .inl (.inl ⟨tyN_fl rfl, (by decide : "list" ≠ "tuple")⟩)
  | frl ds => exact .inl (.inl ⟨tyN_fl rfl, (by decide : "list" ≠ "tuple")⟩)
  | ty m => cases h
  | ref a => cases h
section
variable {J : Jx} {te ta tb : TE} {ρ : Ro} {M : Mp} {x y : D} {R : D → Mp → Prop}
/-- x in xs, where the answer is of no matter -/
theorem w_inP {α : Type} [DecidableEq α] (cc : Cd α) {n : Nat} {l : List α} (ha : Ev J ta ρ M x) (hb : Ev J tb ρ M y) (hx : plainD n x = true) (hn : n ≤ 60) (hy : Vw M y ((cL cc).d l)) (hd : cc.dep < 64) (k : ∀ b, R (.bl b) M) : W J (tOp (rInD J.K) ta tb) ρ M R :=
  w_op1 ha hb fun G H vx vy s tx ty Q q => by
    obtain ⟨h1, h2, h3⟩ := plain_ok n x hx
    refine ⟨toPy x, toPys (l.map cc.d), dp_of s.sub tx h1, ?_, ?_, ?_, q _ _ G M H (k _) (Same.refl G) s (.bl _)⟩
    · have := hy.dp s ty ((cL cc).ok l)
      rw [toPy_L] at this
      exact this
    · unfold SeqAt.shaped
      rw [h2, Bool.true_and]
      exact decide_eq_true (by omega)
    · have := shaped_of (cL cc) (show (cL cc).dep ≤ 64 from hd) l
      rw [toPy_L] at this
      exact this
/-- a part of a text -/
theorem ev_slS {tl th : TO} {z : Str} {lo hi : Option Int} (h : Ev J te ρ M (.str z)) (h1 : EvO J tl ρ M lo) (h2 : EvO J th ρ M hi) (hz : z.length ≤ sizeLine) : Ev J (tSl rSlS te tl th) ρ M (.str (cutS z lo hi)) := fun G σ H r s xo Q q =>
  h G σ H r s xo _ fun v d G1 M1 H1 e e1 s1 t1 => by
    obtain ⟨rfl, rfl⟩ := e
    cases t1
    refine h1 G1 σ H1 (r.mono e1) s1 (xo.mono e1) _ fun G2 H2 e2 s2 => h2 G2 σ H2 (r.mono (e1.trans e2)) s2 (xo.mono (e1.trans e2)) _ fun G3 H3 e3 s3 => ?_
    exact ⟨z, rfl, hz, q _ _ G3 _ _ ⟨rfl, rfl⟩ ((e1.trans e2).trans e3) s3 (.str _)⟩
end
end DL

namespace Wb
open PySem L2 DL
def top (i : Nat) : Stmt := PySem.Challenge.pw_waybook_k07_rows_told.main.body.getD i (.Pass ⟨0, 0, 0, 0⟩)
abbrev s_less : Stmt := top 10
abbrev s_below : Stmt := top 11
abbrev s_is_whole : Stmt := top 13
abbrev s_Kept_init : Stmt := inClass (top 15) 0
abbrev s_Kept_entry : Stmt := inClass (top 15) 1
abbrev s_Kept_put : Stmt := inClass (top 15) 2
abbrev s_Kept_drop : Stmt := inClass (top 15) 3
abbrev s_Kept_numbers : Stmt := inClass (top 15) 4
abbrev s_Table_init : Stmt := inClass (top 20) 0
abbrev s_Table_need_row : Stmt := inClass (top 20) 1
abbrev s_Table_put : Stmt := inClass (top 20) 2
abbrev s_Table_drop : Stmt := inClass (top 20) 3
abbrev s_Table_change : Stmt := inClass (top 20) 4
abbrev s_Table_row : Stmt := inClass (top 20) 5
abbrev s_Table_numbers : Stmt := inClass (top 20) 6
abbrev s_Table_need_order : Stmt := inClass (top 20) 7
abbrev s_Table_orders : Stmt := inClass (top 20) 11
abbrev s_Table_tell : Stmt := inClass (top 20) 9
abbrev s_l_whole : Stmt := top 22
abbrev s_l_at : Stmt := top 23
abbrev s_l_value : Stmt := top 24
abbrev s_l_row : Stmt := top 25
abbrev s_l_same : Stmt := top 26
abbrev s_l_said : Stmt := top 27
abbrev s_l_any : Stmt := top 28
abbrev s_l_deed : Stmt := top 29
abbrev s_law : Stmt := top 30
abbrev dd_less : He.FnD := ⟨("less", none), "less", "less", defArgs s_less, defBody s_less, defScope s_less⟩
abbrev dd_below : He.FnD := ⟨("below", none), "below", "below", defArgs s_below, defBody s_below, defScope s_below⟩
abbrev dd_is_whole : He.FnD := ⟨("is_whole", none), "is_whole", "is_whole", defArgs s_is_whole, defBody s_is_whole, defScope s_is_whole⟩
abbrev dd_Kept_init : He.FnD := ⟨("Kept", some "__init__"), "__init__", "Kept.__init__", defArgs s_Kept_init, defBody s_Kept_init, defScope s_Kept_init⟩
abbrev dd_Kept_entry : He.FnD := ⟨("Kept", some "entry"), "entry", "Kept.entry", defArgs s_Kept_entry, defBody s_Kept_entry, defScope s_Kept_entry⟩
abbrev dd_Kept_put : He.FnD := ⟨("Kept", some "put"), "put", "Kept.put", defArgs s_Kept_put, defBody s_Kept_put, defScope s_Kept_put⟩
abbrev dd_Kept_drop : He.FnD := ⟨("Kept", some "drop"), "drop", "Kept.drop", defArgs s_Kept_drop, defBody s_Kept_drop, defScope s_Kept_drop⟩
abbrev dd_Kept_numbers : He.FnD := ⟨("Kept", some "numbers"), "numbers", "Kept.numbers", defArgs s_Kept_numbers, defBody s_Kept_numbers, defScope s_Kept_numbers⟩
abbrev dd_Table_init : He.FnD := ⟨("Table", some "__init__"), "__init__", "Table.__init__", defArgs s_Table_init, defBody s_Table_init, defScope s_Table_init⟩
abbrev dd_Table_need_row : He.FnD := ⟨("Table", some "need_row"), "need_row", "Table.need_row", defArgs s_Table_need_row, defBody s_Table_need_row, defScope s_Table_need_row⟩
abbrev dd_Table_put : He.FnD := ⟨("Table", some "put"), "put", "Table.put", defArgs s_Table_put, defBody s_Table_put, defScope s_Table_put⟩
abbrev dd_Table_drop : He.FnD := ⟨("Table", some "drop"), "drop", "Table.drop", defArgs s_Table_drop, defBody s_Table_drop, defScope s_Table_drop⟩
abbrev dd_Table_change : He.FnD := ⟨("Table", some "change"), "change", "Table.change", defArgs s_Table_change, defBody s_Table_change, defScope s_Table_change⟩
abbrev dd_Table_row : He.FnD := ⟨("Table", some "row"), "row", "Table.row", defArgs s_Table_row, defBody s_Table_row, defScope s_Table_row⟩
abbrev dd_Table_numbers : He.FnD := ⟨("Table", some "numbers"), "numbers", "Table.numbers", defArgs s_Table_numbers, defBody s_Table_numbers, defScope s_Table_numbers⟩
abbrev dd_Table_need_order : He.FnD := ⟨("Table", some "need_order"), "need_order", "Table.need_order", defArgs s_Table_need_order, defBody s_Table_need_order, defScope s_Table_need_order⟩
abbrev dd_Table_orders : He.FnD := ⟨("Table", some "orders"), "orders", "Table.orders", defArgs s_Table_orders, defBody s_Table_orders, defScope s_Table_orders⟩
abbrev dd_Table_tell : He.FnD := ⟨("Table", some "tell"), "tell", "Table.tell", defArgs s_Table_tell, defBody s_Table_tell, defScope s_Table_tell⟩
abbrev dd_l_whole : He.FnD := ⟨("_law_whole", none), "_law_whole", "_law_whole", defArgs s_l_whole, defBody s_l_whole, defScope s_l_whole⟩
abbrev dd_l_at : He.FnD := ⟨("_law_at", none), "_law_at", "_law_at", defArgs s_l_at, defBody s_l_at, defScope s_l_at⟩
abbrev dd_l_value : He.FnD := ⟨("_law_value", none), "_law_value", "_law_value", defArgs s_l_value, defBody s_l_value, defScope s_l_value⟩
abbrev dd_l_row : He.FnD := ⟨("_law_row", none), "_law_row", "_law_row", defArgs s_l_row, defBody s_l_row, defScope s_l_row⟩
abbrev dd_l_same : He.FnD := ⟨("_law_same", none), "_law_same", "_law_same", defArgs s_l_same, defBody s_l_same, defScope s_l_same⟩
abbrev dd_l_said : He.FnD := ⟨("_law_said", none), "_law_said", "_law_said", defArgs s_l_said, defBody s_l_said, defScope s_l_said⟩
abbrev dd_l_any : He.FnD := ⟨("_law_any", none), "_law_any", "_law_any", defArgs s_l_any, defBody s_l_any, defScope s_l_any⟩
abbrev dd_l_deed : He.FnD := ⟨("_law_deed", none), "_law_deed", "_law_deed", defArgs s_l_deed, defBody s_l_deed, defScope s_l_deed⟩
abbrev dd_law : He.FnD := ⟨("law", none), "law", "law", defArgs s_law, defBody s_law, defScope s_law⟩
def fn : List He.FnD := [dd_less, dd_below, dd_is_whole, dd_Kept_init, dd_Kept_entry, dd_Kept_put, dd_Kept_drop, dd_Kept_numbers, dd_Table_init, dd_Table_need_row, dd_Table_put, dd_Table_drop, dd_Table_change, dd_Table_row, dd_Table_numbers, dd_Table_need_order, dd_Table_orders, dd_Table_tell, dd_l_whole, dd_l_at, dd_l_value, dd_l_row, dd_l_same, dd_l_said, dd_l_any, dd_l_deed, dd_law]
def fa : List He.Fa := [.free "zip", .free "len", .free "int", .free "isinstance", .free "bool", .cls "Kept", .meth "Kept" "entry", .int "MOST_WIDTH" 6, .exc "BadWidth", .glo "BadWidth", .exc "NoRow", .glo "NoRow", .free "list", .free "tuple", .exc "BadRow", .glo "BadRow", .int "MOST_ROWS" 200, .exc "Full", .glo "Full", .meth "Kept" "put", .cls "Table", .meth "Table" "need_row", .meth "Kept" "drop", .exc "BadColumn", .glo "BadColumn", .free "sorted", .exc "BadOrder", .glo "BadOrder", .free "set", .meth "Table" "need_order", .meth "Table" "orders", .int "MOST_ORDERS" 8, .mkr "Kept", .glo "Kept", .meth "Table" "numbers", .free "range", .meth "Table" "drop", .meth "Table" "change", .meth "Table" "row", .free "ValueError", .glo "BookError", .mkr "Table", .glo "Table", .meth "Table" "put", .glo "less", .glo "below", .glo "is_whole", .noat "Kept" "columns", .noat "Kept" "entries", .meth "Kept" "__init__", .meth "Kept" "numbers", .noat "Table" "width", .noat "Table" "held", .noat "Table" "made", .noat "Table" "kept", .meth "Table" "__init__", .meth "Table" "tell", .glo "_law_whole", .glo "_law_at", .glo "_law_value", .glo "_law_row", .glo "_law_same", .exm "NoRow" "NoRow" true, .exm "BadColumn" "NoRow" false, .exm "BadColumn" "BadColumn" true, .exm "BadRow" "NoRow" false, .exm "BadRow" "BadColumn" false, .exm "BadRow" "BadRow" true, .glo "_law_said", .exm "NoRow" "BookError" true, .glo "_law_any", .glo "_law_deed", .glo "law", .keep "less", .keep "below", .keep "is_whole", .keep "_law_whole", .keep "_law_at", .keep "_law_value", .keep "_law_row", .keep "_law_same", .keep "_law_said", .keep "_law_any", .keep "_law_deed", .keep "law"]
def fx : List DL.Fx := [.iso "NoRow", .kt "NoRow" "ValueError" true]
/-- what the top has written -/
structure Tx (K : PySem.W.Frag) (mg : Str → Option Value) : Prop where
  says : He.SaysE fa fn K
  more : (fx.all fun f => f.ok K) = true
  hh : ∃ h : Heap, K.In h ∧ h.Ns mainGlobals mg
section
variable {K : PySem.W.Frag} {mg : Str → Option Value}
theorem Tx.gl (T : Tx K mg) (i : Nat) {x : Str} (h : fa[i]? = some (.glo x) := by rfl) : mg x = some (.ref (He.ga K x)) := by
  obtain ⟨_, X, G⟩ := T.hh
  exact He.glo_ok X G (T.says.fact i h)
theorem Tx.fr (T : Tx K mg) (i : Nat) {x : Str} (h : fa[i]? = some (.free x) := by rfl) : mg x = none := by
  obtain ⟨_, X, G⟩ := T.hh
  exact He.free_ok X G (T.says.fact i h)
theorem Tx.gi (T : Tx K mg) (i : Nat) {x : Str} {n : Int} (h : fa[i]? = some (.int x n) := by rfl) : ∃ t, mg x = some (.int n t) := by
  obtain ⟨_, X, G⟩ := T.hh
  exact He.int_ok X G (T.says.fact i h)
theorem Tx.na (T : Tx K mg) (i : Nat) {x f : Str} (h : fa[i]? = some (.noat x f) := by rfl) : NoAttr K (He.ga K x) f := He.noat_ok (T.says.fact i h)
theorem Tx.cl (T : Tx K mg) (i : Nat) {x : Str} (h : fa[i]? = some (.cls x) := by rfl) : Cls K (He.ga K x) := He.cls_ok (T.says.fact i h)
theorem Tx.me (T : Tx K mg) (i : Nat) {x m : Str} (h : fa[i]? = some (.meth x m) := by rfl) : Meth K (He.ga K x) m (He.ma K (He.ga K x) m) := He.meth_ok (T.says.fact i h)
theorem Tx.mr (T : Tx K mg) (i : Nat) {x : Str} (h : fa[i]? = some (.mkr x) := by rfl) : Mk K (He.ga K x) (He.ma K (He.ga K x) "__init__") := He.mkr_ok (T.says.fact i h)
theorem Tx.ex (T : Tx K mg) (i : Nat) {x : Str} (h : fa[i]? = some (.exc x) := by rfl) : PySem.W.excIn K (He.ga K x) He.veBase "ValueError.__new__" = true ∧ PySem.W.keepIn K (.ref (He.ga K x)) = true ∧ PySem.W.subIn K (.ref (He.ga K x)) (.type "BaseException") = some true ∧ PySem.W.typeIn K (.ref (He.ga K x)) = some (.type "type") := He.exc_ok (T.says.fact i h)
theorem Tx.xm (T : Tx K mg) (i : Nat) {x y : Str} {b : Bool} (h : fa[i]? = some (.exm x y b) := by rfl) : PySem.W.exmOne K (.ref (He.ga K x)) (.ref (He.ga K y)) = some b := He.exm_ok (T.says.fact i h)
theorem Tx.fxo (T : Tx K mg) (i : Nat) {f : DL.Fx} (h : fx[i]? = some f) : f.ok K = true := List.all_eq_true.mp T.more f (List.mem_of_getElem? h)
theorem Tx.xi (T : Tx K mg) (i : Nat) {x : Str} (h : fx[i]? = some (.iso x) := by rfl) : ExcC K (He.ga K x) := DL.fx_iso (T.fxo i h)
theorem Tx.kt (T : Tx K mg) (i : Nat) {x : Str} {n : String} {b : Bool} (h : fx[i]? = some (.kt x n b) := by rfl) : PySem.W.kitOne K (.ref (He.ga K x)) (.type n) = some b := of_decide_eq_true (T.fxo i h)
theorem Tx.kr (T : Tx K mg) (i : Nat) {x y : Str} {b : Bool} (h : fx[i]? = some (.kr x y b) := by rfl) : PySem.W.kitOne K (.ref (He.ga K x)) (.ref (He.ga K y)) = some b := of_decide_eq_true (T.fxo i h)
theorem Tx.fnF (T : Tx K mg) (i : Nat) (st : Stmt) (x : Str) (j : Nat) (h : fn[i]? = some ⟨(x, none), x, x, defArgs st, defBody st, defScope st⟩ := by rfl) (hk : fa[j]? = some (.keep x) := by rfl) : ∃ fd, Fun K x x st (He.ga K x) fd := by
  obtain ⟨oc, od, osl, kV, doc, pm, an, cdv, ct, l, c⟩ := T.says.def_ i h
  exact ⟨_, fun_mk (st := st) l c (He.keep_ok (T.says.fact j hk))⟩
theorem Tx.fnM (T : Tx K mg) (i : Nat) (st : Stmt) (C m q : Str) (j : Nat) (h : fn[i]? = some ⟨(C, some m), m, q, defArgs st, defBody st, defScope st⟩ := by rfl) (hk : fa[j]? = some (.meth C m) := by rfl) : ∃ fd, Fun K m q st (He.ma K (He.ga K C) m) fd := by
  obtain ⟨oc, od, osl, kV, doc, pm, an, cdv, ct, l, c⟩ := T.says.def_ i h
  exact ⟨_, fun_mk (st := st) l c (T.me j hk).kp⟩
end

local macro_rules | `(tactic| walk_at "bt1") => `(tactic| first | assumption | (refine bt16 ?_ ?_ <;> omega) | with_reducible apply Bt.add2 | with_reducible apply Bt.sub2 | with_reducible apply Bt.mul | (with_reducible refine Bt.div ?_ (by decide)) | exact bt_lit _)
local macro_rules | `(tactic| walk_at "bt") => `(tactic| repeat' (walk_at "bt1"))
local macro_rules | `(tactic| walk_at "cm") => `(tactic| ((apply mulA); (focus walk_at "bt"); (focus walk_at "bt"); (decide +kernel)))
local macro_rules | `(tactic| walk_at "ev1") => `(tactic| first
  | with_reducible exact ev_int | with_reducible exact ev_bl | with_reducible exact ev_non | with_reducible exact ev_str | with_reducible exact ev_ty
  | with_reducible exact ev_var (by with_unfolding_all rfl)
  | with_reducible refine' ev_I0 ?_ ?_ | with_reducible refine' ev_B0 ?_ ?_ | with_reducible refine' ev_I ?_ ?_ ?_ | with_reducible refine' ev_U ?_ | with_reducible refine' ev_eqI ?_ ?_ | with_reducible refine' ev_neI ?_ ?_
  | with_reducible refine' ev_chainB ?_ ?_ ?_ | with_reducible refine' ev_isN ?_ | with_reducible refine' ev_notN ?_
  | with_reducible refine' et_test ?_ | with_reducible refine' et_B ?_ | with_reducible refine' et_not ?_ | with_reducible refine' et_and ?_ (fun _ => ?_) | with_reducible refine' et_or ?_ (fun _ => ?_)
  | with_reducible refine' ev_notV ?_ | with_reducible refine' ev_andV ?_ (fun _ => ?_) | with_reducible refine' ev_orV ?_ (fun _ => ?_)
  | with_reducible refine' ea_cons ?_ ?_ | with_reducible exact ea_nil
  | with_reducible refine' ev_max2 ?_ ?_ | with_reducible refine' ev_min2 ?_ ?_
  | (refine cpowD ?_ ?_ <;> decide +kernel) | (refine cmulD ?_; decide +kernel) | (show CMulA _ _; walk_at "cm")
  | (show CDiv _ _; exact ⟨by decide, by decide⟩) | (show (0 : Int) < _; first | decide | omega))
local macro_rules | `(tactic| walk_at "ev") => `(tactic| repeat' (walk_at "ev1"))
local macro_rules | `(tactic| walk_at "ne") => `(tactic| first | assumption | (apply Ne.symm; assumption))
local macro_rules | `(tactic| walk_at "led") => `(tactic| ((repeat (rw [ud_ne]; rotate_left; (focus walk_at "ne"))); first | exact ud_same | assumption))

section
variable {P : Program} {w : World} {K : PySem.W.Frag} {mg : Str → Option Value} {base : Heap}

/-- the lesser one of two lists of ints: at the first place where they differ the lesser number, else the shorter one -/
def lessM : List Int → List Int → Bool
  | a :: as, b :: bs => if a = b then lessM as bs else decide (a < b)
  | [], _ :: _ => true
  | _, [] => false
theorem lessM_cons {a b : Int} {as bs : List Int} : lessM (a :: as) (b :: bs) = if a = b then lessM as bs else decide (a < b) := by rw [lessM]
theorem lessM_end : ∀ {xs ys : List Int}, xs = [] ∨ ys = [] → lessM xs ys = decide (xs.length < ys.length)
  | [], [], _ => rfl
  | [], _ :: _, _ => by simp [lessM]
  | _ :: _, [], _ => by simp [lessM]
  | _ :: _, _ :: _, h => by rcases h with h | h <;> cases h
def pr_less (K : PySem.W.Frag) : Pr := q2 fun x y M nx _ => ∃ xs ys : List Int, IsL M x (xs.map .int) ∧ IsL M y (ys.map .int) ∧ nx (.bl (lessM xs ys)) M
section
variable {J : Jx} {ta tb : TE} {ρ : Ro} {M : Mp} {E : XK} {x y : D}
theorem ev_less {xs ys : List Int} (ha : Ev J ta ρ M x) (hb : Ev J tb ρ M y) (hx : IsL M x (xs.map .int)) (hy : IsL M y (ys.map .int)) : Ev J (tCall (spD J.K (pr_less J.K)) [] E (tCons ta (tCons tb tNil))) ρ M (.bl (lessM xs ys)) :=
  w_call ((ea_cons ha (ea_cons hb ea_nil)).w ⟨_, _, rfl, xs, ys, hx, hy, rfl, rfl⟩)
end
abbrev nm_less : List Str := ["one", "other", "a", "b"]
theorem sc_less : FnScope nm_less ["one", "other"] (defScope s_less) := ⟨rfl, rfl, rfl, by decide +kernel, rfl, by decide +kernel, by decide +kernel⟩
theorem ok_less (hTx : Tx K mg) : OkF P w K mg base CX0 1 "less" (He.ga K "less") ["one", "other"] (pr_less K) := by
  obtain ⟨_, F⟩ := hTx.fnF 0 s_less "less" 73
  refine ⟨_, ?_, F.binds (ps := ["one", "other"]) fun _ _ _ _ _ _ us hl => match us, hl with | [_, _], _ => rfl, F.kp, hTx.gl 44⟩
  refine fn_dl F sc_less (fun _ _ _ _ h => q2_len h) (fun cdv A outer s H E hr => ⟨_, (pss_cons (ps_for PassesOwn.never rfl (pi_zip (by rfl) (hTx.fr 0) (pa_cons (pv 0) (pa_cons (pv 1) pa_nil))) (kx_gtup (K := K) (n := 2) rfl rfl (pgs_cons (pg_name (i := 2) sc_less.nd rfl (Or.inl rfl)) (pgs_cons (pg_name (i := 3) sc_less.nd rfl (Or.inl rfl)) pgs_nil)))
    (pss_one (ps_if (pt_cmpR op_ne (pv 2) (pv 3) (nomark _))
    (pss_one (ps_ret (pe_cmpR op_lt (pv 2) (pv 3) (nomark _))))
    pss_nil)))
    (pss_one (ps_ret (pe_cmpR op_lt (pe_callB (kx_len (K := K) rfl) (by rfl) (hTx.fr 1) (by decide +kernel) (pa_cons (pv 0) pa_nil)) (pe_callB (kx_len (K := K) rfl) (by rfl) (hTx.fr 1) (by decide +kernel) (pa_cons (pv 1) pa_nil)) (nomark _))))), ?_⟩)
  try dsimp only [cx_K, cx_nK]
  rintro _ M nx xe ⟨x, y, rfl, xs, ys, hx, hy, k⟩
  refine s_seq (s_for (src_zip (ev_var rfl) (ev_var rfl) hx hy) (fun i ρ' M' => M' = M ∧ (∃ a b, ρ' = [some x, some y, a, b]) ∧ lessM xs ys = lessM (xs.drop i) (ys.drop i)) ⟨rfl, ⟨none, none, rfl⟩, rfl⟩ (fun i ρ' M' h => by rw [h.1]; exact ⟨hx, hy⟩) ?_ ?_)
  · rintro i d ρ' M' hd ⟨rfl, ⟨a, b, rfl⟩, e⟩
    obtain ⟨u, v, h1, h2, rfl⟩ := zipD_get hd
    obtain ⟨m, h3, rfl⟩ := get_int h1
    obtain ⟨n, h4, rfl⟩ := get_int h2
    rw [drop_at h3, drop_at h4] at e
    refine sg_tup rfl (sgs_cons (sg_name (sgs_cons (sg_name (sgs_nil ?_)))))
    refine s_if (et_test (ev_neI (ev_var rfl) (ev_var rfl))) (fun hb => ?_) (fun hb => ?_)
    · refine s_ret ((ev_B0 (ev_var rfl) (ev_var rfl)).w ?_)
      have hne : ¬ m = n := by simpa using hb
      rw [lessM_cons, if_neg hne] at e
      rw [e] at k
      exact k
    · have heq : m = n := by simpa using hb
      rw [lessM_cons, if_pos heq] at e
      exact s_next ⟨rfl, ⟨_, _, rfl⟩, e⟩
  · rintro ρ' M' ⟨rfl, ⟨a, b, rfl⟩, e⟩
    refine s_ret ((ev_B0 (ev_len (ev_var rfl) hx.q) (ev_len (ev_var rfl) hy.q)).w ?_)
    have e2 : lessM xs ys = decide ((xs.map D.int).length < (ys.map D.int).length) := by
      rw [zipD_len, List.length_map, List.length_map] at e
      rw [e, List.length_map, List.length_map, lessM_end]
      · rw [List.length_drop, List.length_drop, Bool.eq_iff_iff]
        simp only [decide_eq_true_eq]
        omega
      · rcases Nat.le_total xs.length ys.length with h | h
        · exact .inl (List.drop_eq_nil_of_le (by omega))
        · exact .inr (List.drop_eq_nil_of_le (by omega))
    rw [e2] at k
    simpa using k

/-! the order of lists of ints -/
theorem lessM_irr : ∀ a : List Int, lessM a a = false
  | [] => by simp [lessM]
  | x :: a => by rw [lessM_cons, if_pos rfl]; exact lessM_irr a
theorem lessM_nil (a : List Int) : lessM a [] = false := by cases a <;> simp [lessM]
theorem lessM_nil_cons {b : Int} {bs : List Int} : lessM [] (b :: bs) = true := by simp [lessM]
theorem lessM_trans : ∀ {a b c : List Int}, lessM a b = true → lessM b c = true → lessM a c = true
  | a, b, [], _, h => by rw [lessM_nil] at h; cases h
  | a, [], c :: cs, h, _ => by rw [lessM_nil] at h; cases h
  | [], b :: bs, c :: cs, _, _ => lessM_nil_cons
  | a :: as, b :: bs, c :: cs, h1, h2 => by
    rw [lessM_cons] at h1 h2 ⊢
    by_cases e1 : a = b
    · rw [if_pos e1] at h1
      by_cases e2 : b = c
      · rw [if_pos e2] at h2
        rw [if_pos (e1.trans e2)]
        exact lessM_trans h1 h2
      · rw [if_neg e2] at h2
        have h2 := of_decide_eq_true h2
        rw [if_neg (by omega)]
        exact decide_eq_true (by omega)
    · rw [if_neg e1] at h1
      have h1 := of_decide_eq_true h1
      by_cases e2 : b = c
      · rw [if_neg (by omega)]
        exact decide_eq_true (by omega)
      · rw [if_neg e2] at h2
        have h2 := of_decide_eq_true h2
        rw [if_neg (by omega)]
        exact decide_eq_true (by omega)
theorem lessM_tri : ∀ {a b : List Int}, lessM a b = false → lessM b a = false → a = b
  | [], [], _, _ => rfl
  | [], b :: bs, h, _ => by rw [lessM_nil_cons] at h; cases h
  | a :: as, [], _, h => by rw [lessM_nil_cons] at h; cases h
  | a :: as, b :: bs, h1, h2 => by
    rw [lessM_cons] at h1 h2
    by_cases e : a = b
    · subst e
      rw [if_pos rfl] at h1 h2
      rw [lessM_tri h1 h2]
    · rw [if_neg e] at h1
      rw [if_neg (fun z => e z.symm)] at h2
      have h1 := of_decide_eq_false h1
      have h2 := of_decide_eq_false h2
      omega
/-- a does not stand behind b, b ahead of c: a ahead of c -/
theorem lessM_le_lt {a b c : List Int} (h1 : lessM b a = false) (h2 : lessM b c = true) : lessM a c = true := by
  cases h : lessM a b with
  | true => exact lessM_trans h h2
  | false => rw [lessM_tri h h1]; exact h2
/-- none stands behind a later one -/
def Rising (rows : List (List Int)) : Prop := rows.Pairwise fun a b => lessM b a = false
def cntB (rows : List (List Int)) (key : List Int) : Nat := rows.countP fun r => lessM r key
theorem cntB_of {rows : List (List Int)} {key : List Int} {n : Nat} (hn : n ≤ rows.length) (h1 : ∀ (i : Nat) r, i < n → rows[i]? = some r → lessM r key = true) (h2 : ∀ (i : Nat) r, n ≤ i → rows[i]? = some r → lessM r key = false) : cntB rows key = n := by
  unfold cntB
  have e : rows = rows.take n ++ rows.drop n := (List.take_append_drop n rows).symm
  have e1 : (rows.take n).countP (fun r => lessM r key) = (rows.take n).length := List.countP_eq_length.mpr fun r hr => by
    obtain ⟨i, hi⟩ := List.mem_iff_getElem?.mp hr
    have hl := lt_of_get hi
    rw [List.length_take] at hl
    rw [List.getElem?_take_of_lt (by omega)] at hi
    exact h1 i r (by omega) hi
  have e2 : (rows.drop n).countP (fun r => lessM r key) = 0 := List.countP_eq_zero.mpr fun r hr => by
    obtain ⟨i, hi⟩ := List.mem_iff_getElem?.mp hr
    rw [List.getElem?_drop] at hi
    rw [h2 (n + i) r (by omega) hi]
    exact Bool.false_ne_true
  rw [e, List.countP_append, e1, e2, List.length_take]
  omega
theorem rising_at {rows : List (List Int)} (h : Rising rows) {i j : Nat} {a b : List Int} (hij : i < j) (hi : rows[i]? = some a) (hj : rows[j]? = some b) : lessM b a = false := by
  obtain ⟨l1, e1⟩ := List.getElem?_eq_some_iff.mp hi
  obtain ⟨l2, e2⟩ := List.getElem?_eq_some_iff.mp hj
  have := List.pairwise_iff_getElem.mp h i j l1 l2 hij
  rw [e1, e2] at this
  exact this
abbrev dI (xs : List Int) : D := .lst (xs.map .int)
def pr_below (K : PySem.W.Frag) : Pr := q2 fun x y M nx _ => ∃ (rows : List (List Int)) (key : List Int), IsL M x (rows.map dI) ∧ IsL M y (key.map .int) ∧ Rising rows ∧ rows.length ≤ 1000000 ∧ nx (.int (cntB rows key)) M
section
variable {J : Jx} {ta tb : TE} {ρ : Ro} {M : Mp} {E : XK} {x y : D}
theorem ev_below {rows : List (List Int)} {key : List Int} (ha : Ev J ta ρ M x) (hb : Ev J tb ρ M y) (hx : IsL M x (rows.map dI)) (hy : IsL M y (key.map .int)) (hr : Rising rows) (hl : rows.length ≤ 1000000) : Ev J (tCall (spD J.K (pr_below J.K)) [] E (tCons ta (tCons tb tNil))) ρ M (.int (cntB rows key)) :=
  w_call ((ea_cons ha (ea_cons hb ea_nil)).w ⟨_, _, rfl, rows, key, hx, hy, hr, hl, rfl, rfl⟩)
end
abbrev nm_below : List Str := ["rows", "key", "low", "high", "middle"]
theorem sc_below : FnScope nm_below ["rows", "key"] (defScope s_below) := ⟨rfl, rfl, rfl, by decide +kernel, rfl, by decide +kernel, by decide +kernel⟩
theorem ok_below (hTx : Tx K mg) : OkF P w K mg base CX0 2 "below" (He.ga K "below") ["rows", "key"] (pr_below K) := by
  obtain ⟨_, G_less, b_less, k_less, g_less⟩ := ok_less (P := P) (w := w) (base := base) hTx
  obtain ⟨_, F⟩ := hTx.fnF 1 s_below "below" 74
  refine ⟨_, ?_, F.binds (ps := ["rows", "key"]) fun _ _ _ _ _ _ us hl => match us, hl with | [_, _], _ => rfl, F.kp, hTx.gl 45⟩
  refine fn_dl F sc_below (fun _ _ _ _ h => q2_len h) (fun cdv A outer s H E hr => ⟨_, (pss_cons (ps_set (i := 2) sc_below.nd rfl (Or.inl rfl) pe_int)
    (pss_cons (ps_set (i := 3) sc_below.nd rfl (Or.inl rfl) (pe_callB (kx_len (K := K) rfl) (by rfl) (hTx.fr 1) (by decide +kernel) (pa_cons (pv 0) pa_nil)))
    (pss_cons (ps_while PassesOwn.never (pt_cmpR op_lt (pv 2) (pv 3) (nomark _))
    (pss_cons (ps_set (i := 4) sc_below.nd rfl (Or.inl rfl) (pe_op op_fdiv (pe_op op_add (pv 2) (pv 3)) pe_int))
    (pss_one (ps_if (pt_val (pe_call G_less (hr.mono (by decide)) rfl g_less k_less b_less .nil pass0 (pa_cons (pe_ix (kx_ixL (K := K) rfl) (pv 0) (pv 4) (fun _ _ => rfl)) (pa_cons (pv 1) pa_nil))))
    (pss_one (ps_set (i := 2) sc_below.nd rfl (Or.inl rfl) (pe_op op_add (pv 4) pe_int)))
    (pss_one (ps_set (i := 3) sc_below.nd rfl (Or.inl rfl) (pv 4)))))))
    (pss_one (ps_ret (pv 2)))))), ?_⟩)
  try dsimp only [cx_K, cx_nK]
  rintro _ M nx xe ⟨x, y, rfl, rows, key, hx, hy, hR, hl, k⟩
  refine s_seq (s_asgE (by walk_at "ev") ?_)
  refine s_seq (s_asgE (ev_len (ev_var rfl) hx.q) ?_)
  refine s_seq (s_while (W := fun m ρ' M' => M' = M ∧ ∃ (lo hi : Nat) (a : Option D), ρ' = [some x, some y, some (.int lo), some (.int hi), a] ∧ m = hi - lo ∧ lo ≤ hi ∧ hi ≤ rows.length ∧ (∀ (i : Nat) r, i < lo → rows[i]? = some r → lessM r key = true) ∧ ∀ (i : Nat) r, hi ≤ i → rows[i]? = some r → lessM r key = false)
    rows.length ⟨rfl, 0, rows.length, none, by rw [List.length_map]; rfl, by omega, by omega, Nat.le_refl _, fun i r h => absurd h (Nat.not_lt_zero i), fun i r h e => absurd (lt_of_get e) (by omega)⟩ ?_)
  rintro m ρ' M' ⟨rfl, lo, hi, a, rfl, rfl, h1, h2, h3, h4⟩
  refine (ET.w (b := decide ((lo : Int) < hi)) (by walk_at "ev") ⟨fun hb => ?_, fun hb => ?_⟩)
  · have hlt : lo < hi := by have := of_decide_eq_true hb; omega
    have hm : (lo + hi) / 2 < rows.length := by omega
    have em : ((lo : Int) + hi) / 2 = (((lo + hi) / 2 : Nat) : Int) := by omega
    have hr : rows[(lo + hi) / 2]? = some rows[(lo + hi) / 2] := List.getElem?_eq_getElem hm
    refine s_seq (s_asgE (d := .int (((lo + hi) / 2 : Nat) : Int)) (by rw [← em]; walk_at "ev") ?_)
    refine s_if (et_B (ev_less (xs := rows[(lo + hi) / 2]) (ev_ixL (ev_var rfl) (ev_var rfl) hx (atI_nat (by rw [List.getElem?_map, hr]; rfl))) (ev_var rfl) .l hy)) (fun hb2 => ?_) (fun hb2 => ?_)
    · refine s_asgE (d := .int (((lo + hi) / 2 + 1 : Nat) : Int)) (Ev.is (by walk_at "ev") (by simp)) ?_
      refine ⟨hi - ((lo + hi) / 2 + 1), by omega, rfl, (lo + hi) / 2 + 1, hi, _, rfl, rfl, by omega, h2, fun i r hi' e => ?_, h4⟩
      rcases Nat.lt_or_ge i ((lo + hi) / 2) with z | z
      · exact lessM_le_lt (rising_at hR z e hr) hb2
      · have : i = (lo + hi) / 2 := by omega
        subst this
        rw [hr] at e
        cases e
        exact hb2
    · refine s_asgE (by walk_at "ev") ?_
      refine ⟨(lo + hi) / 2 - lo, by omega, rfl, lo, (lo + hi) / 2, _, rfl, rfl, by omega, by omega, h3, fun i r hi' e => ?_⟩
      rcases Nat.lt_or_ge ((lo + hi) / 2) i with z | z
      · cases q : lessM r key with
        | false => rfl
        | true =>
          have := lessM_le_lt (rising_at hR z hr e) q
          rw [hb2] at this
          cases this
      · have : i = (lo + hi) / 2 := by omega
        subst this
        rw [hr] at e
        cases e
        exact hb2
  · have he : lo = hi := by have := of_decide_eq_false hb; omega
    subst he
    refine s_retE (ev_var rfl) ?_
    rw [cntB_of h2 h3 h4] at k
    exact k

def pr_is_whole (K : PySem.W.Frag) : Pr := q1 fun x M nx _ => tyN M x ≠ "" ∧ nx (.bl (wholeD x)) M
section
variable {J : Jx} {ta tb : TE} {ρ : Ro} {M : Mp} {E : XK} {x y : D}
theorem ev_is_whole (ha : Ev J ta ρ M x) (h : tyN M x ≠ "") : Ev J (tCall (spD J.K (pr_is_whole J.K)) [] E (tCons ta tNil)) ρ M (.bl (wholeD x)) :=
  w_call ((ea_cons ha ea_nil).w ⟨_, rfl, h, rfl, rfl⟩)
theorem ev_is_wholeI {i : Int} (ha : Ev J ta ρ M (.int i)) : Ev J (tCall (spD J.K (pr_is_whole J.K)) [] E (tCons ta tNil)) ρ M (.bl true) := ev_is_whole ha (show "int" ≠ "" by decide)
end
abbrev nm_is_whole : List Str := ["thing"]
theorem sc_is_whole : FnScope nm_is_whole ["thing"] (defScope s_is_whole) := ⟨rfl, rfl, rfl, by decide +kernel, rfl, by decide +kernel, by decide +kernel⟩
theorem ok_is_whole (hTx : Tx K mg) : OkF P w K mg base CX0 1 "is_whole" (He.ga K "is_whole") ["thing"] (pr_is_whole K) := by
  obtain ⟨_, F⟩ := hTx.fnF 2 s_is_whole "is_whole" 75
  refine ⟨_, ?_, F.binds (ps := ["thing"]) fun _ _ _ _ _ _ us hl => match us, hl with | [_], _ => rfl, F.kp, hTx.gl 46⟩
  refine fn_dl F sc_is_whole (fun _ _ _ _ h => q1_len h) (fun cdv A outer s H E hr => ⟨_, (pss_one (ps_ret (pe_and (pe_callB (kx_isi (K := K) rfl) (by rfl) (hTx.fr 3) (by decide +kernel) (pa_cons (pv 0) (pa_cons (pe_bltn (v := .ty "int") (by rfl) (hTx.fr 2) (by decide +kernel) rfl) pa_nil))) (pe_one (pe_not (pe_callB (kx_isi (K := K) rfl) (by rfl) (hTx.fr 3) (by decide +kernel) (pa_cons (pv 0) (pa_cons (pe_bltn (v := .ty "bool") (by rfl) (hTx.fr 4) (by decide +kernel) rfl) pa_nil)))))))), ?_⟩)
  try dsimp only [cx_K, cx_nK]
  rintro _ M nx xe ⟨x, rfl, h, k⟩
  obtain ⟨a, b, h1, h2, h3⟩ := whole_kit M x h
  rw [h3] at k
  exact s_retE (ev_andV (ev_isi (ev_var rfl) ev_ty h1 h) fun _ => ev_notV (ev_isi (ev_var rfl) ev_ty h2 h)) k

theorem look_ne {α : Type} {f g : Str} {x : α} {r : List (Str × α)} (h : (f == g) = false) : List.lookup f ((g, x) :: r) = List.lookup f r := by rw [List.lookup_cons, h]
theorem look_eq {α : Type} {f : Str} {x : α} {r : List (Str × α)} : List.lookup f ((f, x) :: r) = some x := by
  rw [List.lookup_cons, show (f == f) = true from beq_iff_eq.mpr rfl]
/-- an order's fields -/
def kf (cols : List Int) (l : Addr) : List (Str × D) := [("columns", .tup (cols.map .int)), ("entries", .ref l)]
theorem kf_cols (cols : List Int) (l : Addr) : List.lookup ("columns" : Str) (kf cols l) = some (.tup (cols.map .int)) := look_eq
theorem kf_ents (cols : List Int) (l : Addr) : List.lookup ("entries" : Str) (kf cols l) = some (.ref l) := by
  unfold kf
  rw [look_ne (by decide +kernel)]
  exact look_eq
theorem kf_no (cols : List Int) (l : Addr) {m : Str} (h1 : (m == ("columns" : Str)) = false) (h2 : (m == ("entries" : Str)) = false) : (kf cols l).lookup m = none := by
  unfold kf
  rw [look_ne h1, look_ne h2]
  rfl
/-- an order that is kept stands at p, its entries at l -/
structure KeptAt (K : PySem.W.Frag) (M : Mp) (p l : Addr) (cols : List Int) (es : List (List Int)) : Prop where
  ob : M p = some (.ins (He.ga K "Kept") (kf cols l))
  en : M l = some (.lst (es.map dI))
theorem KeptAt.sub {K : PySem.W.Frag} {M M' : Mp} {p l : Addr} {cols : List Int} {es : List (List Int)} (h : KeptAt K M p l cols es) (s : Sub M M') : KeptAt K M' p l cols es := ⟨s _ _ h.ob, s _ _ h.en⟩
theorem KeptAt.ne {K : PySem.W.Frag} {M : Mp} {p l : Addr} {cols : List Int} {es : List (List Int)} (h : KeptAt K M p l cols es) : p ≠ l := ne_mo h.ob h.en (by intro z; cases z)
def pr_Kept_init (K : PySem.W.Frag) : Pr := q2 fun s c M nx _ => ∃ (p : Addr) (cols : List Int), s = .ref p ∧ c = .tup (cols.map .int) ∧ M p = some (.ins (He.ga K "Kept") []) ∧ ∀ l, M l = none → nx .non (ud (ud M l (.lst [])) p (.ins (He.ga K "Kept") (kf cols l)))
abbrev nm_Kept_init : List Str := ["self", "columns"]
theorem sc_Kept_init : FnScope nm_Kept_init ["self", "columns"] (defScope s_Kept_init) := ⟨rfl, rfl, rfl, by decide +kernel, rfl, by decide +kernel, by decide +kernel⟩
theorem ok_Kept_init (hTx : Tx K mg) : OkM P w K mg base CX0 1  (He.ma K (He.ga K "Kept") "__init__") ["self", "columns"] (pr_Kept_init K) := by
  obtain ⟨_, F⟩ := hTx.fnM 3 s_Kept_init "Kept" "__init__" "Kept.__init__" 49
  refine ⟨_, ?_, F.binds (ps := ["self", "columns"]) fun _ _ _ _ _ _ us hl => match us, hl with | [_, _], _ => rfl⟩
  refine fn_dl F sc_Kept_init (fun _ _ _ _ h => q2_len h) (fun cdv A outer s H E hr => ⟨_, (pss_cons (kx_sfld (K := K) rfl (pv 0) (pv 1) rfl)
    (pss_one (kx_sfld (K := K) rfl (pv 0) (pe_lst pa_nil) rfl))), ?_⟩)
  try dsimp only [cx_K, cx_nK]
  rintro _ M nx xe ⟨s, c, rfl, p, cols, rfl, rfl, hp, k⟩
  refine s_seq (s_fld (ev_var rfl) (ev_var rfl) hp (hTx.cl 5) (hTx.na 47) (by show 0 < 1000; decide) ?_)
  refine s_fldW (a := p) ((en_lst (ds := []) ea_nil (Nat.zero_le _)).w fun l hl => ?_) (hTx.cl 5) (hTx.na 48)
  have hpl : p ≠ l := fun z => by rw [← z, ud_same] at hl; cases hl
  have hl0 : M l = none := by rw [ud_ne hpl.symm] at hl; exact hl
  refine ⟨ev_var rfl, _, by rw [ud_ne hpl]; exact ud_same, by show 1 < 1000; decide, ?_⟩
  have e1 : putD "entries" (.ref l) (putD "columns" (.tup (cols.map .int)) []) = kf cols l := by
    show (if (("columns" : Str) = "entries") then _ else _) = _
    rw [if_neg (by decide +kernel)]
    rfl
  have e2 : ud (ud (ud M p (.ins (He.ga K "Kept") (putD "columns" (.tup (cols.map .int)) []))) l (.lst [])) p (.ins (He.ga K "Kept") (putD "entries" (.ref l) (putD "columns" (.tup (cols.map .int)) []))) = ud (ud M l (.lst [])) p (.ins (He.ga K "Kept") (kf cols l)) := by
    rw [e1, ud_comm hpl, ud_ud]
  show nx .non (ud (ud (ud M p (.ins (He.ga K "Kept") (putD "columns" (.tup (cols.map .int)) []))) l (.lst [])) p (.ins (He.ga K "Kept") (putD "entries" (.ref l) (putD "columns" (.tup (cols.map .int)) []))))
  rw [e2]
  exact k l hl0

/-- what is kept of a row -/
def entryM (cols : List Int) (num : Int) (row : List Int) : List Int := cols.map (fun c => row.getD c.toNat 0) ++ [num]
def ColsIn (cols : List Int) (n : Nat) : Prop := ∀ c ∈ cols, 0 ≤ c ∧ c < (n : Int)
def pr_Kept_entry (K : PySem.W.Frag) : Pr := q3 fun s n r M nx _ => ∃ (p l : Addr) (cols row : List Int) (num : Int), s = .ref p ∧ n = .int num ∧ M p = some (.ins (He.ga K "Kept") (kf cols l)) ∧ IsQ M r (row.map .int) ∧ ColsIn cols row.length ∧ cols.length ≤ 1000 ∧ ∀ q, M q = none → nx (.ref q) (ud M q (.lst ((entryM cols num row).map .int)))
section
variable {J : Jx} {ta tb tc to : TE} {ρ : Ro} {M : Mp} {E : XK} {x y z : D}
theorem en_Kept_entry {p l : Addr} {cols row : List Int} {num : Int} (ho : Ev J to ρ M (.ref p)) (hm : M p = some (.ins (He.ga J.K "Kept") (kf cols l))) (hb : Ev J tb ρ M (.int num)) (hc : Ev J tc ρ M z) (hz : IsQ M z (row.map .int)) (hin : ColsIn cols row.length) (hl : cols.length ≤ 1000) :
    EvN J (tMeth (He.ga J.K "Kept") "entry" (spD J.K (pr_Kept_entry J.K)) [] E to (tCons tb (tCons tc tNil))) ρ M ((entryM cols num row).map .int) :=
  w_meth0 ho hm (kf_no _ _ (by decide +kernel) (by decide +kernel)) (ea_cons hb (ea_cons hc ea_nil)) ⟨_, _, _, rfl, p, l, cols, row, num, rfl, rfl, hm, hz, hin, hl, fun q hq => ⟨q, hq, rfl, rfl⟩⟩
end
abbrev nm_Kept_entry : List Str := ["self", "number", "row", "column"]
theorem sc_Kept_entry : FnScope nm_Kept_entry ["self", "number", "row"] (defScope s_Kept_entry) := ⟨rfl, rfl, rfl, by decide +kernel, rfl, by decide +kernel, by decide +kernel⟩
theorem ok_Kept_entry (hTx : Tx K mg) : OkM P w K mg base CX0 1  (He.ma K (He.ga K "Kept") "entry") ["self", "number", "row"] (pr_Kept_entry K) := by
  obtain ⟨_, F⟩ := hTx.fnM 4 s_Kept_entry "Kept" "entry" "Kept.entry" 6
  refine ⟨_, ?_, F.binds (ps := ["self", "number", "row"]) fun _ _ _ _ _ _ us hl => match us, hl with | [_, _, _], _ => rfl⟩
  refine fn_dl F sc_Kept_entry (fun _ _ _ _ h => q3_len h) (fun cdv A outer s H E hr => ⟨_, (pss_one (ps_ret (pe_op op_cat (pe_lc (own := [("column", 3)]) (g := gName 3) rfl sc_Kept_entry.nd (kx_ptup (K := K) rfl (kx_fld (K := K) rfl (pv 0) rfl)) (blkOk_by (N := nm_Kept_entry) (sc := defScope s_Kept_entry) (own := [("column", 3)]) (by decide +kernel)) (fun _ _ _ _ _ => pg_name (i := 3) sc_Kept_entry.nd rfl (Or.inl rfl)) (fun _ _ _ _ _ => pts_nil) (fun _ _ _ _ _ => (pe_ix (kx_ixQ (K := K) rfl) (pv 2) (pv 3) (fun _ _ => rfl)))) (pe_lst (pa_cons (pv 1) pa_nil))))), ?_⟩)
  try dsimp only [cx_K, cx_nK]
  rintro _ M nx xe ⟨s, n, r, rfl, p, l, cols, row, num, rfl, rfl, hp, hr, hin, hl, k⟩
  refine s_ret (EvN.w (EvN.is (en_cat (ds := (cols.map fun c => row.getD c.toNat 0).map D.int) (es := [.int num]) (Ev.is (EvN.ev (en_lc1 cols D.int (fun c => D.int (row.getD c.toNat 0)) (src_t (ev_fld (ev_var rfl) hp (hTx.cl 5) (hTx.na 47) (kf_cols _ _))) (fun _ _ => trivial) (szl (by omega)) fun M1 c sb hc => ?_)) (by rw [List.map_map] <;> rfl)) (en_lst (by walk_at "ev") (sz (by simp))).ev .l .l (sz (by simp; omega))) (es := (entryM cols num row).map .int) (by unfold entryM; rw [List.map_append]; rfl)) k)
  obtain ⟨c0, c1⟩ := hin c hc
  exact ev_ixQ (ev_var rfl) (ev_var rfl) (hr.sub sb) (atI_int c0 c1)

def insE (es : List (List Int)) (e : List Int) : List (List Int) := es.take (cntB es e) ++ [e] ++ es.drop (cntB es e)
/-- the count cuts a rising list -/
theorem cut_lt {e : List Int} : ∀ {es : List (List Int)}, Rising es → (∀ x ∈ es.take (cntB es e), lessM x e = true) ∧ (∀ x ∈ es.drop (cntB es e), lessM x e = false)
  | [], _ => ⟨fun x h => by simp at h, fun x h => by simp at h⟩
  | a :: es, h => by
    have hc := List.pairwise_cons.mp h
    obtain ⟨i1, i2⟩ := cut_lt (e := e) (es := es) hc.2
    cases q : lessM a e with
    | true =>
      have ec : cntB (a :: es) e = cntB es e + 1 := List.countP_cons_of_pos (p := fun r => lessM r e) q
      rw [ec]
      refine ⟨fun x hx => ?_, fun x hx => i2 x (by simpa using hx)⟩
      rw [List.take_succ_cons] at hx
      rcases List.mem_cons.mp hx with rfl | hx
      · exact q
      · exact i1 x hx
    | false =>
      have hall : ∀ x ∈ es, lessM x e = false := fun x hx => by
        cases q2 : lessM x e with
        | false => rfl
        | true =>
          have := lessM_le_lt (hc.1 x hx) q2
          rw [q] at this
          cases this
      have ec : cntB (a :: es) e = 0 := List.countP_eq_zero.mpr fun x hx => by
        rcases List.mem_cons.mp hx with rfl | hx
        · rw [q]; exact Bool.false_ne_true
        · rw [hall x hx]; exact Bool.false_ne_true
      rw [ec]
      refine ⟨fun x hx => by simp at hx, fun x hx => ?_⟩
      rcases List.mem_cons.mp (by simpa using hx) with rfl | hx
      · exact q
      · exact hall x hx
/-- entries of the rows there, each ahead of the next -/
structure KOrd (cols : List Int) (th : Th) (es : List (List Int)) : Prop where
  perm : es.Perm (th.map fun p => entryM cols p.1 p.2)
  ord : es.Pairwise fun a b => lessM a b = true
theorem lessM_asym {a b : List Int} (h : lessM a b = true) : lessM b a = false := by
  cases q : lessM b a with
  | false => rfl
  | true =>
    have := lessM_trans h q
    rw [lessM_irr] at this
    cases this
theorem KOrd.rising {cols : List Int} {th : Th} {es : List (List Int)} (h : KOrd cols th es) : Rising es := h.ord.imp lessM_asym
theorem KOrd.len {cols : List Int} {th : Th} {es : List (List Int)} (h : KOrd cols th es) : es.length = th.length := by rw [h.perm.length_eq, List.length_map]
theorem entryM_last (cols : List Int) (n : Int) (r : List Int) : (entryM cols n r).getLastD 0 = n := by
  unfold entryM
  rw [List.getLastD_eq_getLast?, List.getLast?_append]
  rfl
theorem insE_perm (es : List (List Int)) (e : List Int) : (insE es e).Perm (e :: es) := by
  unfold insE
  have h : (es.take (cntB es e) ++ [e] ++ es.drop (cntB es e)).Perm (e :: (es.take (cntB es e) ++ es.drop (cntB es e))) := by
    rw [List.append_assoc]
    exact List.perm_middle
  rw [List.take_append_drop] at h
  exact h
theorem insE_ord {es : List (List Int)} {e : List Int} (h : es.Pairwise fun a b => lessM a b = true) (hn : e ∉ es) : (insE es e).Pairwise fun a b => lessM a b = true := by
  obtain ⟨h1, h2⟩ := cut_lt (e := e) (h.imp lessM_asym)
  have h3 : (es.take (cntB es e) ++ es.drop (cntB es e)).Pairwise fun a b => lessM a b = true := by rw [List.take_append_drop]; exact h
  obtain ⟨p1, p2, p3⟩ := List.pairwise_append.mp h3
  unfold insE
  rw [List.append_assoc]
  refine List.pairwise_append.mpr ⟨p1, List.pairwise_cons.mpr ⟨fun y hy => ?_, p2⟩, fun x hx y hy => ?_⟩
  · have q1 := h2 y hy
    cases q2 : lessM e y with
    | true => rfl
    | false => exact absurd (List.mem_of_mem_drop (by rw [lessM_tri q2 q1]; exact hy)) hn
  · rcases List.mem_cons.mp hy with rfl | hy
    · exact h1 x hx
    · exact p3 x hx y hy
theorem KOrd.put {cols : List Int} {th : Th} {es : List (List Int)} (h : KOrd cols th es) (n : Int) (r : List Int) (hn : n ∉ th.map (·.1)) : KOrd cols (th ++ [(n, r)]) (insE es (entryM cols n r)) := by
  have hni : entryM cols n r ∉ es := fun z => by
    obtain ⟨p, hp, e⟩ := List.mem_map.mp (h.perm.mem_iff.mp z)
    have e2 := congrArg (·.getLastD 0) e
    rw [entryM_last, entryM_last] at e2
    exact hn (by rw [← e2]; exact List.mem_map_of_mem (f := (·.1)) hp)
  refine ⟨(insE_perm _ _).trans ?_, insE_ord h.ord hni⟩
  rw [List.map_append]
  refine (h.perm.cons _).trans ?_
  exact (List.perm_append_singleton _ _).symm
def pr_Kept_put (K : PySem.W.Frag) : Pr := q3 fun s n r M nx _ => ∃ (p l : Addr) (cols row : List Int) (es : List (List Int)) (num : Int), s = .ref p ∧ n = .int num ∧ KeptAt K M p l cols es ∧ IsQ M r (row.map .int) ∧ ColsIn cols row.length ∧ cols.length ≤ 1000 ∧ Rising es ∧ es.length ≤ 1000 ∧ nx .non (ud M l (.lst ((insE es (entryM cols num row)).map dI)))
section
variable {J : Jx} {ta tb tc to : TE} {ρ : Ro} {M : Mp} {E : XK} {x y z : D} {R : D → Mp → Prop}
theorem w_Kept_put {p l : Addr} {cols row : List Int} {es : List (List Int)} {num : Int} (ho : Ev J to ρ M (.ref p)) (hk : KeptAt J.K M p l cols es) (hb : Ev J tb ρ M (.int num)) (hc : Ev J tc ρ M z) (hz : IsQ M z (row.map .int)) (hin : ColsIn cols row.length) (hl : cols.length ≤ 1000) (hr : Rising es) (hel : es.length ≤ 1000) (k : R .non (ud M l (.lst ((insE es (entryM cols num row)).map dI)))) :
    W J (tMeth (He.ga J.K "Kept") "put" (spD J.K (pr_Kept_put J.K)) [] E to (tCons tb (tCons tc tNil))) ρ M R :=
  w_meth0 ho hk.ob (kf_no _ _ (by decide +kernel) (by decide +kernel)) (ea_cons hb (ea_cons hc ea_nil)) ⟨_, _, _, rfl, p, l, cols, row, es, num, rfl, rfl, hk, hz, hin, hl, hr, hel, k⟩
end
abbrev nm_Kept_put : List Str := ["self", "number", "row", "entry"]
theorem sc_Kept_put : FnScope nm_Kept_put ["self", "number", "row"] (defScope s_Kept_put) := ⟨rfl, rfl, rfl, by decide +kernel, rfl, by decide +kernel, by decide +kernel⟩
theorem ok_Kept_put (hTx : Tx K mg) : OkM P w K mg base CX0 3  (He.ma K (He.ga K "Kept") "put") ["self", "number", "row"] (pr_Kept_put K) := by
  obtain ⟨_, G_Kept_entry, b_Kept_entry⟩ := ok_Kept_entry (P := P) (w := w) (base := base) hTx
  obtain ⟨_, G_below, b_below, k_below, g_below⟩ := ok_below (P := P) (w := w) (base := base) hTx
  obtain ⟨_, F⟩ := hTx.fnM 5 s_Kept_put "Kept" "put" "Kept.put" 19
  refine ⟨_, ?_, F.binds (ps := ["self", "number", "row"]) fun _ _ _ _ _ _ us hl => match us, hl with | [_, _, _], _ => rfl⟩
  refine fn_dl F sc_Kept_put (fun _ _ _ _ h => q3_len h) (fun cdv A outer s H E hr => ⟨_, (pss_cons (ps_set (i := 3) sc_Kept_put.nd rfl (Or.inl rfl) (pe_meth (pv 0) (hTx.cl 5) (hTx.me 6) G_Kept_entry (hr.mono (by decide)) b_Kept_entry .nil pass0 (pa_cons (pv 1) (pa_cons (pv 2) pa_nil))))
    (pss_one (ps_expr (pe_bm PySem.F.plainAttrs_list PySem.F.slot_list_insert PySem.F.type_list_insert mt_insert (kx_fld (K := K) rfl (pv 0) rfl) (pa_cons (pe_call G_below (hr.mono (by decide)) rfl g_below k_below b_below .nil pass0 (pa_cons (kx_fld (K := K) rfl (pv 0) rfl) (pa_cons (pv 3) pa_nil))) (pa_cons (pv 3) pa_nil)))))), ?_⟩)
  try dsimp only [cx_K, cx_nK]
  rintro _ M nx xe ⟨s, n, r, rfl, p, l, cols, row, es, num, rfl, rfl, hk, hr, hin, hl, hR, hel, k⟩
  refine s_seq (s_asgE (en_Kept_entry (ev_var rfl) hk.ob (ev_var rfl) (ev_var rfl) hr hin hl).ev ?_)
  have he : ∀ ρ' : Ro, ρ'[0]? = some (some (.ref p)) → Ev (J0 K) (tFld K (tVar 0) "entries") ρ' M (.ref l) := fun ρ' h => ev_fld (ev_var h) hk.ob (hTx.cl 5) (hTx.na 48) (kf_ents _ _)
  have hcl : cntB es (entryM cols num row) ≤ es.length := List.countP_le_length
  refine s_drop (w_insert (ds := es.map dI) (he _ rfl) hk.en (ev_below (rows := es) (key := entryM cols num row) (he _ rfl) (ev_var rfl) (.r hk.en) .l hR (by omega)) (ev_var rfl) (szl (by rw [List.length_map]; omega)) (by omega) (by omega) ?_)
  have e : (es.map dI).take ((cntB es (entryM cols num row) : Nat) : Int).toNat ++ [dI (entryM cols num row)] ++ (es.map dI).drop ((cntB es (entryM cols num row) : Nat) : Int).toNat = (insE es (entryM cols num row)).map dI := by
    unfold insE
    rw [Int.toNat_natCast, List.map_append, List.map_append, List.map_take, List.map_drop]
    rfl
  show nx .non (ud M l (.lst ((es.map dI).take ((cntB es (entryM cols num row) : Nat) : Int).toNat ++ [dI (entryM cols num row)] ++ (es.map dI).drop ((cntB es (entryM cols num row) : Nat) : Int).toNat)))
  rw [e]
  exact k
theorem seqIndex_nat {n j : Nat} (h : j < n) : seqIndex? (j : Int) n = some j := by
  obtain ⟨h1, _⟩ := ixN_seq (n := n) (i := (j : Int)) (j := j) (by unfold ixN; rw [if_pos (by omega), if_pos (by omega)]; simp)
  exact h1
theorem erase_map {α β : Type} (f : α → β) : ∀ (l : List α) (i : Nat), (l.map f).eraseIdx i = (l.eraseIdx i).map f
  | [], i => by simp
  | a :: l, 0 => by simp
  | a :: l, i + 1 => by simp [erase_map f l i]

def remE (es : List (List Int)) (e : List Int) : List (List Int) := es.eraseIdx (cntB es e)
theorem cut_at {es : List (List Int)} {e : List Int} (h : es.Pairwise fun a b => lessM a b = true) (hm : e ∈ es) : ∃ rest, es = es.take (cntB es e) ++ e :: rest ∧ remE es e = es.take (cntB es e) ++ rest ∧ cntB es e < es.length := by
  obtain ⟨h1, h2⟩ := cut_lt (e := e) (h.imp lessM_asym)
  have h3 : (es.take (cntB es e) ++ es.drop (cntB es e)).Pairwise fun a b => lessM a b = true := by rw [List.take_append_drop]; exact h
  obtain ⟨p1, p2, p3⟩ := List.pairwise_append.mp h3
  have hm2 : e ∈ es.take (cntB es e) ++ es.drop (cntB es e) := by rw [List.take_append_drop]; exact hm
  have hd : e ∈ es.drop (cntB es e) := by
    rcases List.mem_append.mp hm2 with z | z
    · have := h1 e z
      rw [lessM_irr] at this
      cases this
    · exact z
  cases q : es.drop (cntB es e) with
  | nil => rw [q] at hd; cases hd
  | cons y rest =>
    have ey : y = e := by
      rw [q] at hd p2 h2
      rcases List.mem_cons.mp hd with rfl | z
      · rfl
      · have q1 := (List.pairwise_cons.mp p2).1 e z
        have q2 := h2 y List.mem_cons_self
        rw [q1] at q2
        cases q2
    subst ey
    have hes : es = es.take (cntB es y) ++ y :: rest := by rw [← q, List.take_append_drop]
    have hl : cntB es y < es.length := by
      have := congrArg List.length q
      rw [List.length_drop, List.length_cons] at this
      omega
    refine ⟨rest, hes, ?_, hl⟩
    unfold remE
    have q2 : es.drop (cntB es y + 1) = rest := by rw [← List.drop_drop, q]; rfl
    rw [List.eraseIdx_eq_take_drop_succ, q2]
theorem KOrd.drop {cols : List Int} {th : Th} {es : List (List Int)} (h : KOrd cols th es) {n : Int} {r : List Int} (hd : (th.map (·.1)).Nodup) (hm : (n, r) ∈ th) : cntB es (entryM cols n r) < es.length ∧ KOrd cols (thDrop th n) (remE es (entryM cols n r)) := by
  have hme : entryM cols n r ∈ es := h.perm.mem_iff.mpr (List.mem_map.mpr ⟨(n, r), hm, rfl⟩)
  obtain ⟨rest, e1, e2, e3⟩ := cut_at h.ord hme
  refine ⟨e3, ?_, ?_⟩
  · have p1 : es.Perm (entryM cols n r :: remE es (entryM cols n r)) := by
      rw [e2]
      conv => lhs; rw [e1]
      exact List.perm_middle
    have p2 := (thDrop_perm hd hm).map fun p => entryM cols p.1 p.2
    rw [List.map_cons] at p2
    exact List.Perm.cons_inv (p1.symm.trans (h.perm.trans p2))
  · have h3 := h.ord
    rw [e1] at h3
    rw [e2]
    obtain ⟨p1, p2, p3⟩ := List.pairwise_append.mp h3
    exact List.pairwise_append.mpr ⟨p1, (List.pairwise_cons.mp p2).2, fun x hx y hy => p3 x hx y (List.mem_cons_of_mem _ hy)⟩
def pr_Kept_drop (K : PySem.W.Frag) : Pr := q3 fun s n r M nx _ => ∃ (p l : Addr) (cols row : List Int) (es : List (List Int)) (num : Int), s = .ref p ∧ n = .int num ∧ KeptAt K M p l cols es ∧ IsQ M r (row.map .int) ∧ ColsIn cols row.length ∧ cols.length ≤ 1000 ∧ Rising es ∧ es.length ≤ 1000 ∧ cntB es (entryM cols num row) < es.length ∧ nx .non (ud M l (.lst ((remE es (entryM cols num row)).map dI)))
section
variable {J : Jx} {ta tb tc to : TE} {ρ : Ro} {M : Mp} {E : XK} {x y z : D} {R : D → Mp → Prop}
theorem w_Kept_drop {p l : Addr} {cols row : List Int} {es : List (List Int)} {num : Int} (ho : Ev J to ρ M (.ref p)) (hk : KeptAt J.K M p l cols es) (hb : Ev J tb ρ M (.int num)) (hc : Ev J tc ρ M z) (hz : IsQ M z (row.map .int)) (hin : ColsIn cols row.length) (hl : cols.length ≤ 1000) (hr : Rising es) (hel : es.length ≤ 1000) (hlt : cntB es (entryM cols num row) < es.length) (k : R .non (ud M l (.lst ((remE es (entryM cols num row)).map dI)))) :
    W J (tMeth (He.ga J.K "Kept") "drop" (spD J.K (pr_Kept_drop J.K)) [] E to (tCons tb (tCons tc tNil))) ρ M R :=
  w_meth0 ho hk.ob (kf_no _ _ (by decide +kernel) (by decide +kernel)) (ea_cons hb (ea_cons hc ea_nil)) ⟨_, _, _, rfl, p, l, cols, row, es, num, rfl, rfl, hk, hz, hin, hl, hr, hel, hlt, k⟩
end
abbrev nm_Kept_drop : List Str := ["self", "number", "row"]
theorem sc_Kept_drop : FnScope nm_Kept_drop ["self", "number", "row"] (defScope s_Kept_drop) := ⟨rfl, rfl, rfl, by decide +kernel, rfl, by decide +kernel, by decide +kernel⟩
theorem ok_Kept_drop (hTx : Tx K mg) : OkM P w K mg base CX0 3  (He.ma K (He.ga K "Kept") "drop") ["self", "number", "row"] (pr_Kept_drop K) := by
  obtain ⟨_, G_Kept_entry, b_Kept_entry⟩ := ok_Kept_entry (P := P) (w := w) (base := base) hTx
  obtain ⟨_, G_below, b_below, k_below, g_below⟩ := ok_below (P := P) (w := w) (base := base) hTx
  obtain ⟨_, F⟩ := hTx.fnM 6 s_Kept_drop "Kept" "drop" "Kept.drop" 22
  refine ⟨_, ?_, F.binds (ps := ["self", "number", "row"]) fun _ _ _ _ _ _ us hl => match us, hl with | [_, _, _], _ => rfl⟩
  refine fn_dl F sc_Kept_drop (fun _ _ _ _ h => q3_len h) (fun cdv A outer s H E hr => ⟨_, (pss_one (ps_expr (pe_bm PySem.F.plainAttrs_list PySem.F.slot_list_pop PySem.F.type_list_pop mt_popAt (kx_fld (K := K) rfl (pv 0) rfl) (pa_cons (pe_call G_below (hr.mono (by decide)) rfl g_below k_below b_below .nil pass0 (pa_cons (kx_fld (K := K) rfl (pv 0) rfl) (pa_cons (pe_meth (pv 0) (hTx.cl 5) (hTx.me 6) G_Kept_entry (hr.mono (by decide)) b_Kept_entry .nil pass0 (pa_cons (pv 1) (pa_cons (pv 2) pa_nil))) pa_nil))) pa_nil)))), ?_⟩)
  try dsimp only [cx_K, cx_nK]
  rintro _ M nx xe ⟨s, n, r, rfl, p, l, cols, row, es, num, rfl, rfl, hk, hr, hin, hl, hR, hel, hlt, k⟩
  have he : ∀ ρ' : Ro, ρ'[0]? = some (some (.ref p)) → Ev (J0 K) (tFld K (tVar 0) "entries") ρ' M (.ref l) := fun ρ' h => ev_fld (ev_var h) hk.ob (hTx.cl 5) (hTx.na 48) (kf_ents _ _)
  have hlt' : cntB es (entryM cols num row) < (es.map dI).length := by rw [List.length_map]; exact hlt
  refine s_drop (w_popAt (ds := es.map dI) (k := cntB es (entryM cols num row)) (he _ rfl) hk.en (ev_below (rows := es) (key := entryM cols num row) (he _ rfl) (en_Kept_entry (ev_var rfl) hk.ob (ev_var rfl) (ev_var rfl) hr hin hl).ev (.r hk.en) .l hR (by omega)) (by omega) (by omega) (seqIndex_nat hlt') (List.getElem?_eq_getElem hlt') ?_)
  have e : (es.map dI).eraseIdx (cntB es (entryM cols num row)) = (remE es (entryM cols num row)).map dI := by
    unfold remE
    rw [erase_map]
  show nx .non (ud M l (.lst ((es.map dI).eraseIdx (cntB es (entryM cols num row)))))
  rw [e]
  exact k

def numsM (es : List (List Int)) : List Int := es.map fun e => e.getLastD 0
def pr_Kept_numbers (K : PySem.W.Frag) : Pr := q1 fun s M nx _ => ∃ (p l : Addr) (cols : List Int) (es : List (List Int)), s = .ref p ∧ KeptAt K M p l cols es ∧ (∀ e ∈ es, e ≠ []) ∧ es.length ≤ 1000 ∧ ∀ q, M q = none → nx (.ref q) (ud M q (.lst ((numsM es).map .int)))
theorem atI_lastI {e : List Int} (h : e ≠ []) : atI (e.map D.int) (-1) = some (.int (e.getLastD 0)) := by
  have h2 := List.dropLast_concat_getLast h
  have h3 : e.getLastD 0 = e.getLast h := by
    rw [List.getLastD_eq_getLast?, List.getLast?_eq_some_getLast h]
    rfl
  rw [h3]
  have e1 : e.map D.int = (e.dropLast).map D.int ++ [D.int (e.getLast h)] := by
    conv => lhs; rw [← h2]
    rw [List.map_append]
    rfl
  rw [e1]
  exact atI_last _ _
section
variable {J : Jx} {ta tb tc to : TE} {ρ : Ro} {M : Mp} {E : XK} {x y z : D}
theorem en_Kept_numbers {p l : Addr} {cols : List Int} {es : List (List Int)} (ho : Ev J to ρ M (.ref p)) (hk : KeptAt J.K M p l cols es) (hne : ∀ e ∈ es, e ≠ []) (hel : es.length ≤ 1000) :
    EvN J (tMeth (He.ga J.K "Kept") "numbers" (spD J.K (pr_Kept_numbers J.K)) [] E to tNil) ρ M ((numsM es).map .int) :=
  w_meth0 ho hk.ob (kf_no _ _ (by decide +kernel) (by decide +kernel)) ea_nil ⟨_, rfl, p, l, cols, es, rfl, hk, hne, hel, fun q hq => ⟨q, hq, rfl, rfl⟩⟩
end
abbrev nm_Kept_numbers : List Str := ["self", "entry"]
theorem sc_Kept_numbers : FnScope nm_Kept_numbers ["self"] (defScope s_Kept_numbers) := ⟨rfl, rfl, rfl, by decide +kernel, rfl, by decide +kernel, by decide +kernel⟩
theorem ok_Kept_numbers (hTx : Tx K mg) : OkM P w K mg base CX0 1  (He.ma K (He.ga K "Kept") "numbers") ["self"] (pr_Kept_numbers K) := by
  obtain ⟨_, F⟩ := hTx.fnM 7 s_Kept_numbers "Kept" "numbers" "Kept.numbers" 50
  refine ⟨_, ?_, F.binds (ps := ["self"]) fun _ _ _ _ _ _ us hl => match us, hl with | [_], _ => rfl⟩
  refine fn_dl F sc_Kept_numbers (fun _ _ _ _ h => q1_len h) (fun cdv A outer s H E hr => ⟨_, (pss_one (ps_ret (pe_lc (own := [("entry", 1)]) (g := gName 1) rfl sc_Kept_numbers.nd (kx_plist (K := K) rfl (kx_fld (K := K) rfl (pv 0) rfl)) (blkOk_by (N := nm_Kept_numbers) (sc := defScope s_Kept_numbers) (own := [("entry", 1)]) (by decide +kernel)) (fun _ _ _ _ _ => pg_name (i := 1) sc_Kept_numbers.nd rfl (Or.inl rfl)) (fun _ _ _ _ _ => pts_nil) (fun _ _ _ _ _ => (pe_ix (kx_ixL (K := K) rfl) (pv 1) (pe_un un_neg pe_int) (fun _ _ => rfl)))))), ?_⟩)
  try dsimp only [cx_K, cx_nK]
  rintro _ M nx xe ⟨s, rfl, p, l, cols, es, rfl, hk, hne, hel, k⟩
  refine s_ret (EvN.w (EvN.is (en_lc1 es dI (fun e => D.int (e.getLastD 0)) (src_L (ev_fld (ev_var rfl) hk.ob (hTx.cl 5) (hTx.na 48) (kf_ents _ _)) (.r hk.en)) (fun M' sb => .r (sb _ _ hk.en)) (szl (by omega)) fun M1 e sb he => ?_) (es := (numsM es).map .int) (by unfold numsM; rw [List.map_map] <;> rfl)) k)
  exact ev_ixL (ev_var rfl) (ev_U ev_int) .l (atI_lastI (hne e he))

/-- an order that is kept, by its addresses -/
structure Kr where
  p : Addr
  l : Addr
  cols : List Int
  es : List (List Int)
/-- a table, by its addresses -/
structure Tb where
  p : Addr
  hd : Addr
  kl : Addr
  w : Int
  made : Int
  th : Th
  ks : List Kr
def Tb.adr (T : Tb) : List Addr := T.p :: T.hd :: T.kl :: T.ks.map (·.l)
def tf (w : Int) (hd : Addr) (made : Int) (kl : Addr) : List (Str × D) := [("width", .int w), ("held", .ref hd), ("made", .int made), ("kept", .ref kl)]
section
variable {w made : Int} {hd kl : Addr}
theorem tf_width : List.lookup ("width" : Str) (tf w hd made kl) = some (.int w) := look_eq
theorem tf_held : List.lookup ("held" : Str) (tf w hd made kl) = some (.ref hd) := by
  unfold tf; rw [look_ne (by decide +kernel)]; exact look_eq
theorem tf_made : List.lookup ("made" : Str) (tf w hd made kl) = some (.int made) := by
  unfold tf; rw [look_ne (by decide +kernel), look_ne (by decide +kernel)]; exact look_eq
theorem tf_kept : List.lookup ("kept" : Str) (tf w hd made kl) = some (.ref kl) := by
  unfold tf; rw [look_ne (by decide +kernel), look_ne (by decide +kernel), look_ne (by decide +kernel)]; exact look_eq
theorem tf_no {m : Str} (h1 : (m == ("width" : Str)) = false) (h2 : (m == ("held" : Str)) = false) (h3 : (m == ("made" : Str)) = false) (h4 : (m == ("kept" : Str)) = false) : List.lookup m (tf w hd made kl) = none := by
  unfold tf; rw [look_ne h1, look_ne h2, look_ne h3, look_ne h4]; rfl
end
structure KsAt (K : PySem.W.Frag) (M : Mp) (kl : Addr) (ks : List Kr) : Prop where
  li : M kl = some (.lst (ks.map fun k => .ref k.p))
  ke : ∀ k ∈ ks, KeptAt K M k.p k.l k.cols k.es
  nd : (ks.map (·.l)).Nodup
  ni : kl ∉ ks.map (·.l)
structure TabAt (K : PySem.W.Frag) (M : Mp) (T : Tb) : Prop where
  ob : M T.p = some (.ins (He.ga K "Table") (tf T.w T.hd T.made T.kl))
  dc : M T.hd = some (.dct (thD T.th))
  ka : KsAt K M T.kl T.ks
def ColOk (cols : List Int) (w : Int) : Prop := (∀ c ∈ cols, 0 ≤ c ∧ c < w) ∧ cols.Nodup ∧ cols ≠ []
structure TabOk (T : Tb) : Prop where
  nd : (T.th.map (·.1)).Nodup
  rg : ∀ n ∈ T.th.map (·.1), 0 ≤ n ∧ n < T.made
  wi : WideIn T.th T.w.toNat
  w0 : 0 < T.w
  w1 : T.w ≤ 6
  m0 : 0 ≤ T.made
  hl : T.th.length ≤ 200
  kk : ∀ k ∈ T.ks, KOrd k.cols T.th k.es ∧ ColOk k.cols T.w
  kn : (T.ks.map (·.cols)).Nodup
  kl : T.ks.length ≤ 8
def Frame (M M' : Mp) (A : List Addr) : Prop := ∀ a o, a ∉ A → M a = some o → M' a = some o
theorem Frame.refl (M : Mp) (A : List Addr) : Frame M M A := fun _ _ _ e => e
theorem Frame.of_sub {M M' : Mp} {A : List Addr} (s : Sub M M') : Frame M M' A := fun a o _ e => s a o e
theorem Frame.trans {M M1 M2 : Mp} {A : List Addr} (a : Frame M M1 A) (b : Frame M1 M2 A) : Frame M M2 A := fun x o n e => b x o n (a x o n e)
theorem Frame.ud {M : Mp} {A : List Addr} {h : Addr} {o : MO} (hm : h ∈ A) : Frame M (ud M h o) A := fun a u n e => by
  rw [ud_ne (fun z : a = h => n (by rw [z]; exact hm))]; exact e
theorem Frame.udn {M M' : Mp} {A : List Addr} {h : Addr} {o : MO} (f : Frame M M' A) (hm : M h = none) : Frame M (DL.ud M' h o) A := fun a u n e => by
  rw [ud_ne (ne_old e hm)]; exact f a u n e
/-- a step of a table -/
structure TStep (K : PySem.W.Frag) (M M' : Mp) (T T' : Tb) (th : Th) (made : Int) (os : List (List Int)) : Prop where
  at' : TabAt K M' T'
  ok : TabOk T'
  w : T'.w = T.w
  th : T'.th = th
  made : T'.made = made
  os : T'.ks.map (·.cols) = os
  p : T'.p = T.p
  fr : Frame M M' T.adr
  gr : ∀ x ∈ T'.adr, x ∈ T.adr ∨ M x = none
theorem WideIn.cols {th : Th} {w : Int} {cols : List Int} (hw : WideIn th w.toNat) (h : ColOk cols w) : ∀ p ∈ th, ColsIn cols p.2.length := fun p hp c hc => by
  have h1 := h.1 c hc
  have h2 := hw p hp
  omega
theorem ColOk.len {cols : List Int} {w : Int} (h : ColOk cols w) (hw : w ≤ 6) : cols.length ≤ 6 := by
  have h2 := keys_len cols ((List.range 6).map fun (k : Nat) => (k : Int)) h.2.1 fun c hc => by
    have := h.1 c hc
    exact List.mem_map.mpr ⟨c.toNat, List.mem_range.mpr (by omega), by omega⟩
  simpa using h2
/-- one of the orders gets other entries -/
theorem KsAt.set {K : PySem.W.Frag} {M : Mp} {kl : Addr} {as bs : List Kr} {k : Kr} {es : List (List Int)} (h : KsAt K M kl (as ++ k :: bs)) : KsAt K (ud M k.l (.lst (es.map dI))) kl (as ++ { k with es := es } :: bs) := by
  have hk := h.ke k (by simp)
  have hnd := h.nd
  rw [List.map_append, List.map_cons] at hnd
  have hni := h.ni
  rw [List.map_append, List.map_cons] at hni
  have hkl : kl ≠ k.l := fun z => hni (by rw [z]; simp)
  obtain ⟨n1, n2, n3⟩ := List.nodup_append.mp hnd
  have n2 := List.nodup_cons.mp n2
  have other : ∀ q : Kr, q ∈ as ∨ q ∈ bs → KeptAt K (ud M k.l (.lst (es.map dI))) q.p q.l q.cols q.es := fun q hq => by
    have hq' := h.ke q (by rcases hq with hq | hq <;> simp [hq])
    have d1 : q.l ≠ k.l := by
      rcases hq with hq | hq
      · exact n3 _ (List.mem_map_of_mem (f := (·.l)) hq) _ List.mem_cons_self
      · intro z
        exact n2.1 (by rw [← z]; exact List.mem_map_of_mem (f := (·.l)) hq)
    have d2 : q.p ≠ k.l := ne_mo hq'.ob hk.en (by intro z; cases z)
    exact ⟨by rw [ud_ne d2]; exact hq'.ob, by rw [ud_ne d1]; exact hq'.en⟩
  refine ⟨?_, fun q hq => ?_, ?_, ?_⟩
  · rw [ud_ne hkl, h.li]
    simp
  · rcases List.mem_append.mp hq with hq | hq
    · exact other q (.inl hq)
    · rcases List.mem_cons.mp hq with rfl | hq
      · exact ⟨by rw [ud_ne hk.ne]; exact hk.ob, ud_same⟩
      · exact other q (.inr hq)
  · rw [List.map_append, List.map_cons]; exact hnd
  · rw [List.map_append, List.map_cons]; exact hni
theorem KsAt.mono {K : PySem.W.Frag} {M M' : Mp} {kl : Addr} {ks : List Kr} (h : KsAt K M kl ks) (f : ∀ a o, (a = kl ∨ (∃ k ∈ ks, a = k.p ∨ a = k.l)) → M a = some o → M' a = some o) : KsAt K M' kl ks :=
  ⟨f _ _ (.inl rfl) h.li, fun k hk => ⟨f _ _ (.inr ⟨k, hk, .inl rfl⟩) (h.ke k hk).ob, f _ _ (.inr ⟨k, hk, .inr rfl⟩) (h.ke k hk).en⟩, h.nd, h.ni⟩
theorem KsAt.sub {K : PySem.W.Frag} {M M' : Mp} {kl : Addr} {ks : List Kr} (h : KsAt K M kl ks) (s : Sub M M') : KsAt K M' kl ks := h.mono fun a o _ e => s a o e
theorem TabAt.sub {K : PySem.W.Frag} {M M' : Mp} {T : Tb} (h : TabAt K M T) (s : Sub M M') : TabAt K M' T := ⟨s _ _ h.ob, s _ _ h.dc, h.ka.sub s⟩
/-- a table under a change elsewhere -/
theorem TabAt.frame {K : PySem.W.Frag} {M M' : Mp} {T : Tb} {A : List Addr} (h : TabAt K M T) (f : Frame M M' A) (d : ∀ x ∈ T.adr, x ∉ A) (dk : ∀ x ∈ A, ∀ fs, M x ≠ some (.ins (He.ga K "Kept") fs)) : TabAt K M' T :=
  ⟨f _ _ (d _ (by simp [Tb.adr])) h.ob, f _ _ (d _ (by simp [Tb.adr])) h.dc, h.ka.mono fun a o ha e => by
    rcases ha with rfl | ⟨k, hk, rfl | rfl⟩
    · exact f _ _ (d _ (by simp [Tb.adr])) e
    · exact f _ _ (fun z => dk _ z _ (h.ka.ke k hk).ob) e
    · exact f _ _ (d _ (by simp only [Tb.adr, List.mem_cons]; exact .inr (.inr (.inr (List.mem_map_of_mem (f := (·.l)) hk))))) e⟩
def pr_Table_init (K : PySem.W.Frag) : Pr := q2 fun s c M nx _ => ∃ (p : Addr) (w : Int), s = .ref p ∧ c = .int w ∧ 0 < w ∧ w ≤ 6 ∧ M p = some (.ins (He.ga K "Table") []) ∧ ∀ M' hd kl, M hd = none → M kl = none → hd ≠ kl → hd ≠ p → kl ≠ p → (∀ a o, a ≠ p → M a = some o → M' a = some o) → TabAt K M' ⟨p, hd, kl, w, 0, [], []⟩ → nx .non M'
abbrev nm_Table_init : List Str := ["self", "width"]
theorem sc_Table_init : FnScope nm_Table_init ["self", "width"] (defScope s_Table_init) := ⟨rfl, rfl, rfl, by decide +kernel, rfl, by decide +kernel, by decide +kernel⟩
theorem ok_Table_init (hTx : Tx K mg) : OkM P w K mg base CX0 2  (He.ma K (He.ga K "Table") "__init__") ["self", "width"] (pr_Table_init K) := by
  obtain ⟨_, G_is_whole, b_is_whole, k_is_whole, g_is_whole⟩ := ok_is_whole (P := P) (w := w) (base := base) hTx
  obtain ⟨_, F⟩ := hTx.fnM 8 s_Table_init "Table" "__init__" "Table.__init__" 55
  refine ⟨_, ?_, F.binds (ps := ["self", "width"]) fun _ _ _ _ _ _ us hl => match us, hl with | [_, _], _ => rfl⟩
  refine fn_dl F sc_Table_init (fun _ _ _ _ h => q2_len h) (fun cdv A outer s H E hr => ⟨_, (pss_cons (ps_if (PW.pt (pw_or (pt_not (pt_val (pe_call G_is_whole (hr.mono (by decide)) rfl g_is_whole k_is_whole b_is_whole .nil pass0 (pa_cons (pv 1) pa_nil)))) (pw_or1 (pt_not (pt_chain op_le op_le pe_int (pv 1) (pe_glob (v := .int 6) rfl (hTx.gi 7).choose_spec ⟨_, rfl⟩))))))
    (pss_one (ps_raise rfl takes0 (pmk_own PySem.F.excBase_ValueError (hTx.ex 8).1 (hTx.gl 9) (hTx.ex 8).2.1 (raises_own (hTx.ex 8).2.2.1 (hTx.ex 8).2.2.2) rfl)))
    pss_nil)
    (pss_cons (kx_sfld (K := K) rfl (pv 0) (pv 1) rfl)
    (pss_cons (kx_sfld (K := K) rfl (pv 0) pe_dnewK rfl)
    (pss_cons (kx_sfld (K := K) rfl (pv 0) pe_int rfl)
    (pss_one (kx_sfld (K := K) rfl (pv 0) (pe_lst pa_nil) rfl)))))), ?_⟩)
  try dsimp only [cx_K, cx_nK]
  rintro _ M nx xe ⟨s, c, rfl, p, w, rfl, rfl, w0, w1, hp, k⟩
  refine s_seq (s_if (b := false) ?_ (fun z => nomatch z) (fun _ => s_next ?_))
  · refine (et_or (b := false) (c := false) (et_not (et_B (ev_is_wholeI (ev_var rfl)))) fun _ => et_not (b := true) ((et_test (ev_chainB (f := fun i j => decide (i ≤ j)) (g := fun i j => decide (i ≤ j)) ev_int (ev_var rfl) ev_int)).is ?_))
    rw [decide_eq_true (show (1 : Int) ≤ w by omega), decide_eq_true (show w ≤ 6 from w1)]
    rfl
  have put1 : ∀ x : D, putD ("width" : Str) x [] = [(("width" : Str), x)] := fun _ => rfl
  have put2 : ∀ x y : D, putD ("held" : Str) y [(("width" : Str), x)] = [(("width" : Str), x), (("held" : Str), y)] := fun x y => by
    rw [putD_ne (by decide +kernel), putD_nil]
  have put3 : ∀ x y z : D, putD ("made" : Str) z [(("width" : Str), x), (("held" : Str), y)] = [(("width" : Str), x), (("held" : Str), y), (("made" : Str), z)] := fun x y z => by
    rw [putD_ne (by decide +kernel), putD_ne (by decide +kernel), putD_nil]
  have put4 : ∀ x y z u : D, putD ("kept" : Str) u [(("width" : Str), x), (("held" : Str), y), (("made" : Str), z)] = [(("width" : Str), x), (("held" : Str), y), (("made" : Str), z), (("kept" : Str), u)] := fun x y z u => by
    rw [putD_ne (by decide +kernel), putD_ne (by decide +kernel), putD_ne (by decide +kernel), putD_nil]
  refine s_seq (s_fld (ev_var rfl) (ev_var rfl) hp (hTx.cl 20) (hTx.na 51) (by show 0 < 1000; decide) ?_)
  refine s_seq (s_fldW (a := p) (w_dnew fun hd hhd => ?_) (hTx.cl 20) (hTx.na 52))
  have n1 : p ≠ hd := fun z => by rw [← z, ud_same] at hhd; cases hhd
  have hhd0 : M hd = none := by rw [ud_ne n1.symm] at hhd; exact hhd
  refine ⟨ev_var rfl, _, by rw [ud_ne n1]; exact ud_same, by show 1 < 1000; decide, ?_⟩
  refine s_seq (s_fld ev_int (ev_var rfl) ud_same (hTx.cl 20) (hTx.na 53) (by rw [put1, put2]; show 2 < 1000; decide) ?_)
  refine s_fldW (a := p) ((en_lst (ds := []) ea_nil (Nat.zero_le _)).w fun kl hkl => ?_) (hTx.cl 20) (hTx.na 54)
  have n2 : p ≠ kl := fun z => by rw [← z, ud_same] at hkl; cases hkl
  have n3 : hd ≠ kl := fun z => by rw [← z, ud_ne n1.symm, ud_ne n1.symm, ud_same] at hkl; cases hkl
  have hkl0 : M kl = none := by rw [ud_ne n2.symm, ud_ne n2.symm, ud_ne n3.symm, ud_ne n2.symm] at hkl; exact hkl
  refine ⟨ev_var rfl, _, by rw [ud_ne n2]; exact ud_same, by rw [put1, put2, put3]; show 3 < 1000; decide, ?_⟩
  rw [put1, put2, put3, put4]
  refine k _ hd kl hhd0 hkl0 n3 n1.symm n2.symm (fun a o ne e => ?_) ⟨ud_same, ?_, ⟨?_, fun q hq => (nomatch hq), List.nodup_nil, fun z => nomatch z⟩⟩
  · have m1 : a ≠ hd := ne_old e hhd0
    have m2 : a ≠ kl := ne_old e hkl0
    walk_at "led"
  · show (ud _ _ _) hd = _
    walk_at "led"
  · show (ud _ _ _) kl = _
    walk_at "led"

def pr_Table_need_row (K : PySem.W.Frag) : Pr := q2 fun s c M nx _ => ∃ (T : Tb) (n : Int) (r : List Int), s = .ref T.p ∧ c = .int n ∧ TabAt K M T ∧ thGet T.th n = some r ∧ nx .non M
section
variable {J : Jx} {ta tb to : TE} {ρ : Ro} {M : Mp} {E : XK}
theorem ev_Table_need_row {T : Tb} {n : Int} {r : List Int} (ho : Ev J to ρ M (.ref T.p)) (hT : TabAt J.K M T) (hb : Ev J tb ρ M (.int n)) (hr : thGet T.th n = some r) :
    Ev J (tMeth (He.ga J.K "Table") "need_row" (spD J.K (pr_Table_need_row J.K)) [] E to (tCons tb tNil)) ρ M .non :=
  w_meth0 ho hT.ob (tf_no (by decide +kernel) (by decide +kernel) (by decide +kernel) (by decide +kernel)) (ea_cons hb ea_nil) ⟨_, _, rfl, T, n, r, rfl, rfl, hT, hr, rfl, rfl⟩
end
abbrev nm_Table_need_row : List Str := ["self", "number"]
theorem sc_Table_need_row : FnScope nm_Table_need_row ["self", "number"] (defScope s_Table_need_row) := ⟨rfl, rfl, rfl, by decide +kernel, rfl, by decide +kernel, by decide +kernel⟩
theorem ok_Table_need_row (hTx : Tx K mg) : OkM P w K mg base CX0 2  (He.ma K (He.ga K "Table") "need_row") ["self", "number"] (pr_Table_need_row K) := by
  obtain ⟨_, G_is_whole, b_is_whole, k_is_whole, g_is_whole⟩ := ok_is_whole (P := P) (w := w) (base := base) hTx
  obtain ⟨_, F⟩ := hTx.fnM 9 s_Table_need_row "Table" "need_row" "Table.need_row" 21
  refine ⟨_, ?_, F.binds (ps := ["self", "number"]) fun _ _ _ _ _ _ us hl => match us, hl with | [_, _], _ => rfl⟩
  refine fn_dl F sc_Table_need_row (fun _ _ _ _ h => q2_len h) (fun cdv A outer s H E hr => ⟨_, (pss_one (ps_if (PW.pt (pw_or (pt_not (pt_val (pe_call G_is_whole (hr.mono (by decide)) rfl g_is_whole k_is_whole b_is_whole .nil pass0 (pa_cons (pv 1) pa_nil)))) (pw_or1 (pt_cmp (pc_dnotin (hu_of hr) (pv 1) (kx_fld (K := K) rfl (pv 0) rfl))))))
    (pss_one (ps_raise rfl takes0 (pmk_own PySem.F.excBase_ValueError (hTx.ex 10).1 (hTx.gl 11) (hTx.ex 10).2.1 (raises_own (hTx.ex 10).2.2.1 (hTx.ex 10).2.2.2) rfl)))
    pss_nil)), ?_⟩)
  try dsimp only [cx_K, cx_nK]
  rintro _ M nx xe ⟨s, c, rfl, T, n, r, rfl, rfl, hT, hr, k⟩
  refine s_if (b := false) ?_ (fun z => nomatch z) (fun _ => s_next k)
  refine (et_or (b := false) (c := false) (et_not (et_B (ev_is_wholeI (ev_var rfl)))) fun _ => ?_)
  refine (et_test (ev_dnotin (k := .inl n) (ev_var rfl) (ev_fld (ev_var rfl) hT.ob (hTx.cl 20) (hTx.na 52) tf_held) hT.dc)).is ?_
  rw [thD_val, hr]
  rfl

/-- no row of that number is there -/
def RowNo (T : Tb) (c : D) : Prop := ∀ n, c = .int n → thGet T.th n = none
theorem row_cases (T : Tb) (c : D) : RowNo T c ∨ ∃ n r, c = .int n ∧ thGet T.th n = some r := by
  rcases whole_cases c with h | ⟨n, rfl⟩
  · exact .inl fun n e => by rw [e] at h; cases h
  · cases q : thGet T.th n with
    | none => exact .inl fun m e => by cases e; exact q
    | some r => exact .inr ⟨n, r, rfl, q⟩
def pr_Table_need_row_x (K : PySem.W.Frag) : Pr := q2 fun s c M _ xe => ∃ (T : Tb), s = .ref T.p ∧ TabAt K M T ∧ tyN M c ≠ "" ∧ RowNo T c ∧ xe (He.ga K "NoRow") M
section
variable {K : PySem.W.Frag} {ta tb to : TE} {ρ : Ro} {M : Mp} {E : XK} {xe : Addr → Mp → Prop} {R : D → Mp → Prop} {c : D}
theorem w_Table_need_row_x {T : Tb} (ho : Ev (JX K E xe) to ρ M (.ref T.p)) (hT : TabAt K M T) (hb : Ev (JX K E xe) tb ρ M c) (ht : tyN M c ≠ "") (hn : RowNo T c) (hx : xe (He.ga K "NoRow") M) :
    W (JX K E xe) (tMeth (He.ga K "Table") "need_row" (spD K (pr_Table_need_row_x K)) [] E to (tCons tb tNil)) ρ M R :=
  w_methX ho hT.ob (tf_no (by decide +kernel) (by decide +kernel) (by decide +kernel) (by decide +kernel)) (ea_cons hb ea_nil) ⟨_, _, rfl, T, rfl, hT, ht, hn, hx⟩
end
theorem ok_Table_need_row_x (hTx : Tx K mg) : OkM P w K mg base (L2.CX P w) 2  (He.ma K (He.ga K "Table") "need_row") ["self", "number"] (pr_Table_need_row_x K) := by
  obtain ⟨_, G_is_whole, b_is_whole, k_is_whole, g_is_whole⟩ := ok_is_whole (P := P) (w := w) (base := base) hTx
  obtain ⟨_, F⟩ := hTx.fnM 9 s_Table_need_row "Table" "need_row" "Table.need_row" 21
  refine ⟨_, ?_, F.binds (ps := ["self", "number"]) fun _ _ _ _ _ _ us hl => match us, hl with | [_, _], _ => rfl⟩
  refine fn_dlX F sc_Table_need_row (fun _ _ _ _ h => q2_len h) (fun cdv A outer s H E hr => ⟨_, (pss_one (ps_if (PW.pt (pw_or (pt_not (pt_val (pe_call G_is_whole (hr.mono (by decide)) rfl g_is_whole k_is_whole b_is_whole .nil pass0 (pa_cons (pv 1) pa_nil)))) (pw_or1 (pt_cmp (pc_dnotin (hu_of hr) (pv 1) (kx_fld (K := K) rfl (pv 0) rfl))))))
    (pss_one (ps_raise rfl (takes_of rfl rfl rfl rfl) (pmk_own PySem.F.excBase_ValueError (hTx.ex 10).1 (hTx.gl 11) (hTx.ex 10).2.1 (raises_own (hTx.ex 10).2.2.1 (hTx.ex 10).2.2.2) rfl)))
    pss_nil)), ?_⟩)
  try dsimp only [cx_K, cx_nK]
  rintro _ M nx xe ⟨s, c, rfl, T, rfl, hT, ht, hn, hx⟩
  show S (JX K E xe) _ [some (.ref T.p), some c] M _
  refine s_if (b := true) ?_ (fun _ => s_raise hx (fun _ _ _ z => z)) (fun z => nomatch z)
  rcases whole_cases c with h | ⟨n, rfl⟩
  · exact (et_or (b := true) (c := false) (et_not (b := false) ((et_B (ev_is_whole (ev_var rfl) ht)).is h)) fun z => nomatch z)
  · refine (et_or (b := false) (c := true) (et_not (et_B (ev_is_wholeI (ev_var rfl)))) fun _ => ?_)
    refine (et_test (ev_dnotin (k := .inl n) (ev_var rfl) (ev_fld (ev_var rfl) hT.ob (hTx.cl 20) (hTx.na 52) tf_held) hT.dc)).is ?_
    rw [thD_val, hn n rfl]
    rfl

/-- an order with a row more -/
def Kr.put (n : Int) (r : List Int) (k : Kr) : Kr := { k with es := insE k.es (entryM k.cols n r) }
def Tb.put (T : Tb) (r : List Int) : Tb := { T with made := T.made + 1, th := T.th ++ [(T.made, r)], ks := T.ks.map (Kr.put T.made r) }
theorem Tb.put_adr (T : Tb) (r : List Int) : (T.put r).adr = T.adr := by
  unfold Tb.adr Tb.put
  rw [List.map_map]
  rfl
theorem Tb.put_ok {T : Tb} (h : TabOk T) {r : List Int} (hr : (r.length : Int) = T.w) (hl : T.th.length < 200) : TabOk (T.put r) := by
  have hnew : T.made ∉ T.th.map (·.1) := fun z => by have := h.rg _ z; omega
  have h0 := h.m0
  refine ⟨?_, fun n hn => ?_, fun p hp => ?_, h.w0, h.w1, ?_, ?_, fun k hk => ?_, ?_, ?_⟩
  · show ((T.th ++ [(T.made, r)]).map (·.1)).Nodup
    rw [List.map_append]
    refine List.nodup_append.mpr ⟨h.nd, List.pairwise_singleton _ _, fun x hx y hy z => ?_⟩
    rw [List.map_singleton, List.mem_singleton] at hy
    have e : T.made = x := (z.trans hy).symm
    exact hnew (e ▸ hx)
  · have hn' : n ∈ (T.th ++ [(T.made, r)]).map (·.1) := hn
    rw [List.map_append] at hn'
    show 0 ≤ n ∧ n < T.made + 1
    rcases List.mem_append.mp hn' with z | z
    · have := h.rg _ z; omega
    · rw [List.map_singleton, List.mem_singleton] at z
      have e : n = T.made := z
      omega
  · have hp' : p ∈ T.th ++ [(T.made, r)] := hp
    show p.2.length = T.w.toNat
    rcases List.mem_append.mp hp' with z | z
    · exact h.wi p z
    · rw [List.mem_singleton.mp z]
      show r.length = _
      omega
  · show 0 ≤ T.made + 1
    omega
  · show (T.th ++ [(T.made, r)]).length ≤ 200
    rw [List.length_append]
    simp
    omega
  · have hk' : k ∈ T.ks.map (Kr.put T.made r) := hk
    obtain ⟨k0, hk0, rfl⟩ := List.mem_map.mp hk'
    obtain ⟨g1, g2⟩ := h.kk k0 hk0
    exact ⟨g1.put T.made r hnew, g2⟩
  · show ((T.ks.map (Kr.put T.made r)).map (·.cols)).Nodup
    rw [List.map_map]
    exact h.kn
  · show (T.ks.map (Kr.put T.made r)).length ≤ 8
    rw [List.length_map]
    exact h.kl
def pr_Table_put (K : PySem.W.Frag) : Pr := q2 fun s c M nx _ => ∃ (T : Tb) (r : List Int), s = .ref T.p ∧ IsQ M c (r.map .int) ∧ (∀ x ∈ T.adr, c ≠ .ref x) ∧ TabAt K M T ∧ TabOk T ∧ (r.length : Int) = T.w ∧ T.th.length < 200 ∧ ∀ M', TStep K M M' T (T.put r) (T.th ++ [(T.made, r)]) (T.made + 1) (T.ks.map (·.cols)) → nx (.int T.made) M'
section
variable {J : Jx} {ta tb to : TE} {ρ : Ro} {M : Mp} {E : XK} {R : D → Mp → Prop} {x : D}
theorem w_Table_put {T : Tb} {r : List Int} (ho : Ev J to ρ M (.ref T.p)) (hb : Ev J tb ρ M x) (hx : IsQ M x (r.map .int)) (hd : ∀ y ∈ T.adr, x ≠ .ref y) (hT : TabAt J.K M T) (hO : TabOk T) (hr : (r.length : Int) = T.w) (hl : T.th.length < 200) (k : ∀ M', TStep J.K M M' T (T.put r) (T.th ++ [(T.made, r)]) (T.made + 1) (T.ks.map (·.cols)) → R (.int T.made) M') :
    W J (tMeth (He.ga J.K "Table") "put" (spD J.K (pr_Table_put J.K)) [] E to (tCons tb tNil)) ρ M R :=
  w_meth0 ho hT.ob (tf_no (by decide +kernel) (by decide +kernel) (by decide +kernel) (by decide +kernel)) (ea_cons hb ea_nil) ⟨_, _, rfl, T, r, rfl, hx, hd, hT, hO, hr, hl, k⟩
end
theorem tyN_Q {M : Mp} {x : D} {ds : List D} (h : IsQ M x ds) : tyN M x = "list" ∨ tyN M x = "tuple" := by
  rcases h with rfl | rfl | rfl | ⟨a, rfl, h⟩
  · exact .inr rfl
  · exact .inl rfl
  · exact .inl rfl
  · exact .inl (by simp only [tyN, h])
theorem isQ_frame {M M' : Mp} {x : D} {ds : List D} {A : List Addr} (h : IsQ M x ds) (f : Frame M M' A) (hd : ∀ y ∈ A, x ≠ .ref y) : IsQ M' x ds := by
  rcases h with h | h | h | ⟨a, rfl, h⟩
  · exact .inl h
  · exact .inr (.inl h)
  · exact .inr (.inr (.inl h))
  · exact .inr (.inr (.inr ⟨a, rfl, f a _ (fun z => hd a z rfl) h⟩))
abbrev nm_Table_put : List Str := ["self", "row", "value", "number", "one"]
theorem sc_Table_put : FnScope nm_Table_put ["self", "row"] (defScope s_Table_put) := ⟨rfl, rfl, rfl, by decide +kernel, rfl, by decide +kernel, by decide +kernel⟩
theorem ok_Table_put (hTx : Tx K mg) : OkM P w K mg base CX0 4  (He.ma K (He.ga K "Table") "put") ["self", "row"] (pr_Table_put K) := by
  obtain ⟨_, G_is_whole, b_is_whole, k_is_whole, g_is_whole⟩ := ok_is_whole (P := P) (w := w) (base := base) hTx
  obtain ⟨_, G_Kept_put, b_Kept_put⟩ := ok_Kept_put (P := P) (w := w) (base := base) hTx
  obtain ⟨_, F⟩ := hTx.fnM 10 s_Table_put "Table" "put" "Table.put" 43
  refine ⟨_, ?_, F.binds (ps := ["self", "row"]) fun _ _ _ _ _ _ us hl => match us, hl with | [_, _], _ => rfl⟩
  refine fn_dl F sc_Table_put (fun _ _ _ _ h => q2_len h) (fun cdv A outer s H E hr => ⟨_, (pss_cons (ps_if (PW.pt (pw_or (pt_not (pt_val (pe_callB (kx_isiT (K := K) rfl) (by rfl) (hTx.fr 3) (by decide +kernel) (pa_cons (pv 1) (pa_cons (pe_tup (pa_cons (pe_bltn (v := .ty "list") (by rfl) (hTx.fr 12) (by decide +kernel) rfl) (pa_cons (pe_bltn (v := .ty "tuple") (by rfl) (hTx.fr 13) (by decide +kernel) rfl) pa_nil))) pa_nil))))) (pw_or1 (pt_cmpR op_ne (pe_callB (kx_len (K := K) rfl) (by rfl) (hTx.fr 1) (by decide +kernel) (pa_cons (pv 1) pa_nil)) (kx_fld (K := K) rfl (pv 0) rfl) (nomark _)))))
    (pss_one (ps_raise rfl takes0 (pmk_own PySem.F.excBase_ValueError (hTx.ex 14).1 (hTx.gl 15) (hTx.ex 14).2.1 (raises_own (hTx.ex 14).2.2.1 (hTx.ex 14).2.2.2) rfl)))
    pss_nil)
    (pss_cons (ps_for PassesOwn.never rfl (pi_or (kx_plist (K := K) rfl (pv 1)) (kx_ptup (K := K) rfl (pv 1))) (pg_name (i := 2) sc_Table_put.nd rfl (Or.inl rfl))
    (pss_one (ps_if (pt_not (pt_val (pe_call G_is_whole (hr.mono (by decide)) rfl g_is_whole k_is_whole b_is_whole .nil pass0 (pa_cons (pv 2) pa_nil))))
    (pss_one (ps_raise rfl takes0 (pmk_own PySem.F.excBase_ValueError (hTx.ex 14).1 (hTx.gl 15) (hTx.ex 14).2.1 (raises_own (hTx.ex 14).2.2.1 (hTx.ex 14).2.2.2) rfl)))
    pss_nil)))
    (pss_cons (ps_if (pt_cmpR op_eq (pe_callB call_lenD (by rfl) (hTx.fr 1) (by decide +kernel) (pa_cons (kx_fld (K := K) rfl (pv 0) rfl) pa_nil)) (pe_glob (v := .int 200) rfl (hTx.gi 16).choose_spec ⟨_, rfl⟩) (nomark _))
    (pss_one (ps_raise rfl takes0 (pmk_own PySem.F.excBase_ValueError (hTx.ex 17).1 (hTx.gl 18) (hTx.ex 17).2.1 (raises_own (hTx.ex 17).2.2.1 (hTx.ex 17).2.2.2) rfl)))
    pss_nil)
    (pss_cons (ps_set (i := 3) sc_Table_put.nd rfl (Or.inl rfl) (kx_fld (K := K) rfl (pv 0) rfl))
    (pss_cons (kx_sfld (K := K) rfl (pv 0) (pe_op op_add (pv 3) pe_int) rfl)
    (pss_cons (ps_dput (hu_of hr) (kx_fld (K := K) rfl (pv 0) rfl) (pv 3) (pe_callTy (kx_list (K := K) rfl) (by rfl) (hTx.fr 12) (by decide +kernel) (pa_cons (pv 1) pa_nil)) rfl)
    (pss_cons (ps_for PassesOwn.never rfl (kx_plist (K := K) rfl (kx_fld (K := K) rfl (pv 0) rfl)) (pg_name (i := 4) sc_Table_put.nd rfl (Or.inl rfl))
    (pss_one (ps_expr (pe_meth (pv 4) (hTx.cl 5) (hTx.me 19) G_Kept_put (hr.mono (by decide)) b_Kept_put .nil pass0 (pa_cons (pv 3) (pa_cons (pv 1) pa_nil))))))
    (pss_one (ps_ret (pv 3)))))))))), ?_⟩)
  try dsimp only [cx_K, cx_nK]
  rintro _ M nx xe ⟨s, c, rfl, T, r, rfl, hx, hd, hT, hO, hr, hl, k⟩
  show S (J0 K) _ [some (.ref T.p), some c, none, none, none] M _
  have hw : ∀ (M' : Mp) (ρ' : Ro), M' T.p = some (.ins (He.ga K "Table") (tf T.w T.hd T.made T.kl)) → ρ'[0]? = some (some (.ref T.p)) → Ev (J0 K) (tFld K (tVar 0) "width") ρ' M' (.int T.w) := fun M' ρ' e h => ev_fld (ev_var h) e (hTx.cl 20) (hTx.na 51) tf_width
  refine s_seq (s_if (b := false) ?_ (fun z => nomatch z) (fun _ => s_next ?_))
  · refine (et_or (b := false) (c := false) ?_ fun _ => ?_)
    · rcases tyN_Q hx with e | e
      · exact et_not (et_B (ev_isi2 (b := true) "list" (ev_var rfl) e (by decide +kernel) (by decide)))
      · exact et_not (et_B (ev_isi2 (b := true) "tuple" (ev_var rfl) e (by decide +kernel) (by decide)))
    · refine (et_test (ev_neI (ev_len (ev_var rfl) hx) (hw M _ hT.ob rfl))).is ?_
      rw [List.length_map, hr]
      simp
  refine s_seq (s_for (src_Q (ev_var rfl) hx) (fun i ρ' M' => M' = M ∧ ∃ a, ρ' = [some (.ref T.p), some c, a, none, none]) ⟨rfl, none, rfl⟩ (fun i ρ' M' h => by rw [h.1]; exact hx) ?_ ?_)
  · rintro i d ρ' M' hdd ⟨rfl, a, rfl⟩
    obtain ⟨v, _, rfl⟩ := get_int hdd
    refine sg_name ?_
    exact s_if (b := false) (et_not (et_B (ev_is_wholeI (ev_var rfl)))) (fun z => nomatch z) (fun _ => s_next ⟨rfl, _, rfl⟩)
  rintro ρ' M' ⟨rfl, a, rfl⟩
  refine s_seq (s_if (b := false) ?_ (fun z => nomatch z) (fun _ => s_next ?_))
  · refine (et_test (ev_eqI (ev_lenD (ev_fld (ev_var rfl) hT.ob (hTx.cl 20) (hTx.na 52) tf_held) hT.dc) ev_int)).is ?_
    rw [thD_len]
    exact decide_eq_false (by omega)
  refine s_seq (s_asgE (ev_fld (ev_var rfl) hT.ob (hTx.cl 20) (hTx.na 53) tf_made) ?_)
  refine s_seq (s_fld (ev_I0 (ev_var rfl) ev_int) (ev_var rfl) hT.ob (hTx.cl 20) (hTx.na 53) (by show 4 < 1000; decide) ?_)
  have epm : putD ("made" : Str) (.int (T.made + 1)) (tf T.w T.hd T.made T.kl) = tf T.w T.hd (T.made + 1) T.kl := by
    unfold tf
    rw [putD_ne (by decide +kernel), putD_ne (by decide +kernel), putD_eq]
  rw [epm]
  have B1 := hT.ob
  have B2 := hT.dc
  have B3 := hT.ka.li
  have hph : T.p ≠ T.hd := ne_mo B1 B2 (by intro z; cases z)
  have hpk : T.p ≠ T.kl := ne_mo B1 B3 (by intro z; cases z)
  have hhk : T.hd ≠ T.kl := ne_mo B2 B3 (by intro z; cases z)
  have hnew : T.made ∉ T.th.map (·.1) := fun z => by have := hO.rg _ z; omega
  have hg : thGet T.th T.made = none := thGet_none.mpr hnew
  have f1 : Frame M' (ud M' T.p (.ins (He.ga K "Table") (tf T.w T.hd (T.made + 1) T.kl))) T.adr := Frame.ud (by simp [Tb.adr])
  refine s_seq (s_dput (k := .inl T.made) (a := T.hd) (kvs := thD T.th) (x := rowD r) (en_list (ds := r.map .int) (ev_var rfl) (isQ_frame hx f1 hd)).ev (ev_fld (ev_var rfl) ud_same (hTx.cl 20) (hTx.na 52) tf_held) (ev_var rfl) (by walk_at "led") (szl (by rw [thD_len]; omega)) ?_)
  have ep : putA (thD T.th) (Sum.inl T.made) (rowD r) = thD (T.th ++ [(T.made, r)]) := by
    rw [thD_put]
    unfold thPut
    rw [hg]
    rfl
  rw [ep]
  have f2 : Frame M' (ud (ud M' T.p (.ins (He.ga K "Table") (tf T.w T.hd (T.made + 1) T.kl))) T.hd (.dct (thD (T.th ++ [(T.made, r)])))) T.adr := f1.trans (Frame.ud (by simp [Tb.adr]))
  have g1 : (ud (ud M' T.p (.ins (He.ga K "Table") (tf T.w T.hd (T.made + 1) T.kl))) T.hd (.dct (thD (T.th ++ [(T.made, r)])))) T.p = some (.ins (He.ga K "Table") (tf T.w T.hd (T.made + 1) T.kl)) := by walk_at "led"
  have g2 : (ud (ud M' T.p (.ins (He.ga K "Table") (tf T.w T.hd (T.made + 1) T.kl))) T.hd (.dct (thD (T.th ++ [(T.made, r)])))) T.hd = some (.dct (thD (T.th ++ [(T.made, r)]))) := ud_same
  have g3 : KsAt K (ud (ud M' T.p (.ins (He.ga K "Table") (tf T.w T.hd (T.made + 1) T.kl))) T.hd (.dct (thD (T.th ++ [(T.made, r)])))) T.kl T.ks := hT.ka.mono fun b o hb e => by
    have e1 : b ≠ T.p := by
      rcases hb with rfl | ⟨k, hk, rfl | rfl⟩
      · exact hpk.symm
      · intro z
        have := (hT.ka.ke k hk).ob
        rw [z, B1] at this
        have := congrArg (fun o => match o with | some (MO.ins _ fs) => fs.length | _ => 0) this
        exact absurd this (by show ¬ (4 = 2); decide)
      · exact ne_mo (hT.ka.ke k hk).en B1 (by intro z; cases z)
    have e2 : b ≠ T.hd := by
      rcases hb with rfl | ⟨k, hk, rfl | rfl⟩
      · exact hhk.symm
      · exact ne_mo (hT.ka.ke k hk).ob B2 (by intro z; cases z)
      · exact ne_mo (hT.ka.ke k hk).en B2 (by intro z; cases z)
    rw [ud_ne e2, ud_ne e1]
    exact e
  revert f2 g1 g2 g3
  generalize (ud (ud M' T.p (.ins (He.ga K "Table") (tf T.w T.hd (T.made + 1) T.kl))) T.hd (.dct (thD (T.th ++ [(T.made, r)])))) = M2
  intro f2 g1 g2 g3
  refine s_seq (s_for (src_r (ev_fld (ev_var rfl) g1 (hTx.cl 20) (hTx.na 54) tf_kept) g3.li) (fun i ρ' M3 => Frame M' M3 T.adr ∧ M3 T.p = some (.ins (He.ga K "Table") (tf T.w T.hd (T.made + 1) T.kl)) ∧ M3 T.hd = some (.dct (thD (T.th ++ [(T.made, r)]))) ∧ KsAt K M3 T.kl ((T.ks.take i).map (Kr.put T.made r) ++ T.ks.drop i) ∧ ∃ b, ρ' = [some (.ref T.p), some c, a, some (.int T.made), b]) ⟨f2, g1, g2, g3, _, rfl⟩ (fun i ρ' M3 h => by
    rw [h.2.2.2.1.li, List.map_append, List.map_map]
    show some (MO.lst ((T.ks.take i).map (fun k => D.ref k.p) ++ (T.ks.drop i).map fun k => D.ref k.p)) = _
    rw [← List.map_append, List.take_append_drop]) ?_ ?_)
  · rintro i d ρ' M3 hdd ⟨q1, q2, q3, q4, b, rfl⟩
    obtain ⟨kr, hkr, rfl⟩ := get_map hdd
    have hkm := List.mem_of_getElem? hkr
    obtain ⟨o1, o2⟩ := hO.kk kr hkm
    refine sg_name ?_
    rw [drop_at hkr] at q4
    have hka := q4.ke kr (by simp)
    have hrn : r.length = T.w.toNat := by omega
    have hcl := o2.len hO.w1
    have hnl : kr.l ≠ T.p := ne_mo hka.en q2 (by intro z; cases z)
    have hnh : kr.l ≠ T.hd := ne_mo hka.en q3 (by intro z; cases z)
    refine s_drop (w_Kept_put (p := kr.p) (l := kr.l) (cols := kr.cols) (row := r) (es := kr.es) (num := T.made) (ev_var rfl) hka (ev_var rfl) (ev_var rfl) (isQ_frame hx q1 hd) (fun c hc => by have := o2.1 c hc; omega) (by omega) o1.rising (by rw [o1.len]; omega) ?_)
    refine ⟨q1.trans (Frame.ud (by simp only [Tb.adr, List.mem_cons]; exact .inr (.inr (.inr (List.mem_map_of_mem (f := (·.l)) hkm))))), by walk_at "led", by walk_at "led", ?_, _, rfl⟩
    have tk : T.ks.take (i + 1) = T.ks.take i ++ [kr] := by
      obtain ⟨hl, e⟩ := List.getElem?_eq_some_iff.mp hkr
      rw [← e]
      exact (List.take_append_getElem hl).symm
    rw [tk, List.map_append, List.append_assoc]
    exact q4.set
  · rintro ρ' M3 ⟨q1, q2, q3, q4, b, rfl⟩
    rw [List.length_map, List.take_length, List.drop_length, List.append_nil] at q4
    refine s_retE (ev_var rfl) (k M3 ⟨⟨q2, q3, q4⟩, Tb.put_ok hO hr hl, rfl, rfl, rfl, ?_, rfl, q1, fun x hx => .inl (by rw [Tb.put_adr] at hx; exact hx)⟩)
    show (T.ks.map (Kr.put T.made r)).map (·.cols) = _
    rw [List.map_map]
    rfl

def Kr.drop (n : Int) (r : List Int) (k : Kr) : Kr := { k with es := remE k.es (entryM k.cols n r) }
def Tb.drop (T : Tb) (n : Int) (r : List Int) : Tb := { T with th := thDrop T.th n, ks := T.ks.map (Kr.drop n r) }
theorem Tb.drop_adr (T : Tb) (n : Int) (r : List Int) : (T.drop n r).adr = T.adr := by
  unfold Tb.adr Tb.drop
  rw [List.map_map]
  rfl
theorem Tb.drop_ok {T : Tb} (h : TabOk T) {n : Int} {r : List Int} (hr : thGet T.th n = some r) : TabOk (T.drop n r) := by
  refine ⟨thDrop_nodup h.nd, fun m hm => ?_, fun p hp => h.wi p (thDrop_mem.mp hp).1, h.w0, h.w1, h.m0, ?_, fun k hk => ?_, ?_, ?_⟩
  · obtain ⟨q, hq, rfl⟩ := List.mem_map.mp hm
    exact h.rg _ (List.mem_map_of_mem (thDrop_mem.mp hq).1)
  · exact Nat.le_trans (List.length_filter_le _ _) h.hl
  · have hk' : k ∈ T.ks.map (Kr.drop n r) := hk
    obtain ⟨k0, hk0, rfl⟩ := List.mem_map.mp hk'
    obtain ⟨g1, g2⟩ := h.kk k0 hk0
    exact ⟨(g1.drop h.nd (thGet_mem hr)).2, g2⟩
  · show ((T.ks.map (Kr.drop n r)).map (·.cols)).Nodup
    rw [List.map_map]
    exact h.kn
  · show (T.ks.map (Kr.drop n r)).length ≤ 8
    rw [List.length_map]
    exact h.kl
def pr_Table_drop (K : PySem.W.Frag) : Pr := q2 fun s c M nx _ => ∃ (T : Tb) (n : Int) (r : List Int), s = .ref T.p ∧ c = .int n ∧ TabAt K M T ∧ TabOk T ∧ thGet T.th n = some r ∧ ∀ M', TStep K M M' T (T.drop n r) (thDrop T.th n) T.made (T.ks.map (·.cols)) → nx .non M'
section
variable {J : Jx} {ta tb to : TE} {ρ : Ro} {M : Mp} {E : XK} {R : D → Mp → Prop} {x : D}
theorem w_Table_drop {T : Tb} {n : Int} {r : List Int} (ho : Ev J to ρ M (.ref T.p)) (hb : Ev J tb ρ M (.int n)) (hT : TabAt J.K M T) (hO : TabOk T) (hr : thGet T.th n = some r) (k : ∀ M', TStep J.K M M' T (T.drop n r) (thDrop T.th n) T.made (T.ks.map (·.cols)) → R .non M') :
    W J (tMeth (He.ga J.K "Table") "drop" (spD J.K (pr_Table_drop J.K)) [] E to (tCons tb tNil)) ρ M R :=
  w_meth0 ho hT.ob (tf_no (by decide +kernel) (by decide +kernel) (by decide +kernel) (by decide +kernel)) (ea_cons hb ea_nil) ⟨_, _, rfl, T, n, r, rfl, rfl, hT, hO, hr, k⟩
end
/-- the orders under a change of the rows -/
theorem KsAt.hd {K : PySem.W.Frag} {M : Mp} {T : Tb} {o : MO} (h : TabAt K M T) : KsAt K (ud M T.hd o) T.kl T.ks := h.ka.mono fun b u hb e => by
  have e2 : b ≠ T.hd := by
    rcases hb with rfl | ⟨k, hk, rfl | rfl⟩
    · exact ne_mo h.ka.li h.dc (by intro z; cases z)
    · exact ne_mo (h.ka.ke k hk).ob h.dc (by intro z; cases z)
    · exact ne_mo (h.ka.ke k hk).en h.dc (by intro z; cases z)
  rw [ud_ne e2]
  exact e
abbrev nm_Table_drop : List Str := ["self", "number", "row", "one"]
theorem sc_Table_drop : FnScope nm_Table_drop ["self", "number"] (defScope s_Table_drop) := ⟨rfl, rfl, rfl, by decide +kernel, rfl, by decide +kernel, by decide +kernel⟩
theorem ok_Table_drop (hTx : Tx K mg) : OkM P w K mg base CX0 4  (He.ma K (He.ga K "Table") "drop") ["self", "number"] (pr_Table_drop K) := by
  obtain ⟨_, G_Table_need_row, b_Table_need_row⟩ := ok_Table_need_row (P := P) (w := w) (base := base) hTx
  obtain ⟨_, G_Kept_drop, b_Kept_drop⟩ := ok_Kept_drop (P := P) (w := w) (base := base) hTx
  obtain ⟨_, F⟩ := hTx.fnM 11 s_Table_drop "Table" "drop" "Table.drop" 36
  refine ⟨_, ?_, F.binds (ps := ["self", "number"]) fun _ _ _ _ _ _ us hl => match us, hl with | [_, _], _ => rfl⟩
  refine fn_dl F sc_Table_drop (fun _ _ _ _ h => q2_len h) (fun cdv A outer s H E hr => ⟨_, (pss_cons (ps_expr (pe_meth (pv 0) (hTx.cl 20) (hTx.me 21) G_Table_need_row (hr.mono (by decide)) b_Table_need_row .nil pass0 (pa_cons (pv 1) pa_nil)))
    (pss_cons (ps_set (i := 2) sc_Table_drop.nd rfl (Or.inl rfl) (pe_dpop1 (kx_fld (K := K) rfl (pv 0) rfl) (pv 1) ⟨by rfl, by rfl, by rfl, by rfl⟩))
    (pss_one (ps_for PassesOwn.never rfl (kx_plist (K := K) rfl (kx_fld (K := K) rfl (pv 0) rfl)) (pg_name (i := 3) sc_Table_drop.nd rfl (Or.inl rfl))
    (pss_one (ps_expr (pe_meth (pv 3) (hTx.cl 5) (hTx.me 22) G_Kept_drop (hr.mono (by decide)) b_Kept_drop .nil pass0 (pa_cons (pv 1) (pa_cons (pv 2) pa_nil))))))))), ?_⟩)
  try dsimp only [cx_K, cx_nK]
  rintro _ M nx xe ⟨s, c, rfl, T, n, r, rfl, rfl, hT, hO, hr, k⟩
  show S (J0 K) _ [some (.ref T.p), some (.int n), none, none] M _
  refine s_seq (s_drop ((ev_Table_need_row (T := T) (n := n) (r := r) (ev_var rfl) hT (ev_var rfl) hr).w ?_))
  have B1 := hT.ob
  have B2 := hT.dc
  have B3 := hT.ka.li
  have hph : T.p ≠ T.hd := ne_mo B1 B2 (by intro z; cases z)
  have hhk : T.hd ≠ T.kl := ne_mo B2 B3 (by intro z; cases z)
  refine s_seq (s_asg (w_dpop1 (k := .inl n) (a := T.hd) (z := rowD r) (ev_fld (ev_var rfl) hT.ob (hTx.cl 20) (hTx.na 52) tf_held) (ev_var rfl) hT.dc (by rw [thD_val, hr]; rfl) ?_))
  rw [thD_drop]
  have f2 : Frame M (ud M T.hd (.dct (thD (thDrop T.th n)))) T.adr := Frame.ud (by simp [Tb.adr])
  have g1 : (ud M T.hd (.dct (thD (thDrop T.th n)))) T.p = some (.ins (He.ga K "Table") (tf T.w T.hd T.made T.kl)) := by walk_at "led"
  have g2 : (ud M T.hd (.dct (thD (thDrop T.th n)))) T.hd = some (.dct (thD (thDrop T.th n))) := ud_same
  have g3 : KsAt K (ud M T.hd (.dct (thD (thDrop T.th n)))) T.kl T.ks := KsAt.hd hT
  revert f2 g1 g2 g3
  generalize (ud M T.hd (.dct (thD (thDrop T.th n)))) = M2
  intro f2 g1 g2 g3
  have hrm := thGet_mem hr
  have hrl : r.length = T.w.toNat := hO.wi _ hrm
  refine s_for (src_r (ev_fld (ev_var rfl) g1 (hTx.cl 20) (hTx.na 54) tf_kept) g3.li) (fun i ρ' M3 => Frame M M3 T.adr ∧ M3 T.p = some (.ins (He.ga K "Table") (tf T.w T.hd T.made T.kl)) ∧ M3 T.hd = some (.dct (thD (thDrop T.th n))) ∧ KsAt K M3 T.kl ((T.ks.take i).map (Kr.drop n r) ++ T.ks.drop i) ∧ ∃ b, ρ' = [some (.ref T.p), some (.int n), some (rowD r), b]) ⟨f2, g1, g2, g3, _, rfl⟩ (fun i ρ' M3 h => by
    rw [h.2.2.2.1.li, List.map_append, List.map_map]
    show some (MO.lst ((T.ks.take i).map (fun k => D.ref k.p) ++ (T.ks.drop i).map fun k => D.ref k.p)) = _
    rw [← List.map_append, List.take_append_drop]) ?_ ?_
  · rintro i d ρ' M3 hdd ⟨q1, q2, q3, q4, b, rfl⟩
    obtain ⟨kr, hkr, rfl⟩ := get_map hdd
    have hkm := List.mem_of_getElem? hkr
    obtain ⟨o1, o2⟩ := hO.kk kr hkm
    refine sg_name ?_
    rw [drop_at hkr] at q4
    have hka := q4.ke kr (by simp)
    have hcl := o2.len hO.w1
    have hnl : kr.l ≠ T.p := ne_mo hka.en q2 (by intro z; cases z)
    have hnh : kr.l ≠ T.hd := ne_mo hka.en q3 (by intro z; cases z)
    refine s_drop (w_Kept_drop (p := kr.p) (l := kr.l) (cols := kr.cols) (row := r) (es := kr.es) (num := n) (ev_var rfl) hka (ev_var rfl) (ev_var rfl) .l (fun c hc => by have := o2.1 c hc; omega) (by omega) o1.rising (by rw [o1.len]; have := hO.hl; omega) (o1.drop hO.nd hrm).1 ?_)
    refine ⟨q1.trans (Frame.ud (by simp only [Tb.adr, List.mem_cons]; exact .inr (.inr (.inr (List.mem_map_of_mem (f := (·.l)) hkm))))), by walk_at "led", by walk_at "led", ?_, _, rfl⟩
    have tk : T.ks.take (i + 1) = T.ks.take i ++ [kr] := by
      obtain ⟨hl, e⟩ := List.getElem?_eq_some_iff.mp hkr
      rw [← e]
      exact (List.take_append_getElem hl).symm
    rw [tk, List.map_append, List.append_assoc]
    exact q4.set
  · rintro ρ' M3 ⟨q1, q2, q3, q4, b, rfl⟩
    rw [List.length_map, List.take_length, List.drop_length, List.append_nil] at q4
    refine k M3 ⟨⟨q2, q3, q4⟩, Tb.drop_ok hO hr, rfl, rfl, rfl, ?_, rfl, q1, fun x hx => .inl (by rw [Tb.drop_adr] at hx; exact hx)⟩
    show (T.ks.map (Kr.drop n r)).map (·.cols) = _
    rw [List.map_map]
    rfl

def pr_Table_drop_x (K : PySem.W.Frag) : Pr := q2 fun s c M _ xe => ∃ (T : Tb), s = .ref T.p ∧ TabAt K M T ∧ tyN M c ≠ "" ∧ RowNo T c ∧ xe (He.ga K "NoRow") M
theorem ok_Table_drop_x (hTx : Tx K mg) : OkM P w K mg base (L2.CX P w) 3  (He.ma K (He.ga K "Table") "drop") ["self", "number"] (pr_Table_drop_x K) := by
  obtain ⟨_, G_Table_need_row, b_Table_need_row⟩ := ok_Table_need_row (P := P) (w := w) (base := base) hTx
  obtain ⟨_, G_Table_need_row_x, b_Table_need_row_x⟩ := ok_Table_need_row_x (P := P) (w := w) (base := base) hTx
  obtain ⟨_, F⟩ := hTx.fnM 11 s_Table_drop "Table" "drop" "Table.drop" 36
  refine ⟨_, ?_, F.binds (ps := ["self", "number"]) fun _ _ _ _ _ _ us hl => match us, hl with | [_, _], _ => rfl⟩
  refine fn_dlX F sc_Table_drop (fun _ _ _ _ h => q2_len h) (fun cdv A outer s H E hr => ⟨_, (pss_cons (ps_expr (pe_ei (pe_meth (pv 0) (hTx.cl 20) (hTx.me 21) G_Table_need_row (hr.mono (by decide)) b_Table_need_row .nil pass0 (pa_cons (pv 1) pa_nil)) (pe_meth (pv 0) (hTx.cl 20) (hTx.me 21) G_Table_need_row_x (hr.mono (by decide)) b_Table_need_row_x .nil (passes_call (takes_of rfl rfl rfl rfl) (fun _ _ _ _ z => z)) (pa_cons (pv 1) pa_nil))))
    (pss_cons ps_never
    (pss_one ps_never))), ?_⟩)
  try dsimp only [cx_K, cx_nK]
  rintro _ M nx xe ⟨s, c, rfl, T, rfl, hT, ht, hn, hx⟩
  show S (JX K E xe) _ [some (.ref T.p), some c, none, none] M _
  exact s_seq (s_drop (w_ei2 (w_Table_need_row_x (T := T) (ev_var rfl) hT (ev_var rfl) ht hn hx)))

def Kr.change (n : Int) (r f : List Int) (k : Kr) : Kr := Kr.put n f (Kr.drop n r k)
def Tb.change (T : Tb) (n : Int) (r f : List Int) : Tb := { T with th := thPut T.th n f, ks := T.ks.map (Kr.change n r f) }
theorem Tb.change_adr (T : Tb) (n : Int) (r f : List Int) : (T.change n r f).adr = T.adr := by
  unfold Tb.adr Tb.change
  rw [List.map_map]
  rfl
theorem thPut_keys {th : Th} {n : Int} {r f : List Int} (h : thGet th n = some r) : (thPut th n f).map (·.1) = th.map (·.1) := by
  unfold thPut
  rw [if_pos (by rw [h]; rfl), List.map_map]
  refine List.map_congr_left fun p _ => ?_
  show (if p.1 = n then (p.1, f) else p).1 = p.1
  split <;> rfl
theorem thPut_mem {th : Th} {n : Int} {r f : List Int} (h : thGet th n = some r) {p : Int × List Int} (hp : p ∈ thPut th n f) : (p ∈ th ∧ p.1 ≠ n) ∨ p = (n, f) := by
  unfold thPut at hp
  rw [if_pos (by rw [h]; rfl)] at hp
  obtain ⟨q, hq, rfl⟩ := List.mem_map.mp hp
  by_cases e : q.1 = n
  · rw [if_pos e, e]; exact .inr rfl
  · rw [if_neg e]; exact .inl ⟨hq, e⟩
theorem thPut_perm {n : Int} {f : List Int} : ∀ {th : Th} {r : List Int}, (th.map (·.1)).Nodup → thGet th n = some r → (thPut th n f).Perm (thDrop th n ++ [(n, f)])
  | [], r, _, h => by cases h
  | p :: th, r, hn, h => by
    have hs : (thGet (p :: th) n).isSome = true := by rw [h]; rfl
    rw [List.map_cons, List.nodup_cons] at hn
    unfold thPut
    rw [if_pos hs, List.map_cons]
    unfold thDrop
    by_cases e : p.1 = n
    · rw [if_pos e, List.filter_cons_of_neg (by simp [e])]
      have hno : ∀ q ∈ th, q.1 ≠ n := fun q hq z => hn.1 (by rw [e, ← z]; exact List.mem_map_of_mem (f := (·.1)) hq)
      have e1 : th.map (fun q => if q.1 = n then (q.1, f) else q) = th := by
        conv => rhs; rw [← List.map_id th]
        exact List.map_congr_left fun q hq => if_neg (hno q hq)
      have e2 : th.filter (fun q => decide (q.1 ≠ n)) = th := List.filter_eq_self.mpr fun q hq => decide_eq_true (hno q hq)
      rw [e1, e2, e]
      exact (List.perm_append_singleton _ _).symm
    · rw [if_neg e, List.filter_cons_of_pos (by simpa using e), List.cons_append]
      have h2 : thGet th n = some r := by
        unfold thGet at h ⊢
        rw [List.find?_cons, decide_eq_false e] at h
        exact h
      have ih := thPut_perm (f := f) hn.2 h2
      unfold thPut thDrop at ih
      rw [if_pos (by rw [h2]; rfl)] at ih
      exact ih.cons p
theorem KOrd.perm_th {cols : List Int} {th th' : Th} {es : List (List Int)} (h : KOrd cols th es) (p : th.Perm th') : KOrd cols th' es := ⟨h.perm.trans (p.map _), h.ord⟩
theorem Tb.change_ok {T : Tb} (h : TabOk T) {n : Int} {r f : List Int} (hr : thGet T.th n = some r) (hf : (f.length : Int) = T.w) : TabOk (T.change n r f) := by
  have hkeys := thPut_keys (f := f) hr
  refine ⟨?_, ?_, fun p hp => ?_, h.w0, h.w1, h.m0, ?_, fun k hk => ?_, ?_, ?_⟩
  · show ((thPut T.th n f).map (·.1)).Nodup
    rw [hkeys]; exact h.nd
  · show ∀ m ∈ (thPut T.th n f).map (·.1), _
    rw [hkeys]; exact h.rg
  · show p.2.length = T.w.toNat
    rcases thPut_mem hr hp with ⟨z, _⟩ | z
    · exact h.wi p z
    · rw [z]; show f.length = _; omega
  · show (thPut T.th n f).length ≤ 200
    have e := congrArg List.length hkeys
    rw [List.length_map, List.length_map] at e
    rw [e]; exact h.hl
  · have hk' : k ∈ T.ks.map (Kr.change n r f) := hk
    obtain ⟨k0, hk0, rfl⟩ := List.mem_map.mp hk'
    obtain ⟨g1, g2⟩ := h.kk k0 hk0
    refine ⟨?_, g2⟩
    have d := (g1.drop h.nd (thGet_mem hr)).2
    have hnew : n ∉ (thDrop T.th n).map (·.1) := fun z => by
      obtain ⟨q, hq, e⟩ := List.mem_map.mp z
      exact (thDrop_mem.mp hq).2 e
    exact (d.put n f hnew).perm_th (thPut_perm h.nd hr).symm
  · show ((T.ks.map (Kr.change n r f)).map (·.cols)).Nodup
    rw [List.map_map]
    exact h.kn
  · show (T.ks.map (Kr.change n r f)).length ≤ 8
    rw [List.length_map]
    exact h.kl
def pr_Table_change (K : PySem.W.Frag) : Pr := q4 fun s c d e M nx _ => ∃ (T : Tb) (n col v : Int) (r : List Int), s = .ref T.p ∧ c = .int n ∧ d = .int col ∧ e = .int v ∧ TabAt K M T ∧ TabOk T ∧ thGet T.th n = some r ∧ 0 ≤ col ∧ col < T.w ∧ ∀ M', TStep K M M' T (T.change n r (r.set col.toNat v)) (thPut T.th n (r.set col.toNat v)) T.made (T.ks.map (·.cols)) → nx .non M'
section
variable {J : Jx} {ta tb tc td to : TE} {ρ : Ro} {M : Mp} {E : XK} {R : D → Mp → Prop} {x : D}
theorem w_Table_change {T : Tb} {n col v : Int} {r : List Int} (ho : Ev J to ρ M (.ref T.p)) (hb : Ev J tb ρ M (.int n)) (hc : Ev J tc ρ M (.int col)) (hd : Ev J td ρ M (.int v)) (hT : TabAt J.K M T) (hO : TabOk T) (hr : thGet T.th n = some r) (c0 : 0 ≤ col) (c1 : col < T.w) (k : ∀ M', TStep J.K M M' T (T.change n r (r.set col.toNat v)) (thPut T.th n (r.set col.toNat v)) T.made (T.ks.map (·.cols)) → R .non M') :
    W J (tMeth (He.ga J.K "Table") "change" (spD J.K (pr_Table_change J.K)) [] E to (tCons tb (tCons tc (tCons td tNil)))) ρ M R :=
  w_meth0 ho hT.ob (tf_no (by decide +kernel) (by decide +kernel) (by decide +kernel) (by decide +kernel)) (ea_cons hb (ea_cons hc (ea_cons hd ea_nil))) ⟨_, _, _, _, rfl, T, n, col, v, r, rfl, rfl, rfl, rfl, hT, hO, hr, c0, c1, k⟩
end
abbrev nm_Table_change : List Str := ["self", "number", "column", "value", "old", "fresh", "one"]
theorem sc_Table_change : FnScope nm_Table_change ["self", "number", "column", "value"] (defScope s_Table_change) := ⟨rfl, rfl, rfl, by decide +kernel, rfl, by decide +kernel, by decide +kernel⟩
theorem ok_Table_change (hTx : Tx K mg) : OkM P w K mg base CX0 4  (He.ma K (He.ga K "Table") "change") ["self", "number", "column", "value"] (pr_Table_change K) := by
  obtain ⟨_, G_Table_need_row, b_Table_need_row⟩ := ok_Table_need_row (P := P) (w := w) (base := base) hTx
  obtain ⟨_, G_is_whole, b_is_whole, k_is_whole, g_is_whole⟩ := ok_is_whole (P := P) (w := w) (base := base) hTx
  obtain ⟨_, G_Kept_drop, b_Kept_drop⟩ := ok_Kept_drop (P := P) (w := w) (base := base) hTx
  obtain ⟨_, G_Kept_put, b_Kept_put⟩ := ok_Kept_put (P := P) (w := w) (base := base) hTx
  obtain ⟨_, F⟩ := hTx.fnM 12 s_Table_change "Table" "change" "Table.change" 37
  refine ⟨_, ?_, F.binds (ps := ["self", "number", "column", "value"]) fun _ _ _ _ _ _ us hl => match us, hl with | [_, _, _, _], _ => rfl⟩
  refine fn_dl F sc_Table_change (fun _ _ _ _ h => q4_len h) (fun cdv A outer s H E hr => ⟨_, (pss_cons (ps_expr (pe_meth (pv 0) (hTx.cl 20) (hTx.me 21) G_Table_need_row (hr.mono (by decide)) b_Table_need_row .nil pass0 (pa_cons (pv 1) pa_nil)))
    (pss_cons (ps_if (PW.pt (pw_or (pt_not (pt_val (pe_call G_is_whole (hr.mono (by decide)) rfl g_is_whole k_is_whole b_is_whole .nil pass0 (pa_cons (pv 2) pa_nil)))) (pw_or1 (pt_not (pt_chain op_le op_lt pe_int (pv 2) (kx_fld (K := K) rfl (pv 0) rfl))))))
    (pss_one (ps_raise rfl takes0 (pmk_own PySem.F.excBase_ValueError (hTx.ex 23).1 (hTx.gl 24) (hTx.ex 23).2.1 (raises_own (hTx.ex 23).2.2.1 (hTx.ex 23).2.2.2) rfl)))
    pss_nil)
    (pss_cons (ps_if (pt_not (pt_val (pe_call G_is_whole (hr.mono (by decide)) rfl g_is_whole k_is_whole b_is_whole .nil pass0 (pa_cons (pv 3) pa_nil))))
    (pss_one (ps_raise rfl takes0 (pmk_own PySem.F.excBase_ValueError (hTx.ex 14).1 (hTx.gl 15) (hTx.ex 14).2.1 (raises_own (hTx.ex 14).2.2.1 (hTx.ex 14).2.2.2) rfl)))
    pss_nil)
    (pss_cons (ps_set (i := 4) sc_Table_change.nd rfl (Or.inl rfl) (pe_dget (hu_of hr) (kx_fld (K := K) rfl (pv 0) rfl) (pv 1) (fun _ _ => rfl)))
    (pss_cons (ps_set (i := 5) sc_Table_change.nd rfl (Or.inl rfl) (pe_callTy (kx_list (K := K) rfl) (by rfl) (hTx.fr 12) (by decide +kernel) (pa_cons (pv 4) pa_nil)))
    (pss_cons (ps_asg (pv 3) (pg_sub (pv 5) (pv 2) set_list))
    (pss_cons (ps_dput (hu_of hr) (kx_fld (K := K) rfl (pv 0) rfl) (pv 1) (pv 5) rfl)
    (pss_one (ps_for PassesOwn.never rfl (kx_plist (K := K) rfl (kx_fld (K := K) rfl (pv 0) rfl)) (pg_name (i := 6) sc_Table_change.nd rfl (Or.inl rfl))
    (pss_cons (ps_expr (pe_meth (pv 6) (hTx.cl 5) (hTx.me 22) G_Kept_drop (hr.mono (by decide)) b_Kept_drop .nil pass0 (pa_cons (pv 1) (pa_cons (pv 4) pa_nil))))
    (pss_one (ps_expr (pe_meth (pv 6) (hTx.cl 5) (hTx.me 19) G_Kept_put (hr.mono (by decide)) b_Kept_put .nil pass0 (pa_cons (pv 1) (pa_cons (pv 5) pa_nil))))))))))))))), ?_⟩)
  try dsimp only [cx_K, cx_nK]
  rintro _ M nx xe ⟨s, c, d, e, rfl, T, n, col, v, r, rfl, rfl, rfl, rfl, hT, hO, hr, c0, c1, k⟩
  show S (J0 K) _ [some (.ref T.p), some (.int n), some (.int col), some (.int v), none, none, none] M _
  refine s_seq (s_drop ((ev_Table_need_row (T := T) (n := n) (r := r) (ev_var rfl) hT (ev_var rfl) hr).w ?_))
  have B1 := hT.ob
  have B2 := hT.dc
  have B3 := hT.ka.li
  have hph : T.p ≠ T.hd := ne_mo B1 B2 (by intro z; cases z)
  refine s_seq (s_if (b := false) ?_ (fun z => nomatch z) (fun _ => s_next ?_))
  · refine (et_or (b := false) (c := false) (et_not (et_B (ev_is_wholeI (ev_var rfl)))) fun _ => et_not (b := true) ((et_test (ev_chainB (f := fun i j => decide (i ≤ j)) (g := fun i j => decide (i < j)) ev_int (ev_var rfl) (ev_fld (ev_var rfl) hT.ob (hTx.cl 20) (hTx.na 51) tf_width))).is ?_))
    rw [decide_eq_true c0, decide_eq_true c1]
    rfl
  refine s_seq (s_if (b := false) (et_not (et_B (ev_is_wholeI (ev_var rfl)))) (fun z => nomatch z) (fun _ => s_next ?_))
  have hrm := thGet_mem hr
  have hrl : r.length = T.w.toNat := hO.wi _ hrm
  refine s_seq (s_asgE (ev_dget (k := .inl n) (z := rowD r) (ev_fld (ev_var rfl) hT.ob (hTx.cl 20) (hTx.na 52) tf_held) (ev_var rfl) hT.dc (by rw [thD_val, hr]; rfl)) ?_)
  refine s_seq (s_asg ((en_list (ds := r.map .int) (ev_var rfl) .l).w fun h hh => ?_))
  have n1 : T.p ≠ h := ne_old B1 hh
  have n2 : T.hd ≠ h := ne_old B2 hh
  have ec : ((col.toNat : Nat) : Int) = col := Int.toNat_of_nonneg c0
  refine s_seq (s_setL (a := h) (k := col) (j := col.toNat) (ds := r.map .int) (x := .int v) (ev_var rfl) (ev_var rfl) (ev_var rfl) ud_same (by unfold ixN; rw [if_pos c0, if_pos (by rw [List.length_map]; omega)]) ?_)
  rw [ud_ud]
  refine s_freeze (a := h) (i := 5) ud_same rfl ?_
  rw [del_ud hh]
  have es : (r.map D.int).set col.toNat (.int v) = (r.set col.toNat v).map .int := List.map_set.symm
  rw [es]
  have hfl : ((r.set col.toNat v).length : Int) = T.w := by rw [List.length_set]; have := hO.w0; omega
  revert hfl k
  generalize r.set col.toNat v = f
  intro k hfl
  refine s_seq (s_dput (k := .inl n) (a := T.hd) (kvs := thD T.th) (x := rowD f) (ev_var rfl) (ev_fld (ev_var rfl) hT.ob (hTx.cl 20) (hTx.na 52) tf_held) (ev_var rfl) hT.dc (szl (by rw [thD_len]; have := hO.hl; omega)) ?_)
  show S _ _ _ (ud M T.hd (.dct (putA (thD T.th) (Sum.inl n) (rowD f)))) _
  rw [thD_put]
  have f2 : Frame M (ud M T.hd (.dct (thD (thPut T.th n f)))) T.adr := Frame.ud (by simp [Tb.adr])
  have g1 : (ud M T.hd (.dct (thD (thPut T.th n f)))) T.p = some (.ins (He.ga K "Table") (tf T.w T.hd T.made T.kl)) := by walk_at "led"
  have g2 : (ud M T.hd (.dct (thD (thPut T.th n f)))) T.hd = some (.dct (thD (thPut T.th n f))) := ud_same
  have g3 : KsAt K (ud M T.hd (.dct (thD (thPut T.th n f)))) T.kl T.ks := KsAt.hd hT
  revert f2 g1 g2 g3
  generalize (ud M T.hd (.dct (thD (thPut T.th n f)))) = M2
  intro f2 g1 g2 g3
  refine s_for (src_r (ev_fld (ev_var rfl) g1 (hTx.cl 20) (hTx.na 54) tf_kept) g3.li) (fun i ρ' M3 => Frame M M3 T.adr ∧ M3 T.p = some (.ins (He.ga K "Table") (tf T.w T.hd T.made T.kl)) ∧ M3 T.hd = some (.dct (thD (thPut T.th n f))) ∧ KsAt K M3 T.kl ((T.ks.take i).map (Kr.change n r f) ++ T.ks.drop i) ∧ ∃ b, ρ' = [some (.ref T.p), some (.int n), some (.int col), some (.int v), some (rowD r), some (rowD f), b]) ⟨f2, g1, g2, g3, _, rfl⟩ (fun i ρ' M3 h => by
    rw [h.2.2.2.1.li, List.map_append, List.map_map]
    show some (MO.lst ((T.ks.take i).map (fun k => D.ref k.p) ++ (T.ks.drop i).map fun k => D.ref k.p)) = _
    rw [← List.map_append, List.take_append_drop]) ?_ ?_
  · rintro i d ρ' M3 hdd ⟨q1, q2, q3, q4, b, rfl⟩
    obtain ⟨kr, hkr, rfl⟩ := get_map hdd
    have hkm := List.mem_of_getElem? hkr
    obtain ⟨o1, o2⟩ := hO.kk kr hkm
    refine sg_name ?_
    rw [drop_at hkr] at q4
    have hka := q4.ke kr (by simp)
    have hcl := o2.len hO.w1
    have hnl : kr.l ≠ T.p := ne_mo hka.en q2 (by intro z; cases z)
    have hnh : kr.l ≠ T.hd := ne_mo hka.en q3 (by intro z; cases z)
    have hmem : kr.l ∈ T.adr := by simp only [Tb.adr, List.mem_cons]; exact .inr (.inr (.inr (List.mem_map_of_mem (f := (·.l)) hkm)))
    have hes : kr.es.length ≤ 200 := by rw [o1.len]; exact hO.hl
    refine s_seq (s_drop (w_Kept_drop (p := kr.p) (l := kr.l) (cols := kr.cols) (row := r) (es := kr.es) (num := n) (ev_var rfl) hka (ev_var rfl) (ev_var rfl) .l (fun c hc => by have := o2.1 c hc; omega) (by omega) o1.rising (by omega) (o1.drop hO.nd hrm).1 ?_))
    have q4' := q4.set (es := remE kr.es (entryM kr.cols n r))
    have hka' := q4'.ke { kr with es := remE kr.es (entryM kr.cols n r) } (by simp)
    have od := (o1.drop hO.nd hrm).2
    have hdl : (thDrop T.th n).length ≤ 200 := Nat.le_trans (List.length_filter_le _ _) hO.hl
    refine s_drop (w_Kept_put (p := kr.p) (l := kr.l) (cols := kr.cols) (row := f) (es := remE kr.es (entryM kr.cols n r)) (num := n) (ev_var rfl) hka' (ev_var rfl) (ev_var rfl) .l (fun c hc => by have := o2.1 c hc; omega) (by omega) od.rising (by rw [od.len]; omega) ?_)
    refine ⟨(q1.trans (Frame.ud hmem)).trans (Frame.ud hmem), by walk_at "led", by walk_at "led", ?_, _, rfl⟩
    have tk : T.ks.take (i + 1) = T.ks.take i ++ [kr] := by
      obtain ⟨hl, e⟩ := List.getElem?_eq_some_iff.mp hkr
      rw [← e]
      exact (List.take_append_getElem hl).symm
    rw [tk, List.map_append, List.append_assoc]
    exact q4'.set
  · rintro ρ' M3 ⟨q1, q2, q3, q4, b, rfl⟩
    rw [List.length_map, List.take_length, List.drop_length, List.append_nil] at q4
    refine k M3 ⟨⟨q2, q3, q4⟩, Tb.change_ok hO hr hfl, rfl, rfl, rfl, ?_, rfl, q1, fun x hx => .inl (by rw [Tb.change_adr] at hx; exact hx)⟩
    show (T.ks.map (Kr.change n r f)).map (·.cols) = _
    rw [List.map_map]
    rfl

/-- no column of that number -/
def ColNo (T : Tb) (c : D) : Prop := ∀ n, c = .int n → ¬ (0 ≤ n ∧ n < T.w)
theorem col_cases (T : Tb) (c : D) : ColNo T c ∨ ∃ n, c = .int n ∧ 0 ≤ n ∧ n < T.w := by
  rcases whole_cases c with h | ⟨n, rfl⟩
  · exact .inl fun n e => by rw [e] at h; cases h
  · by_cases q : 0 ≤ n ∧ n < T.w
    · exact .inr ⟨n, rfl, q.1, q.2⟩
    · exact .inl fun m e => by cases e; exact q
/-- why a change is refused -/
def ChNo (K : PySem.W.Frag) (M : Mp) (T : Tb) (c d e : D) (xe : Addr → Mp → Prop) : Prop :=
  (tyN M c ≠ "" ∧ RowNo T c ∧ xe (He.ga K "NoRow") M) ∨ ∃ n r, c = .int n ∧ thGet T.th n = some r ∧ ((tyN M d ≠ "" ∧ ColNo T d ∧ xe (He.ga K "BadColumn") M) ∨ ∃ m, d = .int m ∧ 0 ≤ m ∧ m < T.w ∧ tyN M e ≠ "" ∧ wholeD e = false ∧ xe (He.ga K "BadRow") M)
def pr_Table_change_x (K : PySem.W.Frag) : Pr := q4 fun s c d e M _ xe => ∃ (T : Tb), s = .ref T.p ∧ TabAt K M T ∧ ChNo K M T c d e xe
theorem ok_Table_change_x (hTx : Tx K mg) : OkM P w K mg base (L2.CX P w) 3  (He.ma K (He.ga K "Table") "change") ["self", "number", "column", "value"] (pr_Table_change_x K) := by
  obtain ⟨_, G_Table_need_row, b_Table_need_row⟩ := ok_Table_need_row (P := P) (w := w) (base := base) hTx
  obtain ⟨_, G_Table_need_row_x, b_Table_need_row_x⟩ := ok_Table_need_row_x (P := P) (w := w) (base := base) hTx
  obtain ⟨_, G_is_whole, b_is_whole, k_is_whole, g_is_whole⟩ := ok_is_whole (P := P) (w := w) (base := base) hTx
  obtain ⟨_, F⟩ := hTx.fnM 12 s_Table_change "Table" "change" "Table.change" 37
  refine ⟨_, ?_, F.binds (ps := ["self", "number", "column", "value"]) fun _ _ _ _ _ _ us hl => match us, hl with | [_, _, _, _], _ => rfl⟩
  refine fn_dlX F sc_Table_change (fun _ _ _ _ h => q4_len h) (fun cdv A outer s H E hr => ⟨_, (pss_cons (ps_expr (pe_ei (pe_meth (pv 0) (hTx.cl 20) (hTx.me 21) G_Table_need_row (hr.mono (by decide)) b_Table_need_row .nil pass0 (pa_cons (pv 1) pa_nil)) (pe_meth (pv 0) (hTx.cl 20) (hTx.me 21) G_Table_need_row_x (hr.mono (by decide)) b_Table_need_row_x .nil (passes_call (takes_of rfl rfl rfl rfl) (fun _ _ _ _ z => z)) (pa_cons (pv 1) pa_nil))))
    (pss_cons (ps_if (PW.pt (pw_or (pt_not (pt_val (pe_call G_is_whole (hr.mono (by decide)) rfl g_is_whole k_is_whole b_is_whole .nil pass0 (pa_cons (pv 2) pa_nil)))) (pw_or1 (pt_not (pt_chain op_le op_lt pe_int (pv 2) (kx_fld (K := K) rfl (pv 0) rfl))))))
    (pss_one (ps_raise rfl (takes_of rfl rfl rfl rfl) (pmk_own PySem.F.excBase_ValueError (hTx.ex 23).1 (hTx.gl 24) (hTx.ex 23).2.1 (raises_own (hTx.ex 23).2.2.1 (hTx.ex 23).2.2.2) rfl)))
    pss_nil)
    (pss_cons (ps_if (pt_not (pt_val (pe_call G_is_whole (hr.mono (by decide)) rfl g_is_whole k_is_whole b_is_whole .nil pass0 (pa_cons (pv 3) pa_nil))))
    (pss_one (ps_raise rfl (takes_of rfl rfl rfl rfl) (pmk_own PySem.F.excBase_ValueError (hTx.ex 14).1 (hTx.gl 15) (hTx.ex 14).2.1 (raises_own (hTx.ex 14).2.2.1 (hTx.ex 14).2.2.2) rfl)))
    pss_nil)
    (pss_cons ps_never
    (pss_cons ps_never
    (pss_cons ps_never
    (pss_cons ps_never
    (pss_one ps_never)))))))), ?_⟩)
  try dsimp only [cx_K, cx_nK]
  rintro _ M nx xe ⟨s, c, d, e, rfl, T, rfl, hT, hx⟩
  show S (JX K E xe) _ [some (.ref T.p), some c, some d, some e, none, none, none] M _
  have hwd : ∀ ρ' : Ro, ρ'[0]? = some (some (.ref T.p)) → Ev (JX K E xe) (tFld K (tVar 0) "width") ρ' M (.int T.w) := fun ρ' h => ev_fld (ev_var h) hT.ob (hTx.cl 20) (hTx.na 51) tf_width
  rcases hx with ⟨ht, hn, hx⟩ | ⟨n, r, rfl, hr, hx⟩
  · exact s_seq (s_drop (w_ei2 (w_Table_need_row_x (T := T) (ev_var rfl) hT (ev_var rfl) ht hn hx)))
  refine s_seq (s_drop (w_ei1 ((ev_Table_need_row (T := T) (n := n) (r := r) (ev_var rfl) hT (ev_var rfl) hr).w ?_)))
  rcases hx with ⟨ht, hn, hx⟩ | ⟨m, rfl, m0, m1, ht, hv, hx⟩
  · refine s_seq (s_if (b := true) ?_ (fun _ => s_raise hx (fun _ _ _ z => z)) (fun z => nomatch z))
    rcases whole_cases d with h | ⟨m, rfl⟩
    · exact (et_or (b := true) (c := false) (et_not (b := false) ((et_B (ev_is_whole (ev_var rfl) ht)).is h)) fun z => nomatch z)
    · refine (et_or (b := false) (c := true) (et_not (et_B (ev_is_wholeI (ev_var rfl)))) fun _ => et_not (b := false) ((et_test (ev_chainB (f := fun i j => decide (i ≤ j)) (g := fun i j => decide (i < j)) ev_int (ev_var rfl) (hwd _ rfl))).is ?_))
      have := hn m rfl
      rw [Bool.eq_false_iff]
      intro z
      rw [Bool.and_eq_true] at z
      exact this ⟨of_decide_eq_true z.1, of_decide_eq_true z.2⟩
  · refine s_seq (s_if (b := false) ?_ (fun z => nomatch z) (fun _ => s_next ?_))
    · refine (et_or (b := false) (c := false) (et_not (et_B (ev_is_wholeI (ev_var rfl)))) fun _ => et_not (b := true) ((et_test (ev_chainB (f := fun i j => decide (i ≤ j)) (g := fun i j => decide (i < j)) ev_int (ev_var rfl) (hwd _ rfl))).is ?_))
      rw [decide_eq_true m0, decide_eq_true m1]
      rfl
    · refine s_seq (s_if (b := true) ?_ (fun _ => s_raise hx (fun _ _ _ z => z)) (fun z => nomatch z))
      exact et_not (b := false) ((et_B (ev_is_whole (ev_var rfl) ht)).is hv)

def pr_Table_row (K : PySem.W.Frag) : Pr := q2 fun s c M nx _ => ∃ (T : Tb) (n : Int) (r : List Int), s = .ref T.p ∧ c = .int n ∧ TabAt K M T ∧ thGet T.th n = some r ∧ nx (.tup (r.map .int)) M
section
variable {J : Jx} {ta tb to : TE} {ρ : Ro} {M : Mp} {E : XK}
theorem ev_Table_row {T : Tb} {n : Int} {r : List Int} (ho : Ev J to ρ M (.ref T.p)) (hT : TabAt J.K M T) (hb : Ev J tb ρ M (.int n)) (hr : thGet T.th n = some r) :
    Ev J (tMeth (He.ga J.K "Table") "row" (spD J.K (pr_Table_row J.K)) [] E to (tCons tb tNil)) ρ M (.tup (r.map .int)) :=
  w_meth0 ho hT.ob (tf_no (by decide +kernel) (by decide +kernel) (by decide +kernel) (by decide +kernel)) (ea_cons hb ea_nil) ⟨_, _, rfl, T, n, r, rfl, rfl, hT, hr, rfl, rfl⟩
end
abbrev nm_Table_row : List Str := ["self", "number"]
theorem sc_Table_row : FnScope nm_Table_row ["self", "number"] (defScope s_Table_row) := ⟨rfl, rfl, rfl, by decide +kernel, rfl, by decide +kernel, by decide +kernel⟩
theorem ok_Table_row (hTx : Tx K mg) : OkM P w K mg base CX0 3  (He.ma K (He.ga K "Table") "row") ["self", "number"] (pr_Table_row K) := by
  obtain ⟨_, G_Table_need_row, b_Table_need_row⟩ := ok_Table_need_row (P := P) (w := w) (base := base) hTx
  obtain ⟨_, F⟩ := hTx.fnM 13 s_Table_row "Table" "row" "Table.row" 38
  refine ⟨_, ?_, F.binds (ps := ["self", "number"]) fun _ _ _ _ _ _ us hl => match us, hl with | [_, _], _ => rfl⟩
  refine fn_dl F sc_Table_row (fun _ _ _ _ h => q2_len h) (fun cdv A outer s H E hr => ⟨_, (pss_cons (ps_expr (pe_meth (pv 0) (hTx.cl 20) (hTx.me 21) G_Table_need_row (hr.mono (by decide)) b_Table_need_row .nil pass0 (pa_cons (pv 1) pa_nil)))
    (pss_one (ps_ret (pe_callTy (kx_tuple (K := K) rfl) (by rfl) (hTx.fr 13) (by decide +kernel) (pa_cons (pe_dget (hu_of hr) (kx_fld (K := K) rfl (pv 0) rfl) (pv 1) (fun _ _ => rfl)) pa_nil))))), ?_⟩)
  try dsimp only [cx_K, cx_nK]
  rintro _ M nx xe ⟨s, c, rfl, T, n, r, rfl, rfl, hT, hr, k⟩
  refine s_seq (s_drop ((ev_Table_need_row (T := T) (n := n) (r := r) (ev_var rfl) hT (ev_var rfl) hr).w ?_))
  exact s_retE (ev_tuple (ds := r.map .int) (ev_dget (k := .inl n) (z := rowD r) (ev_fld (ev_var rfl) hT.ob (hTx.cl 20) (hTx.na 52) tf_held) (ev_var rfl) hT.dc (by rw [thD_val, hr]; rfl)) IsL.l.q) k

def pr_Table_row_x (K : PySem.W.Frag) : Pr := q2 fun s c M _ xe => ∃ (T : Tb), s = .ref T.p ∧ TabAt K M T ∧ tyN M c ≠ "" ∧ RowNo T c ∧ xe (He.ga K "NoRow") M
theorem ok_Table_row_x (hTx : Tx K mg) : OkM P w K mg base (L2.CX P w) 3  (He.ma K (He.ga K "Table") "row") ["self", "number"] (pr_Table_row_x K) := by
  obtain ⟨_, G_Table_need_row, b_Table_need_row⟩ := ok_Table_need_row (P := P) (w := w) (base := base) hTx
  obtain ⟨_, G_Table_need_row_x, b_Table_need_row_x⟩ := ok_Table_need_row_x (P := P) (w := w) (base := base) hTx
  obtain ⟨_, F⟩ := hTx.fnM 13 s_Table_row "Table" "row" "Table.row" 38
  refine ⟨_, ?_, F.binds (ps := ["self", "number"]) fun _ _ _ _ _ _ us hl => match us, hl with | [_, _], _ => rfl⟩
  refine fn_dlX F sc_Table_row (fun _ _ _ _ h => q2_len h) (fun cdv A outer s H E hr => ⟨_, (pss_cons (ps_expr (pe_ei (pe_meth (pv 0) (hTx.cl 20) (hTx.me 21) G_Table_need_row (hr.mono (by decide)) b_Table_need_row .nil pass0 (pa_cons (pv 1) pa_nil)) (pe_meth (pv 0) (hTx.cl 20) (hTx.me 21) G_Table_need_row_x (hr.mono (by decide)) b_Table_need_row_x .nil (passes_call (takes_of rfl rfl rfl rfl) (fun _ _ _ _ z => z)) (pa_cons (pv 1) pa_nil))))
    (pss_one ps_never)), ?_⟩)
  try dsimp only [cx_K, cx_nK]
  rintro _ M nx xe ⟨s, c, rfl, T, rfl, hT, ht, hn, hx⟩
  show S (JX K E xe) _ [some (.ref T.p), some c] M _
  exact s_seq (s_drop (w_ei2 (w_Table_need_row_x (T := T) (ev_var rfl) hT (ev_var rfl) ht hn hx)))

def pr_Table_numbers (K : PySem.W.Frag) : Pr := q1 fun s M nx _ => ∃ (T : Tb), s = .ref T.p ∧ TabAt K M T ∧ ∀ q, M q = none → nx (.ref q) (ud M q (.lst ((srtI (T.th.map (·.1))).map .int)))
section
variable {J : Jx} {ta tb to : TE} {ρ : Ro} {M : Mp} {E : XK}
theorem en_Table_numbers {T : Tb} (ho : Ev J to ρ M (.ref T.p)) (hT : TabAt J.K M T) :
    EvN J (tMeth (He.ga J.K "Table") "numbers" (spD J.K (pr_Table_numbers J.K)) [] E to tNil) ρ M ((srtI (T.th.map (·.1))).map .int) :=
  w_meth0 ho hT.ob (tf_no (by decide +kernel) (by decide +kernel) (by decide +kernel) (by decide +kernel)) ea_nil ⟨_, rfl, T, rfl, hT, fun q hq => ⟨q, hq, rfl, rfl⟩⟩
end
abbrev nm_Table_numbers : List Str := ["self"]
theorem sc_Table_numbers : FnScope nm_Table_numbers ["self"] (defScope s_Table_numbers) := ⟨rfl, rfl, rfl, by decide +kernel, rfl, by decide +kernel, by decide +kernel⟩
theorem ok_Table_numbers (hTx : Tx K mg) : OkM P w K mg base CX0 1  (He.ma K (He.ga K "Table") "numbers") ["self"] (pr_Table_numbers K) := by
  obtain ⟨_, F⟩ := hTx.fnM 14 s_Table_numbers "Table" "numbers" "Table.numbers" 34
  refine ⟨_, ?_, F.binds (ps := ["self"]) fun _ _ _ _ _ _ us hl => match us, hl with | [_], _ => rfl⟩
  refine fn_dl F sc_Table_numbers (fun _ _ _ _ h => q1_len h) (fun cdv A outer s H E hr => ⟨_, (pss_one (ps_ret (pe_sortedKeys rfl (kx_fld (K := K) rfl (pv 0) rfl) (by rfl) (hTx.fr 25) (by decide +kernel)))), ?_⟩)
  try dsimp only [cx_K, cx_nK]
  rintro _ M nx xe ⟨s, rfl, T, rfl, hT, k⟩
  exact s_ret ((en_thKeys (ev_fld (ev_var rfl) hT.ob (hTx.cl 20) (hTx.na 52) tf_held) hT.dc).w k)

def pr_Table_need_order (K : PySem.W.Frag) : Pr := q2 fun s c M nx _ => ∃ (T : Tb) (cols : List Int), s = .ref T.p ∧ c = .tup (cols.map .int) ∧ TabAt K M T ∧ T.w ≤ 6 ∧ ColOk cols T.w ∧ nx .non M
section
variable {J : Jx} {ta tb to : TE} {ρ : Ro} {M : Mp} {E : XK}
theorem ev_Table_need_order {T : Tb} {cols : List Int} (ho : Ev J to ρ M (.ref T.p)) (hT : TabAt J.K M T) (hb : Ev J tb ρ M (.tup (cols.map .int))) (hw : T.w ≤ 6) (hc : ColOk cols T.w) :
    Ev J (tMeth (He.ga J.K "Table") "need_order" (spD J.K (pr_Table_need_order J.K)) [] E to (tCons tb tNil)) ρ M .non :=
  w_meth0 ho hT.ob (tf_no (by decide +kernel) (by decide +kernel) (by decide +kernel) (by decide +kernel)) (ea_cons hb ea_nil) ⟨_, _, rfl, T, cols, rfl, rfl, hT, hw, hc, rfl, rfl⟩
end
abbrev nm_Table_need_order : List Str := ["self", "order", "column"]
theorem sc_Table_need_order : FnScope nm_Table_need_order ["self", "order"] (defScope s_Table_need_order) := ⟨rfl, rfl, rfl, by decide +kernel, rfl, by decide +kernel, by decide +kernel⟩
theorem ok_Table_need_order (hTx : Tx K mg) : OkM P w K mg base CX0 2  (He.ma K (He.ga K "Table") "need_order") ["self", "order"] (pr_Table_need_order K) := by
  obtain ⟨_, G_is_whole, b_is_whole, k_is_whole, g_is_whole⟩ := ok_is_whole (P := P) (w := w) (base := base) hTx
  obtain ⟨_, F⟩ := hTx.fnM 15 s_Table_need_order "Table" "need_order" "Table.need_order" 29
  refine ⟨_, ?_, F.binds (ps := ["self", "order"]) fun _ _ _ _ _ _ us hl => match us, hl with | [_, _], _ => rfl⟩
  refine fn_dl F sc_Table_need_order (fun _ _ _ _ h => q2_len h) (fun cdv A outer s H E hr => ⟨_, (pss_cons (ps_if (PW.pt (pw_or (pt_not (pt_val (pe_callB (kx_isi (K := K) rfl) (by rfl) (hTx.fr 3) (by decide +kernel) (pa_cons (pv 1) (pa_cons (pe_bltn (v := .ty "tuple") (by rfl) (hTx.fr 13) (by decide +kernel) rfl) pa_nil))))) (pw_or1 (pt_cmpR op_eq (pe_callB (kx_len (K := K) rfl) (by rfl) (hTx.fr 1) (by decide +kernel) (pa_cons (pv 1) pa_nil)) pe_int (nomark _)))))
    (pss_one (ps_raise rfl takes0 (pmk_own PySem.F.excBase_ValueError (hTx.ex 26).1 (hTx.gl 27) (hTx.ex 26).2.1 (raises_own (hTx.ex 26).2.2.1 (hTx.ex 26).2.2.2) rfl)))
    pss_nil)
    (pss_cons (ps_for PassesOwn.never rfl (kx_ptup (K := K) rfl (pv 1)) (pg_name (i := 2) sc_Table_need_order.nd rfl (Or.inl rfl))
    (pss_one (ps_if (PW.pt (pw_or (pt_not (pt_val (pe_call G_is_whole (hr.mono (by decide)) rfl g_is_whole k_is_whole b_is_whole .nil pass0 (pa_cons (pv 2) pa_nil)))) (pw_or1 (pt_not (pt_chain op_le op_lt pe_int (pv 2) (kx_fld (K := K) rfl (pv 0) rfl))))))
    (pss_one (ps_raise rfl takes0 (pmk_own PySem.F.excBase_ValueError (hTx.ex 26).1 (hTx.gl 27) (hTx.ex 26).2.1 (raises_own (hTx.ex 26).2.2.1 (hTx.ex 26).2.2.2) rfl)))
    pss_nil)))
    (pss_one (ps_if (pt_cmpR op_ne (pe_lenSetT rfl (by rfl) (hTx.fr 1) (by rfl) (hTx.fr 28) (pv 1)) (pe_callB (kx_len (K := K) rfl) (by rfl) (hTx.fr 1) (by decide +kernel) (pa_cons (pv 1) pa_nil)) (nomark _))
    (pss_one (ps_raise rfl takes0 (pmk_own PySem.F.excBase_ValueError (hTx.ex 26).1 (hTx.gl 27) (hTx.ex 26).2.1 (raises_own (hTx.ex 26).2.2.1 (hTx.ex 26).2.2.2) rfl)))
    pss_nil)))), ?_⟩)
  try dsimp only [cx_K, cx_nK]
  rintro _ M nx xe ⟨s, c, rfl, T, cols, rfl, rfl, hT, hw, hc, k⟩
  refine s_seq (s_if (b := false) ?_ (fun z => nomatch z) (fun _ => s_next ?_))
  · refine (et_or (b := false) (c := false) ?_ fun _ => ?_)
    · exact (et_not (et_B (ev_isiT (b := true) "tuple" (ev_var rfl) ev_ty rfl (by decide +kernel) (by decide))))
    · refine (et_test (ev_eqI (ev_len (ev_var rfl) .t) ev_int)).is ?_
      rw [List.length_map]
      have := List.length_pos_iff.mpr hc.2.2
      exact decide_eq_false (by omega)
  refine s_seq (s_for (src_t (ev_var rfl)) (fun i ρ' M' => M' = M ∧ ∃ a, ρ' = [some (.ref T.p), some (.tup (cols.map .int)), a]) ⟨rfl, none, rfl⟩ (fun _ _ _ _ => trivial) ?_ ?_)
  · rintro i d ρ' M' hdd ⟨rfl, a, rfl⟩
    obtain ⟨col, hcol, rfl⟩ := get_int hdd
    obtain ⟨c0, c1⟩ := hc.1 col (List.mem_of_getElem? hcol)
    refine sg_name ?_
    refine s_if (b := false) ?_ (fun z => nomatch z) (fun _ => s_next ⟨rfl, _, rfl⟩)
    refine (et_or (b := false) (c := false) (et_not (et_B (ev_is_wholeI (ev_var rfl)))) fun _ => et_not (b := true) ((et_test (ev_chainB (f := fun i j => decide (i ≤ j)) (g := fun i j => decide (i < j)) ev_int (ev_var rfl) (ev_fld (ev_var rfl) hT.ob (hTx.cl 20) (hTx.na 51) tf_width))).is ?_))
    rw [decide_eq_true c0, decide_eq_true c1]
    rfl
  rintro ρ' M' ⟨rfl, a, rfl⟩
  refine s_if (b := false) ?_ (fun z => nomatch z) (fun _ => s_next k)
  refine (et_test (ev_neI (ev_lenSet (ev_var rfl) (by have := hc.len hw; omega) hc.2.1) (ev_len (ev_var rfl) .t))).is ?_
  rw [List.length_map]
  simp

abbrev ordD (cols : List Int) : D := .tup (cols.map .int)
def pr_Table_orders (K : PySem.W.Frag) : Pr := q1 fun s M nx _ => ∃ (T : Tb), s = .ref T.p ∧ TabAt K M T ∧ T.ks.length ≤ 1000 ∧ ∀ q, M q = none → nx (.ref q) (ud M q (.lst ((T.ks.map (·.cols)).map ordD)))
section
variable {J : Jx} {ta tb to : TE} {ρ : Ro} {M : Mp} {E : XK}
theorem en_Table_orders {T : Tb} (ho : Ev J to ρ M (.ref T.p)) (hT : TabAt J.K M T) (hl : T.ks.length ≤ 1000) :
    EvN J (tMeth (He.ga J.K "Table") "orders" (spD J.K (pr_Table_orders J.K)) [] E to tNil) ρ M ((T.ks.map (·.cols)).map ordD) :=
  w_meth0 ho hT.ob (tf_no (by decide +kernel) (by decide +kernel) (by decide +kernel) (by decide +kernel)) ea_nil ⟨_, rfl, T, rfl, hT, hl, fun q hq => ⟨q, hq, rfl, rfl⟩⟩
end
abbrev nm_Table_orders : List Str := ["self", "one"]
theorem sc_Table_orders : FnScope nm_Table_orders ["self"] (defScope s_Table_orders) := ⟨rfl, rfl, rfl, by decide +kernel, rfl, by decide +kernel, by decide +kernel⟩
theorem ok_Table_orders (hTx : Tx K mg) : OkM P w K mg base CX0 1  (He.ma K (He.ga K "Table") "orders") ["self"] (pr_Table_orders K) := by
  obtain ⟨_, F⟩ := hTx.fnM 16 s_Table_orders "Table" "orders" "Table.orders" 30
  refine ⟨_, ?_, F.binds (ps := ["self"]) fun _ _ _ _ _ _ us hl => match us, hl with | [_], _ => rfl⟩
  refine fn_dl F sc_Table_orders (fun _ _ _ _ h => q1_len h) (fun cdv A outer s H E hr => ⟨_, (pss_one (ps_ret (pe_lc (own := [("one", 1)]) (g := gName 1) rfl sc_Table_orders.nd (kx_plist (K := K) rfl (kx_fld (K := K) rfl (pv 0) rfl)) (blkOk_by (N := nm_Table_orders) (sc := defScope s_Table_orders) (own := [("one", 1)]) (by decide +kernel)) (fun _ _ _ _ _ => pg_name (i := 1) sc_Table_orders.nd rfl (Or.inl rfl)) (fun _ _ _ _ _ => pts_nil) (fun _ _ _ _ _ => (kx_fld (K := K) rfl (pv 1) rfl))))), ?_⟩)
  try dsimp only [cx_K, cx_nK]
  rintro _ M nx xe ⟨s, rfl, T, rfl, hT, hl, k⟩
  refine s_ret (EvN.w (EvN.is (en_lc1 T.ks (fun k => D.ref k.p) (fun k => ordD k.cols) (src_r (ev_fld (ev_var rfl) hT.ob (hTx.cl 20) (hTx.na 54) tf_kept) hT.ka.li) (fun M' sb => sb _ _ hT.ka.li) (szl (by omega)) fun M1 q sb hq => ?_) (by rw [List.map_map] <;> rfl)) k)
  exact ev_fld (ev_var rfl) (sb _ _ (hT.ka.ke q hq).ob) (hTx.cl 5) (hTx.na 47) (kf_cols _ _)

def pr_Table_tell (K : PySem.W.Frag) : Pr := q2 fun s c M nx _ => ∃ (T : Tb) (cols : List Int), s = .ref T.p ∧ c = .tup (cols.map .int) ∧ TabAt K M T ∧ TabOk T ∧ ColOk cols T.w ∧ cols ∉ T.ks.map (·.cols) ∧ T.ks.length < 8 ∧ ∀ M' T', TStep K M M' T T' T.th T.made (T.ks.map (·.cols) ++ [cols]) → nx .non M'
section
variable {J : Jx} {ta tb to : TE} {ρ : Ro} {M : Mp} {E : XK} {R : D → Mp → Prop}
theorem w_Table_tell {T : Tb} {cols : List Int} (ho : Ev J to ρ M (.ref T.p)) (hb : Ev J tb ρ M (.tup (cols.map .int))) (hT : TabAt J.K M T) (hO : TabOk T) (hc : ColOk cols T.w) (hn : cols ∉ T.ks.map (·.cols)) (hl : T.ks.length < 8) (k : ∀ M' T', TStep J.K M M' T T' T.th T.made (T.ks.map (·.cols) ++ [cols]) → R .non M') :
    W J (tMeth (He.ga J.K "Table") "tell" (spD J.K (pr_Table_tell J.K)) [] E to (tCons tb tNil)) ρ M R :=
  w_meth0 ho hT.ob (tf_no (by decide +kernel) (by decide +kernel) (by decide +kernel) (by decide +kernel)) (ea_cons hb ea_nil) ⟨_, _, rfl, T, cols, rfl, rfl, hT, hO, hc, hn, hl, k⟩
end
def thOf (th : Th) (ns : List Int) : Th := ns.map fun n => (n, (thGet th n).getD [])
theorem thOf_perm {th : Th} (h : (th.map (·.1)).Nodup) {ns : List Int} (hp : ns.Perm (th.map (·.1))) : (thOf th ns).Perm th := by
  have p1 := hp.map fun n => (n, (thGet th n).getD [])
  refine p1.trans (List.Perm.of_eq ?_)
  rw [List.map_map]
  conv => rhs; rw [← List.map_id th]
  refine List.map_congr_left fun p hpm => ?_
  show (p.1, (thGet th p.1).getD []) = p
  rw [thGet_of h (show (p.1, p.2) ∈ th from hpm)]
  rfl
abbrev nm_Table_tell : List Str := ["self", "order", "made", "number"]
theorem sc_Table_tell : FnScope nm_Table_tell ["self", "order"] (defScope s_Table_tell) := ⟨rfl, rfl, rfl, by decide +kernel, rfl, by decide +kernel, by decide +kernel⟩
theorem ok_Table_tell (hTx : Tx K mg) : OkM P w K mg base CX0 4  (He.ma K (He.ga K "Table") "tell") ["self", "order"] (pr_Table_tell K) := by
  obtain ⟨_, G_Table_need_order, b_Table_need_order⟩ := ok_Table_need_order (P := P) (w := w) (base := base) hTx
  obtain ⟨_, G_Table_orders, b_Table_orders⟩ := ok_Table_orders (P := P) (w := w) (base := base) hTx
  obtain ⟨_, G_Kept_init, b_Kept_init⟩ := ok_Kept_init (P := P) (w := w) (base := base) hTx
  obtain ⟨_, G_Table_numbers, b_Table_numbers⟩ := ok_Table_numbers (P := P) (w := w) (base := base) hTx
  obtain ⟨_, G_Kept_put, b_Kept_put⟩ := ok_Kept_put (P := P) (w := w) (base := base) hTx
  obtain ⟨_, F⟩ := hTx.fnM 17 s_Table_tell "Table" "tell" "Table.tell" 56
  refine ⟨_, ?_, F.binds (ps := ["self", "order"]) fun _ _ _ _ _ _ us hl => match us, hl with | [_, _], _ => rfl⟩
  refine fn_dl F sc_Table_tell (fun _ _ _ _ h => q2_len h) (fun cdv A outer s H E hr => ⟨_, (pss_cons (ps_expr (pe_meth (pv 0) (hTx.cl 20) (hTx.me 29) G_Table_need_order (hr.mono (by decide)) b_Table_need_order .nil pass0 (pa_cons (pv 1) pa_nil)))
    (pss_cons (ps_if (pt_cmpR (kx_inD (K := K) rfl (hu65 hr)) (pv 1) (pe_meth0 (pv 0) (hTx.cl 20) (hTx.me 30) G_Table_orders (hr.mono (by decide)) b_Table_orders .nil pass0) (by rfl))
    (pss_one (ps_raise rfl takes0 (pmk_own PySem.F.excBase_ValueError (hTx.ex 26).1 (hTx.gl 27) (hTx.ex 26).2.1 (raises_own (hTx.ex 26).2.2.1 (hTx.ex 26).2.2.2) rfl)))
    pss_nil)
    (pss_cons (ps_if (pt_cmpR op_eq (pe_callB (kx_len (K := K) rfl) (by rfl) (hTx.fr 1) (by decide +kernel) (pa_cons (kx_fld (K := K) rfl (pv 0) rfl) pa_nil)) (pe_glob (v := .int 8) rfl (hTx.gi 31).choose_spec ⟨_, rfl⟩) (nomark _))
    (pss_one (ps_raise rfl takes0 (pmk_own PySem.F.excBase_ValueError (hTx.ex 26).1 (hTx.gl 27) (hTx.ex 26).2.1 (raises_own (hTx.ex 26).2.2.1 (hTx.ex 26).2.2.2) rfl)))
    pss_nil)
    (pss_cons (ps_set (i := 2) sc_Table_tell.nd rfl (Or.inl rfl) (pe_make (hTx.mr 32) G_Kept_init (hr.mono (by decide)) rfl (hTx.gl 33) b_Kept_init .nil pass0 (pa_cons (pv 1) pa_nil)))
    (pss_cons (ps_for PassesOwn.never rfl (kx_plist (K := K) rfl (pe_meth0 (pv 0) (hTx.cl 20) (hTx.me 34) G_Table_numbers (hr.mono (by decide)) b_Table_numbers .nil pass0)) (pg_name (i := 3) sc_Table_tell.nd rfl (Or.inl rfl))
    (pss_one (ps_expr (pe_meth (pv 2) (hTx.cl 5) (hTx.me 19) G_Kept_put (hr.mono (by decide)) b_Kept_put .nil pass0 (pa_cons (pv 3) (pa_cons (pe_dget (hu_of hr) (kx_fld (K := K) rfl (pv 0) rfl) (pv 3) (fun _ _ => rfl)) pa_nil))))))
    (pss_one (ps_expr (pe_bm PySem.F.plainAttrs_list PySem.F.slot_list_append PySem.F.type_list_append mt_append (kx_fld (K := K) rfl (pv 0) rfl) (pa_cons (pv 2) pa_nil))))))))), ?_⟩)
  try dsimp only [cx_K, cx_nK]
  rintro _ M nx xe ⟨s, c, rfl, T, cols, rfl, rfl, hT, hO, hc, hn, hl, k⟩
  show S (J0 K) _ [some (.ref T.p), some (.tup (cols.map .int)), none, none] M _
  refine s_seq (s_drop ((ev_Table_need_order (T := T) (cols := cols) (ev_var rfl) hT (ev_var rfl) hO.w1 hc).w ?_))
  refine s_seq (s_if (b := false) ?_ (fun z => nomatch z) (fun _ => s_next ?_))
  · exact (et_test (ev_inC (cU cI) (a := cols) (l := T.ks.map (·.cols)) (ev_var rfl) (en_Table_orders (T := T) (ev_var rfl) hT (by omega)).ev .i .i (by decide))).is (by rw [decide_eq_false_iff_not]; exact hn)
  refine s_seq (s_if (b := false) ?_ (fun z => nomatch z) (fun _ => s_next ?_))
  · refine (et_test (ev_eqI (ev_len (ev_fld (ev_var rfl) hT.ob (hTx.cl 20) (hTx.na 54) tf_kept) (IsL.r hT.ka.li).q) ev_int)).is ?_
    rw [List.length_map]
    exact decide_eq_false (by omega)
  have B1 := hT.ob
  have B2 := hT.dc
  have B3 := hT.ka.li
  refine s_seq (s_asg (w_make (ea_cons (ev_var rfl) ea_nil) fun p hp => ⟨_, _, rfl, p, cols, rfl, rfl, ud_same, fun l hl1 => ⟨rfl, ?_⟩⟩))
  have hpl : p ≠ l := fun z => by rw [← z, ud_same] at hl1; cases hl1
  have hl0 : M l = none := by rw [ud_ne hpl.symm] at hl1; exact hl1
  have sb : Sub M (ud (ud (ud M p (.ins (He.ga K "Kept") [])) l (.lst [])) p (.ins (He.ga K "Kept") (kf cols l))) := ((Sub.new hp).mut hl0).mut hp
  have c1 : (ud (ud (ud M p (.ins (He.ga K "Kept") [])) l (.lst [])) p (.ins (He.ga K "Kept") (kf cols l))) p = some (.ins (He.ga K "Kept") (kf cols l)) := ud_same
  have c2 : (ud (ud (ud M p (.ins (He.ga K "Kept") [])) l (.lst [])) p (.ins (He.ga K "Kept") (kf cols l))) l = some (.lst (([] : List (List Int)).map dI)) := by
    rw [ud_ne hpl.symm]; exact ud_same
  revert sb c1 c2
  generalize (ud (ud (ud M p (.ins (He.ga K "Kept") [])) l (.lst [])) p (.ins (He.ga K "Kept") (kf cols l))) = M1
  intro sb c1 c2
  have hT1 := hT.sub sb
  have hsp := srtI_perm (T.th.map (·.1))
  have hsn : (srtI (T.th.map (·.1))).Nodup := hsp.nodup_iff.mpr hO.nd
  have hsl : (srtI (T.th.map (·.1))).length ≤ 200 := by rw [hsp.length_eq, List.length_map]; exact hO.hl
  have hsm : ∀ n ∈ srtI (T.th.map (·.1)), ∃ r, thGet T.th n = some r := fun n hn => by
    obtain ⟨q, hq, rfl⟩ := List.mem_map.mp (srtI_mem.mp hn)
    exact ⟨q.2, thGet_of hO.nd hq⟩
  refine s_seq (s_for (src_l (en_Table_numbers (T := T) (ev_var rfl) hT1).ev (.inl rfl)) (fun i ρ' M3 => ∃ es b, Sub M M3 ∧ KeptAt K M3 p l cols es ∧ KOrd cols (thOf T.th ((srtI (T.th.map (·.1))).take i)) es ∧ ρ' = [some (.ref T.p), some (.tup (cols.map .int)), some (.ref p), b]) ⟨[], _, sb, ⟨c1, c2⟩, ⟨List.Perm.refl _, .nil⟩, rfl⟩ (fun _ _ _ _ => trivial) ?_ ?_)
  · rintro i d ρ' M3 hdd ⟨es, b, q1, q2, q3, rfl⟩
    obtain ⟨n, hni, rfl⟩ := get_int hdd
    obtain ⟨r, hr⟩ := hsm n (List.mem_of_getElem? hni)
    have hrl : r.length = T.w.toNat := hO.wi _ (thGet_mem hr)
    refine sg_name ?_
    have hT3 := hT.sub q1
    have hnew : n ∉ (thOf T.th ((srtI (T.th.map (·.1))).take i)).map (·.1) := fun z => by
      unfold thOf at z
      rw [List.map_map] at z
      obtain ⟨m, hm, e⟩ := List.mem_map.mp z
      have e : m = n := e
      subst e
      obtain ⟨l1, e1⟩ := List.getElem?_eq_some_iff.mp hni
      obtain ⟨j, hj⟩ := List.mem_iff_getElem?.mp hm
      have hjl := lt_of_get hj
      rw [List.length_take] at hjl
      rw [List.getElem?_take_of_lt (by omega)] at hj
      obtain ⟨l2, e2⟩ := List.getElem?_eq_some_iff.mp hj
      have := List.pairwise_iff_getElem.mp hsn j i l2 l1 (by omega)
      rw [e1, e2] at this
      exact this rfl
    have hcl := hc.len hO.w1
    have hes : es.length ≤ 200 := by
      rw [q3.len]
      unfold thOf
      rw [List.length_map, List.length_take]
      omega
    refine s_drop (w_Kept_put (p := p) (l := l) (cols := cols) (row := r) (es := es) (num := n) (ev_var rfl) q2 (ev_var rfl) (ev_dget (k := .inl n) (z := rowD r) (ev_fld (ev_var rfl) hT3.ob (hTx.cl 20) (hTx.na 52) tf_held) (ev_var rfl) hT3.dc (by rw [thD_val, hr]; rfl)) .l (fun c hcc => by have := hc.1 c hcc; omega) (by omega) q3.rising (by omega) ?_)
    refine ⟨_, _, q1.mut hl0, ⟨by rw [ud_ne hpl]; exact q2.ob, ud_same⟩, ?_, rfl⟩
    have tk : (srtI (T.th.map (·.1))).take (i + 1) = (srtI (T.th.map (·.1))).take i ++ [n] := by
      obtain ⟨hl, e⟩ := List.getElem?_eq_some_iff.mp hni
      rw [← e]
      exact (List.take_append_getElem hl).symm
    have := q3.put n r hnew
    unfold thOf at this ⊢
    rw [tk, List.map_append]
    show KOrd _ (_ ++ [(n, (thGet T.th n).getD [])]) _
    rw [hr]
    exact this
  · rintro ρ' M3 ⟨es, b, q1, q2, q3, rfl⟩
    rw [List.length_map, List.take_length] at q3
    have q3 := q3.perm_th (thOf_perm hO.nd hsp)
    have hT3 := hT.sub q1
    have C1 := hT3.ob
    have C2 := hT3.dc
    have C3 := hT3.ka.li
    have D1 := q2.ob
    have D2 := q2.en
    have n1 : T.p ≠ T.kl := ne_mo C1 C3 (by intro z; cases z)
    have n2 : T.hd ≠ T.kl := ne_mo C2 C3 (by intro z; cases z)
    have n3 : p ≠ T.kl := (ne_old B3 hp).symm
    have n4 : l ≠ T.kl := (ne_old B3 hl0).symm
    refine s_drop (w_append (a := T.kl) (x := .ref p) (ev_fld (ev_var rfl) hT3.ob (hTx.cl 20) (hTx.na 54) tf_kept) C3 (ev_var rfl) (szl (by rw [List.length_map]; omega)) ?_)
    refine k _ { T with ks := T.ks ++ [(⟨p, l, cols, es⟩ : Kr)] } ⟨⟨by show (ud _ _ _) T.p = _; walk_at "led", by show (ud _ _ _) T.hd = _; walk_at "led", ⟨?_, fun q hq => ?_, ?_, ?_⟩⟩, ⟨hO.nd, hO.rg, hO.wi, hO.w0, hO.w1, hO.m0, hO.hl, fun q hq => ?_, ?_, ?_⟩, rfl, rfl, rfl, ?_, rfl, ?_, fun x hx => ?_⟩
    · show (ud _ _ _) T.kl = some (.lst ((T.ks ++ [(⟨p, l, cols, es⟩ : Kr)]).map fun k => D.ref k.p))
      rw [ud_same, List.map_append]
      rfl
    · rcases List.mem_append.mp hq with hq | hq
      · have h1 := hT3.ka.ke q hq
        have e1 : q.p ≠ T.kl := ne_mo h1.ob C3 (by intro z; cases z)
        have e2 : q.l ≠ T.kl := fun z => hT.ka.ni (by rw [← z]; exact List.mem_map_of_mem (f := (·.l)) hq)
        exact ⟨by rw [ud_ne e1]; exact h1.ob, by rw [ud_ne e2]; exact h1.en⟩
      · rw [List.mem_singleton.mp hq]
        exact ⟨by walk_at "led", by walk_at "led"⟩
    · show ((T.ks ++ [(⟨p, l, cols, es⟩ : Kr)]).map (·.l)).Nodup
      rw [List.map_append]
      refine List.nodup_append.mpr ⟨hT.ka.nd, List.pairwise_singleton _ _, fun x hx y hy z => ?_⟩
      rw [List.map_singleton, List.mem_singleton] at hy
      obtain ⟨q, hq, rfl⟩ := List.mem_map.mp hx
      have e : q.l = l := z.trans hy
      exact ne_old (hT.ka.ke q hq).en hl0 e
    · show T.kl ∉ (T.ks ++ [(⟨p, l, cols, es⟩ : Kr)]).map (·.l)
      rw [List.map_append]
      intro z
      rcases List.mem_append.mp z with z | z
      · exact hT.ka.ni z
      · rw [List.map_singleton, List.mem_singleton] at z
        exact n4 z.symm
    · rcases List.mem_append.mp hq with hq | hq
      · exact hO.kk q hq
      · rw [List.mem_singleton.mp hq]
        exact ⟨q3, hc⟩
    · show ((T.ks ++ [(⟨p, l, cols, es⟩ : Kr)]).map (·.cols)).Nodup
      rw [List.map_append]
      refine List.nodup_append.mpr ⟨hO.kn, List.pairwise_singleton _ _, fun x hx y hy z => ?_⟩
      rw [List.map_singleton, List.mem_singleton] at hy
      have e : x = cols := z.trans hy
      exact hn (e ▸ hx)
    · show (T.ks ++ [(⟨p, l, cols, es⟩ : Kr)]).length ≤ 8
      rw [List.length_append]
      simp
      omega
    · show (T.ks ++ [(⟨p, l, cols, es⟩ : Kr)]).map (·.cols) = _
      rw [List.map_append]
      rfl
    · exact (Frame.of_sub q1).trans (Frame.ud (by simp [Tb.adr]))
    · have hx' : x ∈ T.p :: T.hd :: T.kl :: (T.ks ++ [(⟨p, l, cols, es⟩ : Kr)]).map (·.l) := hx
      rw [List.map_append] at hx'
      simp only [List.mem_cons, List.mem_append, List.map_cons, List.map_nil, List.not_mem_nil, or_false] at hx'
      rcases hx' with z | z | z | z | z
      · exact .inl (by rw [z]; simp [Tb.adr])
      · exact .inl (by rw [z]; simp [Tb.adr])
      · exact .inl (by rw [z]; simp [Tb.adr])
      · exact .inl (by simp only [Tb.adr, List.mem_cons]; exact .inr (.inr (.inr z)))
      · exact .inr (by rw [z]; exact hl0)

def pr_l_whole (K : PySem.W.Frag) : Pr := q1 fun x M nx _ => tyN M x ≠ "" ∧ nx (.bl (wholeD x)) M
section
variable {J : Jx} {ta tb : TE} {ρ : Ro} {M : Mp} {E : XK} {x y : D}
theorem ev_l_whole (ha : Ev J ta ρ M x) (h : tyN M x ≠ "") : Ev J (tCall (spD J.K (pr_l_whole J.K)) [] E (tCons ta tNil)) ρ M (.bl (wholeD x)) :=
  w_call ((ea_cons ha ea_nil).w ⟨_, rfl, h, rfl, rfl⟩)
theorem ev_l_wholeI {i : Int} (ha : Ev J ta ρ M (.int i)) : Ev J (tCall (spD J.K (pr_l_whole J.K)) [] E (tCons ta tNil)) ρ M (.bl true) := ev_l_whole ha (show "int" ≠ "" by decide)
end
abbrev nm_l_whole : List Str := ["_law_found"]
theorem sc_l_whole : FnScope nm_l_whole ["_law_found"] (defScope s_l_whole) := ⟨rfl, rfl, rfl, by decide +kernel, rfl, by decide +kernel, by decide +kernel⟩
theorem ok_l_whole (hTx : Tx K mg) : OkF P w K mg base CX0 1 "_law_whole" (He.ga K "_law_whole") ["_law_found"] (pr_l_whole K) := by
  obtain ⟨_, F⟩ := hTx.fnF 18 s_l_whole "_law_whole" 76
  refine ⟨_, ?_, F.binds (ps := ["_law_found"]) fun _ _ _ _ _ _ us hl => match us, hl with | [_], _ => rfl, F.kp, hTx.gl 57⟩
  refine fn_dl F sc_l_whole (fun _ _ _ _ h => q1_len h) (fun cdv A outer s H E hr => ⟨_, (pss_one (ps_ret (pe_and (pe_callB (kx_isi (K := K) rfl) (by rfl) (hTx.fr 3) (by decide +kernel) (pa_cons (pv 0) (pa_cons (pe_bltn (v := .ty "int") (by rfl) (hTx.fr 2) (by decide +kernel) rfl) pa_nil))) (pe_one (pe_not (pe_callB (kx_isi (K := K) rfl) (by rfl) (hTx.fr 3) (by decide +kernel) (pa_cons (pv 0) (pa_cons (pe_bltn (v := .ty "bool") (by rfl) (hTx.fr 4) (by decide +kernel) rfl) pa_nil)))))))), ?_⟩)
  try dsimp only [cx_K, cx_nK]
  rintro _ M nx xe ⟨x, rfl, h, k⟩
  obtain ⟨a, b, h1, h2, h3⟩ := whole_kit M x h
  rw [h3] at k
  exact s_retE (ev_andV (ev_isi (ev_var rfl) ev_ty h1 h) fun _ => ev_notV (ev_isi (ev_var rfl) ev_ty h2 h)) k

def atM (ns : List Int) (k : Int) : Int := if k < ns.length then ns.getD k.toNat 0 else 0
def pr_l_at (K : PySem.W.Frag) : Pr := q2 fun x y M nx _ => ∃ (ns : List Int) (k : Int), x = .frl (ns.map .int) ∧ y = .int k ∧ 0 ≤ k ∧ nx (.int (atM ns k)) M
section
variable {J : Jx} {ta tb : TE} {ρ : Ro} {M : Mp} {E : XK}
theorem ev_l_at {ns : List Int} {k : Int} (ha : Ev J ta ρ M (.frl (ns.map .int))) (hb : Ev J tb ρ M (.int k)) (h0 : 0 ≤ k) : Ev J (tCall (spD J.K (pr_l_at J.K)) [] E (tCons ta (tCons tb tNil))) ρ M (.int (atM ns k)) :=
  w_call ((ea_cons ha (ea_cons hb ea_nil)).w ⟨_, _, rfl, ns, k, rfl, rfl, h0, rfl, rfl⟩)
end
local macro_rules | `(tactic| walk_at "ev1") => `(tactic| first | with_reducible refine' ev_l_at ?_ ?_ ?_ | (show (0 : Int) ≤ _; omega))
abbrev nm_l_at : List Str := ["_law_script", "_law_k"]
theorem sc_l_at : FnScope nm_l_at ["_law_script", "_law_k"] (defScope s_l_at) := ⟨rfl, rfl, rfl, by decide +kernel, rfl, by decide +kernel, by decide +kernel⟩
theorem ok_l_at (hTx : Tx K mg) : OkF P w K mg base CX0 1 "_law_at" (He.ga K "_law_at") ["_law_script", "_law_k"] (pr_l_at K) := by
  obtain ⟨_, F⟩ := hTx.fnF 19 s_l_at "_law_at" 77
  refine ⟨_, ?_, F.binds (ps := ["_law_script", "_law_k"]) fun _ _ _ _ _ _ us hl => match us, hl with | [_, _], _ => rfl, F.kp, hTx.gl 58⟩
  refine fn_dl F sc_l_at (fun _ _ _ _ h => q2_len h) (fun cdv A outer s H E hr => ⟨_, (pss_cons (ps_if (pt_cmpR op_lt (pv 1) (pe_callB (kx_len (K := K) rfl) (by rfl) (hTx.fr 1) (by decide +kernel) (pa_cons (pv 0) pa_nil)) (nomark _))
    (pss_one (ps_ret (pe_ix (kx_ixL (K := K) rfl) (pv 0) (pv 1) (fun _ _ => rfl))))
    pss_nil)
    (pss_one (ps_ret pe_int))), ?_⟩)
  try dsimp only [cx_K, cx_nK]
  rintro _ M nx xe ⟨x, y, rfl, ns, k, rfl, rfl, h0, kk⟩
  refine s_seq (s_if (et_test (ev_B0 (ev_var rfl) (ev_len (ev_var rfl) IsL.f.q))) (fun hb => ?_) (fun hb => ?_))
  · have hk : k < ns.length := by simpa using hb
    refine s_ret ((ev_ixL (ev_var rfl) (ev_var rfl) .f (atI_int h0 hk)).w ?_)
    have e : atM ns k = ns.getD k.toNat 0 := if_pos hk
    rw [← e]
    exact kk
  · have hk : ¬ k < ns.length := by simpa using hb
    refine s_next (s_ret (ev_int.w ?_))
    have e : atM ns k = 0 := if_neg hk
    rw [← e]
    exact kk

def valM (c : Int) : Int :=
  if c % 16 = 0 then 10 ^ (30 : Int).toNat - c / 16 % 3
  else if c % 16 = 1 then c / 16 % 3 - 10 ^ (30 : Int).toNat
  else if c % 16 < 4 then c / 16 % 2003 - 1001
  else if c % 16 < 6 then c / 16 % (2 * 10 ^ (30 : Int).toNat) - 10 ^ (30 : Int).toNat
  else if c % 16 = 6 then c / 16 % 10 ^ (40 : Int).toNat
  else if c % 16 < 10 then c / 16 % 60 - 20
  else c / 16 % 3
def pr_l_value (K : PySem.W.Frag) : Pr := q1 fun x M nx _ => ∃ c : Int, x = .int c ∧ nx (.int (valM c)) M
section
variable {J : Jx} {ta tb : TE} {ρ : Ro} {M : Mp} {E : XK}
theorem ev_l_value {c : Int} (ha : Ev J ta ρ M (.int c)) : Ev J (tCall (spD J.K (pr_l_value J.K)) [] E (tCons ta tNil)) ρ M (.int (valM c)) :=
  w_call ((ea_cons ha ea_nil).w ⟨_, rfl, c, rfl, rfl, rfl⟩)
end
local macro_rules | `(tactic| walk_at "ev1") => `(tactic| with_reducible refine' ev_l_value ?_)
abbrev nm_l_value : List Str := ["_law_cell"]
theorem sc_l_value : FnScope nm_l_value ["_law_cell"] (defScope s_l_value) := ⟨rfl, rfl, rfl, by decide +kernel, rfl, by decide +kernel, by decide +kernel⟩
theorem ok_l_value (hTx : Tx K mg) : OkF P w K mg base CX0 1 "_law_value" (He.ga K "_law_value") ["_law_cell"] (pr_l_value K) := by
  obtain ⟨_, F⟩ := hTx.fnF 20 s_l_value "_law_value" 78
  refine ⟨_, ?_, F.binds (ps := ["_law_cell"]) fun _ _ _ _ _ _ us hl => match us, hl with | [_], _ => rfl, F.kp, hTx.gl 59⟩
  refine fn_dl F sc_l_value (fun _ _ _ _ h => q1_len h) (fun cdv A outer s H E hr => ⟨_, (pss_cons (ps_if (pt_cmpR op_eq (pe_op op_mod (pv 0) pe_int) pe_int (nomark _))
    (pss_one (ps_ret (pe_op op_sub (pe_op op_powW pe_int pe_int) (pe_op op_mod (pe_op op_fdiv (pv 0) pe_int) pe_int))))
    pss_nil)
    (pss_cons (ps_if (pt_cmpR op_eq (pe_op op_mod (pv 0) pe_int) pe_int (nomark _))
    (pss_one (ps_ret (pe_op op_sub (pe_op op_mod (pe_op op_fdiv (pv 0) pe_int) pe_int) (pe_op op_powW pe_int pe_int))))
    pss_nil)
    (pss_cons (ps_if (pt_cmpR op_lt (pe_op op_mod (pv 0) pe_int) pe_int (nomark _))
    (pss_one (ps_ret (pe_op op_sub (pe_op op_mod (pe_op op_fdiv (pv 0) pe_int) pe_int) pe_int)))
    pss_nil)
    (pss_cons (ps_if (pt_cmpR op_lt (pe_op op_mod (pv 0) pe_int) pe_int (nomark _))
    (pss_one (ps_ret (pe_op op_sub (pe_op op_mod (pe_op op_fdiv (pv 0) pe_int) (pe_op op_mulA pe_int (pe_op op_powW pe_int pe_int))) (pe_op op_powW pe_int pe_int))))
    pss_nil)
    (pss_cons (ps_if (pt_cmpR op_eq (pe_op op_mod (pv 0) pe_int) pe_int (nomark _))
    (pss_one (ps_ret (pe_op op_mod (pe_op op_fdiv (pv 0) pe_int) (pe_op op_powW pe_int pe_int))))
    pss_nil)
    (pss_cons (ps_if (pt_cmpR op_lt (pe_op op_mod (pv 0) pe_int) pe_int (nomark _))
    (pss_one (ps_ret (pe_op op_sub (pe_op op_mod (pe_op op_fdiv (pv 0) pe_int) pe_int) pe_int)))
    pss_nil)
    (pss_one (ps_ret (pe_op op_mod (pe_op op_fdiv (pv 0) pe_int) pe_int))))))))), ?_⟩)
  try dsimp only [cx_K, cx_nK]
  rintro _ M nx xe ⟨x, rfl, c, rfl, k⟩
  unfold valM at k
  refine s_seq (s_if (by walk_at "ev") (fun hb => ?_) (fun hb => s_next ?_))
  · rw [if_pos (of_decide_eq_true hb)] at k
    exact s_retE (by walk_at "ev") k
  rw [if_neg (of_decide_eq_false hb)] at k
  refine s_seq (s_if (by walk_at "ev") (fun hb => ?_) (fun hb => s_next ?_))
  · rw [if_pos (of_decide_eq_true hb)] at k
    exact s_retE (by walk_at "ev") k
  rw [if_neg (of_decide_eq_false hb)] at k
  refine s_seq (s_if (by walk_at "ev") (fun hb => ?_) (fun hb => s_next ?_))
  · rw [if_pos (of_decide_eq_true hb)] at k
    exact s_retE (by walk_at "ev") k
  rw [if_neg (of_decide_eq_false hb)] at k
  refine s_seq (s_if (by walk_at "ev") (fun hb => ?_) (fun hb => s_next ?_))
  · rw [if_pos (of_decide_eq_true hb)] at k
    exact s_retE (by walk_at "ev") k
  rw [if_neg (of_decide_eq_false hb)] at k
  refine s_seq (s_if (by walk_at "ev") (fun hb => ?_) (fun hb => s_next ?_))
  · rw [if_pos (of_decide_eq_true hb)] at k
    exact s_retE (by walk_at "ev") k
  rw [if_neg (of_decide_eq_false hb)] at k
  refine s_seq (s_if (by walk_at "ev") (fun hb => ?_) (fun hb => s_next ?_))
  · rw [if_pos (of_decide_eq_true hb)] at k
    exact s_retE (by walk_at "ev") k
  rw [if_neg (of_decide_eq_false hb)] at k
  exact s_retE (by walk_at "ev") k

def rowM (c w : Int) : List Int := (List.range w.toNat).map fun (k : Nat) => valM ((c * 48271 + 7919 * (k : Int)) ^ (3 : Int).toNat / 11)
theorem rowM_len (c w : Int) : (rowM c w).length = w.toNat := by unfold rowM; rw [List.length_map, List.length_range]
def pr_l_row (K : PySem.W.Frag) : Pr := q2 fun x y M nx _ => ∃ c w : Int, x = .int c ∧ y = .int w ∧ 0 ≤ w ∧ w ≤ 1000 ∧ Bt 2000000 c ∧ ∀ p, M p = none → nx (.ref p) (ud M p (.lst ((rowM c w).map .int)))
section
variable {J : Jx} {ta tb : TE} {ρ : Ro} {M : Mp} {E : XK}
theorem en_l_row {c w : Int} (ha : Ev J ta ρ M (.int c)) (hb : Ev J tb ρ M (.int w)) (h0 : 0 ≤ w) (h1 : w ≤ 1000) (hc : Bt 2000000 c) : EvN J (tCall (spD J.K (pr_l_row J.K)) [] E (tCons ta (tCons tb tNil))) ρ M ((rowM c w).map .int) :=
  w_call ((ea_cons ha (ea_cons hb ea_nil)).w ⟨_, _, rfl, c, w, rfl, rfl, h0, h1, hc, fun p hp => ⟨p, hp, rfl, rfl⟩⟩)
end
abbrev nm_l_row : List Str := ["_law_cell", "_law_width", "_law_k"]
theorem sc_l_row : FnScope nm_l_row ["_law_cell", "_law_width"] (defScope s_l_row) := ⟨rfl, rfl, rfl, by decide +kernel, rfl, by decide +kernel, by decide +kernel⟩
theorem ok_l_row (hTx : Tx K mg) : OkF P w K mg base CX0 2 "_law_row" (He.ga K "_law_row") ["_law_cell", "_law_width"] (pr_l_row K) := by
  obtain ⟨_, G_l_value, b_l_value, k_l_value, g_l_value⟩ := ok_l_value (P := P) (w := w) (base := base) hTx
  obtain ⟨_, F⟩ := hTx.fnF 21 s_l_row "_law_row" 79
  refine ⟨_, ?_, F.binds (ps := ["_law_cell", "_law_width"]) fun _ _ _ _ _ _ us hl => match us, hl with | [_, _], _ => rfl, F.kp, hTx.gl 60⟩
  refine fn_dl F sc_l_row (fun _ _ _ _ h => q2_len h) (fun cdv A outer s H E hr => ⟨_, (pss_one (ps_ret (pe_lc (own := [("_law_k", 2)]) (g := gName 2) rfl sc_l_row.nd (pi_range1 rfl (hTx.fr 35) (pa_cons (pv 1) pa_nil)) (blkOk_by (N := nm_l_row) (sc := defScope s_l_row) (own := [("_law_k", 2)]) (by decide +kernel)) (fun _ _ _ _ _ => pg_name (i := 2) sc_l_row.nd rfl (Or.inl rfl)) (fun _ _ _ _ _ => pts_nil) (fun _ _ _ _ _ => (pe_call G_l_value (hr.mono (by decide)) rfl g_l_value k_l_value b_l_value .nil pass0 (pa_cons (pe_op op_fdiv (pe_op op_powW (pe_op op_add (pe_op op_mulA (pv 0) pe_int) (pe_op op_mulA pe_int (pv 2))) pe_int) pe_int) pa_nil)))))), ?_⟩)
  try dsimp only [cx_K, cx_nK]
  rintro _ M nx xe ⟨x, y, rfl, c, w, rfl, rfl, h0, h1, hc, k⟩
  refine s_ret (EvN.w (EvN.is (en_rngI (n := w) (fun k => valM ((c * 48271 + 7919 * k) ^ (3 : Int).toNat / 11)) (ev_var rfl) (by omega) (by omega) (fun M1 j _ j0 j1 => ?_)) (es := (rowM c w).map .int) rfl) k)
  have b1 : Bt 2000016 (c * 48271) := hc.mul (bt16 (by decide) (by decide))
  have b2 : Bt 2000016 (7919 * j) := Bt.mono (Bt.mul (bt16 (i := 7919) (by decide) (by decide)) (bt16 (i := j) (by omega) (by omega))) (by decide)
  exact ev_l_value (ev_I (ev_I (ev_I0 (ev_I (ev_var rfl) ev_int (mulA hc (bt16 (i := 48271) (by decide) (by decide)) (by decide))) (ev_I ev_int (ev_var rfl) (mulA (bt16 (i := 7919) (by decide) (by decide)) (bt16 (i := j) (by omega) (by omega)) (by decide)))) ev_int (cubeOk (b1.add b2) (by decide))) ev_int (by show CDiv _ _; exact ⟨by decide, by decide⟩))

def pr_l_same (K : PySem.W.Frag) : Pr := q2 fun x y M nx _ => ∃ r : List Int, x = .tup (r.map .int) ∧ IsL M y (r.map .int) ∧ r.length ≤ 1000 ∧ nx (.bl true) M
section
variable {J : Jx} {ta tb : TE} {ρ : Ro} {M : Mp} {E : XK} {y : D}
theorem ev_l_same {r : List Int} (ha : Ev J ta ρ M (.tup (r.map .int))) (hb : Ev J tb ρ M y) (hy : IsL M y (r.map .int)) (hl : r.length ≤ 1000) : Ev J (tCall (spD J.K (pr_l_same J.K)) [] E (tCons ta (tCons tb tNil))) ρ M (.bl true) :=
  w_call ((ea_cons ha (ea_cons hb ea_nil)).w ⟨_, _, rfl, r, rfl, hy, hl, rfl, rfl⟩)
end
abbrev nm_l_same : List Str := ["_law_found", "_law_row_here", "_law_k"]
theorem sc_l_same : FnScope nm_l_same ["_law_found", "_law_row_here"] (defScope s_l_same) := ⟨rfl, rfl, rfl, by decide +kernel, rfl, by decide +kernel, by decide +kernel⟩
theorem ok_l_same (hTx : Tx K mg) : OkF P w K mg base CX0 2 "_law_same" (He.ga K "_law_same") ["_law_found", "_law_row_here"] (pr_l_same K) := by
  obtain ⟨_, G_l_whole, b_l_whole, k_l_whole, g_l_whole⟩ := ok_l_whole (P := P) (w := w) (base := base) hTx
  obtain ⟨_, F⟩ := hTx.fnF 22 s_l_same "_law_same" 80
  refine ⟨_, ?_, F.binds (ps := ["_law_found", "_law_row_here"]) fun _ _ _ _ _ _ us hl => match us, hl with | [_, _], _ => rfl, F.kp, hTx.gl 61⟩
  refine fn_dl F sc_l_same (fun _ _ _ _ h => q2_len h) (fun cdv A outer s H E hr => ⟨_, (pss_cons (ps_if (PW.pt (pw_or (pt_not (pt_val (pe_callB (kx_isi (K := K) rfl) (by rfl) (hTx.fr 3) (by decide +kernel) (pa_cons (pv 0) (pa_cons (pe_bltn (v := .ty "tuple") (by rfl) (hTx.fr 13) (by decide +kernel) rfl) pa_nil))))) (pw_or1 (pt_cmpR op_ne (pe_callB (kx_len (K := K) rfl) (by rfl) (hTx.fr 1) (by decide +kernel) (pa_cons (pv 0) pa_nil)) (pe_callB (kx_len (K := K) rfl) (by rfl) (hTx.fr 1) (by decide +kernel) (pa_cons (pv 1) pa_nil)) (nomark _)))))
    (pss_one (ps_ret pe_bl))
    pss_nil)
    (pss_cons (ps_for PassesOwn.never rfl (pi_range1 rfl (hTx.fr 35) (pa_cons (pe_callB (kx_len (K := K) rfl) (by rfl) (hTx.fr 1) (by decide +kernel) (pa_cons (pv 1) pa_nil)) pa_nil)) (pg_name (i := 2) sc_l_same.nd rfl (Or.inl rfl))
    (pss_one (ps_if (PW.pt (pw_or (pt_not (pt_val (pe_call G_l_whole (hr.mono (by decide)) rfl g_l_whole k_l_whole b_l_whole .nil pass0 (pa_cons (pe_ix (kx_ixT (K := K) rfl) (pv 0) (pv 2) (fun _ _ => rfl)) pa_nil)))) (pw_or1 (pt_cmpR op_ne (pe_ix (kx_ixT (K := K) rfl) (pv 0) (pv 2) (fun _ _ => rfl)) (pe_ix (kx_ixL (K := K) rfl) (pv 1) (pv 2) (fun _ _ => rfl)) (nomark _)))))
    (pss_one (ps_ret pe_bl))
    pss_nil)))
    (pss_one (ps_ret pe_bl)))), ?_⟩)
  try dsimp only [cx_K, cx_nK]
  rintro _ M nx xe ⟨x, y, rfl, r, rfl, hy, hl, k⟩
  show S (J0 K) _ [some (.tup (r.map .int)), some y, none] M _
  refine s_seq (s_if (b := false) ?_ (fun z => nomatch z) (fun _ => s_next ?_))
  · refine (et_or (b := false) (c := false) ?_ fun _ => ?_)
    · exact (et_not (et_B (ev_isiT (b := true) "tuple" (ev_var rfl) ev_ty rfl (by decide +kernel) (by decide))))
    · exact (et_test (ev_neI (ev_len (ev_var rfl) .t) (ev_len (ev_var rfl) hy.q))).is (by simp)
  refine s_seq (s_for (src_rng1 (ev_len (ev_var rfl) hy.q) (by omega) (by rw [List.length_map]; omega)) (fun i ρ' M' => M' = M ∧ ∃ a, ρ' = [some (.tup (r.map .int)), some y, a]) ⟨rfl, none, rfl⟩ (fun _ _ _ _ => trivial) ?_ ?_)
  · rintro i d ρ' M' hd ⟨rfl, a, rfl⟩
    obtain ⟨hi, rfl⟩ := rng_get hd
    rw [Int.toNat_natCast, List.length_map] at hi
    rw [Int.zero_add]
    have hat : atI (r.map D.int) (i : Int) = some (.int r[i]) := atI_nat (by rw [List.getElem?_map, List.getElem?_eq_getElem hi]; rfl)
    refine sg_name ?_
    refine s_if (b := false) ?_ (fun z => nomatch z) (fun _ => s_next ⟨rfl, _, rfl⟩)
    refine (et_or (b := false) (c := false) (et_not (et_B (ev_l_wholeI (ev_ixT (ev_var rfl) (ev_var rfl) hat)))) fun _ => ?_)
    exact (et_test (ev_neI (ev_ixT (ev_var rfl) (ev_var rfl) hat) (ev_ixL (ev_var rfl) (ev_var rfl) hy hat))).is (by simp)
  · rintro ρ' M' ⟨rfl, a, rfl⟩
    exact s_retE ev_bl k

abbrev saidD (w : Str) (x : D) : D := .tup [.str w, x]
/-- what is said of a deed -/
def SaidOk (K : PySem.W.Frag) (M : Mp) (T : Tb) (kind : Int) (z u v : D) (nx : D → Mp → Prop) : Prop :=
  (RowNo T z ∧ nx (saidD "no row" .non) M) ∨ ∃ n r, z = .int n ∧ thGet T.th n = some r ∧
    ((kind = 3 ∧ ∀ M', TStep K M M' T (T.drop n r) (thDrop T.th n) T.made (T.ks.map (·.cols)) → nx (saidD "given" .non) M') ∨
     (kind = 5 ∧ nx (saidD "given" (.tup (r.map .int))) M) ∨
     (kind = 4 ∧ ((ColNo T u ∧ nx (saidD "bad column" .non) M) ∨ ∃ c, u = .int c ∧ 0 ≤ c ∧ c < T.w ∧
       ((wholeD v = false ∧ nx (saidD "bad row" .non) M) ∨ ∃ w, v = .int w ∧ ∀ M', TStep K M M' T (T.change n r (r.set c.toNat w)) (thPut T.th n (r.set c.toNat w)) T.made (T.ks.map (·.cols)) → nx (saidD "given" .non) M'))))
def pr_l_said (K : PySem.W.Frag) : Pr := q5 fun x y z u v M nx _ => ∃ (T : Tb) (kind : Int), x = .ref T.p ∧ y = .int kind ∧ TabAt K M T ∧ TabOk T ∧ tyN M z ≠ "" ∧ tyN M u ≠ "" ∧ tyN M v ≠ "" ∧ (kind = 3 ∨ kind = 4 ∨ kind = 5) ∧ SaidOk K M T kind z u v nx
section
variable {J : Jx} {ta tb tc td te : TE} {ρ : Ro} {M : Mp} {E : XK} {R : D → Mp → Prop} {z u v : D}
theorem w_l_said {T : Tb} {kind : Int} (h1 : Ev J ta ρ M (.ref T.p)) (h2 : Ev J tb ρ M (.int kind)) (h3 : Ev J tc ρ M z) (h4 : Ev J td ρ M u) (h5 : Ev J te ρ M v) (hT : TabAt J.K M T) (hO : TabOk T) (t1 : tyN M z ≠ "") (t2 : tyN M u ≠ "") (t3 : tyN M v ≠ "") (hk : kind = 3 ∨ kind = 4 ∨ kind = 5) (k : SaidOk J.K M T kind z u v R) : W J (tCall (spD J.K (pr_l_said J.K)) [] E (tCons ta (tCons tb (tCons tc (tCons td (tCons te tNil)))))) ρ M R :=
  w_call ((ea_cons h1 (ea_cons h2 (ea_cons h3 (ea_cons h4 (ea_cons h5 ea_nil))))).w ⟨_, _, _, _, _, rfl, T, kind, rfl, rfl, hT, hO, t1, t2, t3, hk, k⟩)
end
abbrev nm_l_said : List Str := ["_law_table", "_law_kind", "_law_number", "_law_column", "_law_value_here"]
theorem sc_l_said : FnScope nm_l_said ["_law_table", "_law_kind", "_law_number", "_law_column", "_law_value_here"] (defScope s_l_said) := ⟨rfl, rfl, rfl, by decide +kernel, rfl, by decide +kernel, by decide +kernel⟩
theorem ok_l_said (hTx : Tx K mg) : OkF P w K mg base CX0 5 "_law_said" (He.ga K "_law_said") ["_law_table", "_law_kind", "_law_number", "_law_column", "_law_value_here"] (pr_l_said K) := by
  obtain ⟨_, G_Table_drop, b_Table_drop⟩ := ok_Table_drop (P := P) (w := w) (base := base) hTx
  obtain ⟨_, G_Table_drop_x, b_Table_drop_x⟩ := ok_Table_drop_x (P := P) (w := w) (base := base) hTx
  obtain ⟨_, G_Table_change, b_Table_change⟩ := ok_Table_change (P := P) (w := w) (base := base) hTx
  obtain ⟨_, G_Table_change_x, b_Table_change_x⟩ := ok_Table_change_x (P := P) (w := w) (base := base) hTx
  obtain ⟨_, G_Table_row, b_Table_row⟩ := ok_Table_row (P := P) (w := w) (base := base) hTx
  obtain ⟨_, G_Table_row_x, b_Table_row_x⟩ := ok_Table_row_x (P := P) (w := w) (base := base) hTx
  obtain ⟨_, F⟩ := hTx.fnF 23 s_l_said "_law_said" 81
  refine ⟨_, ?_, F.binds (ps := ["_law_table", "_law_kind", "_law_number", "_law_column", "_law_value_here"]) fun _ _ _ _ _ _ us hl => match us, hl with | [_, _, _, _, _], _ => rfl, F.kp, hTx.gl 68⟩
  refine fn_dl F sc_l_said (fun _ _ _ _ h => q5_len h) (fun cdv A outer s H E hr => ⟨_, (pss_one (ps_tryM (K := K) rfl rfl rfl takes0 (fun W pn xe tk po => (pss_cons (ps_if (pt_cmpR op_eq (pv 1) pe_int (nomark _))
    (pss_one (ps_ret (pe_tup (pa_cons pe_str (pa_cons (pe_ei (pe_meth (pv 0) (hTx.cl 20) (hTx.me 36) G_Table_drop (hr.mono (by decide)) b_Table_drop .nil pass0 (pa_cons (pv 2) pa_nil)) (pe_methW (pv 0) (hTx.cl 20) (hTx.me 36) G_Table_drop_x (hr.mono (by decide)) b_Table_drop_x (fun σ => passAt tk σ) (pa_cons (pv 2) pa_nil))) pa_nil)))))
    pss_nil)
    (pss_cons (ps_if (pt_cmpR op_eq (pv 1) pe_int (nomark _))
    (pss_one (ps_ret (pe_tup (pa_cons pe_str (pa_cons (pe_ei (pe_meth (pv 0) (hTx.cl 20) (hTx.me 37) G_Table_change (hr.mono (by decide)) b_Table_change .nil pass0 (pa_cons (pv 2) (pa_cons (pv 3) (pa_cons (pv 4) pa_nil)))) (pe_methW (pv 0) (hTx.cl 20) (hTx.me 37) G_Table_change_x (hr.mono (by decide)) b_Table_change_x (fun σ => passAt tk σ) (pa_cons (pv 2) (pa_cons (pv 3) (pa_cons (pv 4) pa_nil))))) pa_nil)))))
    pss_nil)
    (pss_one (ps_ret (pe_tup (pa_cons pe_str (pa_cons (pe_ei (pe_meth (pv 0) (hTx.cl 20) (hTx.me 38) G_Table_row (hr.mono (by decide)) b_Table_row .nil pass0 (pa_cons (pv 2) pa_nil)) (pe_methW (pv 0) (hTx.cl 20) (hTx.me 38) G_Table_row_x (hr.mono (by decide)) b_Table_row_x (fun σ => passAt tk σ) (pa_cons (pv 2) pa_nil))) pa_nil))))))))
    (HdsOk.cons ⟨by rfl, by decide, .inl (hTx.gl 11)⟩ (fun a oe cls d pn hz hf => (pss_one (ps_ret (pe_tup (pa_cons pe_str (pa_cons pe_non pa_nil)))))) (HdsOk.cons ⟨by rfl, by decide, .inl (hTx.gl 24)⟩ (fun a oe cls d pn hz hf => (pss_one (ps_ret (pe_tup (pa_cons pe_str (pa_cons pe_non pa_nil)))))) (HdsOk.cons ⟨by rfl, by decide, .inl (hTx.gl 15)⟩ (fun a oe cls d pn hz hf => (pss_one (ps_ret (pe_tup (pa_cons pe_str (pa_cons pe_non pa_nil)))))) HdsOk.nil))))), ?_⟩)
  try dsimp only [cx_K, cx_nK]
  rintro _ M nx xe ⟨x, y, z, u, v, rfl, T, kind, rfl, rfl, hT, hO, t1, t2, t3, hk, k⟩
  show S (J0 K) _ [some (.ref T.p), some (.int kind), some z, some u, some v] M _
  refine s_tryM fun W => ?_
  show S (⟨K, WE W, fun ρ' c M' => HdR K _ ρ' c M' _⟩ : Jx) _ _ _ _
  have wd : ∀ (s : Str) (x : D) (ρ' : Ro), nx (saidD s x) M → ∀ te : TE, Ev (J0 K) te ρ' M x → S (J0 K) (tRet (tTup (tCons (tC (.str s)) (tCons te tNil)))) ρ' M { nx := fun _ M' => nx .non M', rt := nx } := fun s x ρ' h te ht => s_retE (ev_tup (ds := [.str s, x]) (ea_cons ev_str (ea_cons ht ea_nil)) (sz (by simp))) h
  rcases k with ⟨hn, k⟩ | ⟨n, r, rfl, hr, k⟩
  · rcases hk with rfl | rfl | rfl
    · refine s_seq (s_if (b := true) ((et_test (ev_eqI (ev_var rfl) ev_int)).is (by decide)) (fun _ => ?_) (fun z => nomatch z))
      exact s_ret (w_tup (wa_cons (ev_str.w (wa_cons (w_ei2 (w_methW (ev_var rfl) hT.ob (tf_no (by decide +kernel) (by decide +kernel) (by decide +kernel) (by decide +kernel)) (ea_cons (ev_var rfl) ea_nil) ⟨_, _, rfl, T, rfl, hT, t1, hn, hd_at (hd_yes (hTx.xm 62) fun a ha => wd _ _ _ k _ ev_non)⟩))))))
    · refine s_seq (s_if (b := false) ((et_test (ev_eqI (ev_var rfl) ev_int)).is (by decide)) (fun z => nomatch z) (fun _ => s_next ?_))
      refine s_seq (s_if (b := true) ((et_test (ev_eqI (ev_var rfl) ev_int)).is (by decide)) (fun _ => ?_) (fun z => nomatch z))
      exact s_ret (w_tup (wa_cons (ev_str.w (wa_cons (w_ei2 (w_methW (ev_var rfl) hT.ob (tf_no (by decide +kernel) (by decide +kernel) (by decide +kernel) (by decide +kernel)) (ea_cons (ev_var rfl) (ea_cons (ev_var rfl) (ea_cons (ev_var rfl) ea_nil))) ⟨_, _, _, _, rfl, T, rfl, hT, .inl ⟨t1, hn, hd_at (hd_yes (hTx.xm 62) fun a ha => wd _ _ _ k _ ev_non)⟩⟩))))))
    · refine s_seq (s_if (b := false) ((et_test (ev_eqI (ev_var rfl) ev_int)).is (by decide)) (fun z => nomatch z) (fun _ => s_next ?_))
      refine s_seq (s_if (b := false) ((et_test (ev_eqI (ev_var rfl) ev_int)).is (by decide)) (fun z => nomatch z) (fun _ => s_next ?_))
      exact s_ret (w_tup (wa_cons (ev_str.w (wa_cons (w_ei2 (w_methW (ev_var rfl) hT.ob (tf_no (by decide +kernel) (by decide +kernel) (by decide +kernel) (by decide +kernel)) (ea_cons (ev_var rfl) ea_nil) ⟨_, _, rfl, T, rfl, hT, t1, hn, hd_at (hd_yes (hTx.xm 62) fun a ha => wd _ _ _ k _ ev_non)⟩))))))
  rcases k with ⟨rfl, k⟩ | ⟨rfl, k⟩ | ⟨rfl, k⟩
  · refine s_seq (s_if (b := true) ((et_test (ev_eqI (ev_var rfl) ev_int)).is (by decide)) (fun _ => ?_) (fun z => nomatch z))
    exact s_ret (w_tup (wa_cons (ev_str.w (wa_cons (w_ei1 (w_Table_drop (T := T) (n := n) (r := r) (ev_var rfl) (ev_var rfl) hT hO hr fun M' st => wa_nil ⟨sz (by simp), k M' st⟩))))))
  · refine s_seq (s_if (b := false) ((et_test (ev_eqI (ev_var rfl) ev_int)).is (by decide)) (fun z => nomatch z) (fun _ => s_next ?_))
    refine s_seq (s_if (b := false) ((et_test (ev_eqI (ev_var rfl) ev_int)).is (by decide)) (fun z => nomatch z) (fun _ => s_next ?_))
    exact s_ret (w_tup (wa_cons (ev_str.w (wa_cons (w_ei1 ((ev_Table_row (T := T) (n := n) (r := r) (ev_var rfl) hT (ev_var rfl) hr).w (wa_nil ⟨sz (by simp), k⟩)))))))
  refine s_seq (s_if (b := false) ((et_test (ev_eqI (ev_var rfl) ev_int)).is (by decide)) (fun z => nomatch z) (fun _ => s_next ?_))
  refine s_seq (s_if (b := true) ((et_test (ev_eqI (ev_var rfl) ev_int)).is (by decide)) (fun _ => ?_) (fun z => nomatch z))
  rcases k with ⟨hc, k⟩ | ⟨c, rfl, c0, c1, k⟩
  · exact s_ret (w_tup (wa_cons (ev_str.w (wa_cons (w_ei2 (w_methW (ev_var rfl) hT.ob (tf_no (by decide +kernel) (by decide +kernel) (by decide +kernel) (by decide +kernel)) (ea_cons (ev_var rfl) (ea_cons (ev_var rfl) (ea_cons (ev_var rfl) ea_nil))) ⟨_, _, _, _, rfl, T, rfl, hT, .inr ⟨n, r, rfl, hr, .inl ⟨t2, hc, hd_at (hd_no (hTx.xm 63) (hd_yes (hTx.xm 64) fun a ha => wd _ _ _ k _ ev_non))⟩⟩⟩))))))
  rcases k with ⟨hv, k⟩ | ⟨w, rfl, k⟩
  · exact s_ret (w_tup (wa_cons (ev_str.w (wa_cons (w_ei2 (w_methW (ev_var rfl) hT.ob (tf_no (by decide +kernel) (by decide +kernel) (by decide +kernel) (by decide +kernel)) (ea_cons (ev_var rfl) (ea_cons (ev_var rfl) (ea_cons (ev_var rfl) ea_nil))) ⟨_, _, _, _, rfl, T, rfl, hT, .inr ⟨n, r, rfl, hr, .inr ⟨c, rfl, c0, c1, t3, hv, hd_at (hd_no (hTx.xm 65) (hd_no (hTx.xm 66) (hd_yes (hTx.xm 67) fun a ha => wd _ _ _ k _ ev_non)))⟩⟩⟩))))))
  · exact s_ret (w_tup (wa_cons (ev_str.w (wa_cons (w_ei1 (w_Table_change (T := T) (n := n) (r := r) (col := c) (v := w) (ev_var rfl) (ev_var rfl) (ev_var rfl) (ev_var rfl) hT hO hr c0 c1 fun M' st => wa_nil ⟨sz (by simp), k M' st⟩))))))

def pr_l_any (K : PySem.W.Frag) : Pr := q2 fun x y M nx _ => ∃ (T : Tb), x = .ref T.p ∧ TabAt K M T ∧ tyN M y ≠ "" ∧ RowNo T y ∧ nx (.bl true) M
section
variable {J : Jx} {ta tb : TE} {ρ : Ro} {M : Mp} {E : XK} {y : D}
theorem ev_l_any {T : Tb} (ha : Ev J ta ρ M (.ref T.p)) (hb : Ev J tb ρ M y) (hT : TabAt J.K M T) (ht : tyN M y ≠ "") (hn : RowNo T y) : Ev J (tCall (spD J.K (pr_l_any J.K)) [] E (tCons ta (tCons tb tNil))) ρ M (.bl true) :=
  w_call ((ea_cons ha (ea_cons hb ea_nil)).w ⟨_, _, rfl, T, rfl, hT, ht, hn, rfl, rfl⟩)
end
abbrev nm_l_any : List Str := ["_law_table", "_law_number", "e"]
theorem sc_l_any : FnScope nm_l_any ["_law_table", "_law_number"] (defScope s_l_any) := ⟨rfl, rfl, rfl, by decide +kernel, rfl, by decide +kernel, by decide +kernel⟩
theorem ok_l_any (hTx : Tx K mg) : OkF P w K mg base CX0 5 "_law_any" (He.ga K "_law_any") ["_law_table", "_law_number"] (pr_l_any K) := by
  obtain ⟨_, G_Table_drop, b_Table_drop⟩ := ok_Table_drop (P := P) (w := w) (base := base) hTx
  obtain ⟨_, G_Table_drop_x, b_Table_drop_x⟩ := ok_Table_drop_x (P := P) (w := w) (base := base) hTx
  obtain ⟨_, F⟩ := hTx.fnF 24 s_l_any "_law_any" 82
  refine ⟨_, ?_, F.binds (ps := ["_law_table", "_law_number"]) fun _ _ _ _ _ _ us hl => match us, hl with | [_, _], _ => rfl, F.kp, hTx.gl 70⟩
  refine fn_dl F sc_l_any (fun _ _ _ _ h => q2_len h) (fun cdv A outer s H E hr => ⟨_, (pss_cons (ps_tryA (K := K) (i := 2) rfl rfl rfl sc_l_any.nd rfl rfl ⟨by rfl, by decide, .inl (hTx.gl 40)⟩ takes0 (fun W pn xe tk po => (pss_one (ps_expr (pe_ei (pe_meth (pv 0) (hTx.cl 20) (hTx.me 36) G_Table_drop (hr.mono (by decide)) b_Table_drop .nil pass0 (pa_cons (pv 1) pa_nil)) (pe_methW (pv 0) (hTx.cl 20) (hTx.me 36) G_Table_drop_x (hr.mono (by decide)) b_Table_drop_x (fun σ => passAt tk σ) (pa_cons (pv 1) pa_nil))))))
    (fun a oe cls d pn hz hf => pss_exc (K := K) (fun C e1 e2 ec => (pss_one (ps_ret (pe_callB (kx_isE (K := K) rfl ec (zc_of hz e1 e2) hf) (by rfl) (hTx.fr 3) (by decide +kernel) (pa_cons (pv 2) (pa_cons (pe_bltn (v := .ty "ValueError") (by rfl) (hTx.fr 39) (by decide +kernel) rfl) pa_nil))))))))
    (pss_one (ps_ret pe_bl))), ?_⟩)
  try dsimp only [cx_K, cx_nK]
  rintro _ M nx xe ⟨x, y, rfl, T, rfl, hT, ht, hn, k⟩
  show S (J0 K) _ [some (.ref T.p), some y, none] M _
  refine s_seq (s_tryA fun W => ?_)
  refine s_drop (w_ei2 (w_methW (ev_var rfl) hT.ob (tf_no (by decide +kernel) (by decide +kernel) (by decide +kernel) (by decide +kernel)) (ea_cons (ev_var rfl) ea_nil) ⟨_, _, rfl, T, rfl, hT, ht, hn, (hTx.xm 69), fun a ha => ?_⟩))
  refine s_exc (hTx.xi 0) ?_
  exact s_retE (ev_isEt (C := He.ga K "NoRow") (ev_var rfl) ev_ty (hTx.kt 1)) k

/-- the table, and the law's rows beside it -/
structure DeedAt (K : PySem.W.Frag) (M : Mp) (T : Tb) (a : Addr) : Prop where
  t : TabAt K M T
  ok : TabOk T
  th : M a = some (.dct (thD T.th))
  na : a ∉ T.adr
theorem DeedAt.sub {K : PySem.W.Frag} {M M' : Mp} {T : Tb} {a : Addr} (h : DeedAt K M T a) (s : Sub M M') : DeedAt K M' T a := ⟨h.t.sub s, h.ok, s _ _ h.th, h.na⟩
theorem DeedAt.step {K : PySem.W.Frag} {M M' : Mp} {T T' : Tb} {a : Addr} {th : Th} {made : Int} {os : List (List Int)} (h : DeedAt K M T a) (st : TStep K M M' T T' th made os) : M' a = some (.dct (thD T.th)) ∧ a ∉ T'.adr := ⟨st.fr _ _ h.na h.th, fun z => by
  rcases st.gr a z with g | g
  · exact h.na g
  · rw [h.th] at g; cases g⟩
theorem oth_put {K : PySem.W.Frag} {M : Mp} {T : Tb} {a : Addr} {o0 o : MO} (h : TabAt K M T) (ha : M a = some o0) (no : ∀ C fs, o0 ≠ .ins C fs) (na : a ∉ T.adr) : TabAt K (ud M a o) T :=
  h.frame (A := [a]) (Frame.ud (by simp)) (fun x hx z => na (by rw [List.mem_singleton.mp z] at hx; exact hx)) fun x hx fs e => by
    rw [List.mem_singleton.mp hx, ha] at e
    exact no _ _ (Option.some.inj e)
theorem dct_put {K : PySem.W.Frag} {M : Mp} {T : Tb} {a : Addr} {kvs : List (Key × D)} {o : MO} (h : TabAt K M T) (ha : M a = some (.dct kvs)) (na : a ∉ T.adr) : TabAt K (ud M a o) T := oth_put h ha (fun C fs z => by cases z) na
/-- what a deed is to be told -/
def Word (T : Tb) (kind : Int) (z u v : D) (wd : Str) : Prop :=
  (RowNo T z ∧ wd = "no row") ∨ ∃ n r, z = .int n ∧ thGet T.th n = some r ∧
    ((kind = 3 ∧ wd = "given") ∨ (kind = 5 ∧ wd = "given") ∨
     (kind = 4 ∧ ((ColNo T u ∧ wd = "bad column") ∨ ∃ c, u = .int c ∧ 0 ≤ c ∧ c < T.w ∧ ((wholeD v = false ∧ wd = "bad row") ∨ ∃ w, v = .int w ∧ wd = "given"))))
def pr_l_deed (K : PySem.W.Frag) : Pr := q4 fun x y z u M nx _ => ∃ (T : Tb) (a : Addr) (c : Int), x = .ref T.p ∧ y = .ref a ∧ z = .int c ∧ u = .int T.made ∧ DeedAt K M T a ∧ Bt 1999990 c ∧ ∀ M' T', DeedAt K M' T' a → T'.p = T.p → T'.w = T.w → T'.made = T.made → nx (.bl true) M'
section
variable {J : Jx} {ta tb tc td : TE} {ρ : Ro} {M : Mp} {E : XK} {R : D → Mp → Prop}
theorem w_l_deed {T : Tb} {a : Addr} {c : Int} (h1 : Ev J ta ρ M (.ref T.p)) (h2 : Ev J tb ρ M (.ref a)) (h3 : Ev J tc ρ M (.int c)) (h4 : Ev J td ρ M (.int T.made)) (hL : DeedAt J.K M T a) (hc : Bt 1999990 c) (k : ∀ M' T', DeedAt J.K M' T' a → T'.p = T.p → T'.w = T.w → T'.made = T.made → R (.bl true) M') : W J (tCall (spD J.K (pr_l_deed J.K)) [] E (tCons ta (tCons tb (tCons tc (tCons td tNil))))) ρ M R :=
  w_call ((ea_cons h1 (ea_cons h2 (ea_cons h3 (ea_cons h4 ea_nil)))).w ⟨_, _, _, _, rfl, T, a, c, rfl, rfl, rfl, rfl, hL, hc, k⟩)
end
abbrev nm_l_deed : List Str := ["_law_table", "_law_there", "_law_deed_here", "_law_made", "_law_kind", "_law_more", "_law_number", "_law_column", "_law_value_here", "_law_word", "_law_said_here", "_law_row_here"]
theorem sc_l_deed : FnScope nm_l_deed ["_law_table", "_law_there", "_law_deed_here", "_law_made"] (defScope s_l_deed) := ⟨rfl, rfl, rfl, by decide +kernel, rfl, by decide +kernel, by decide +kernel⟩
theorem ok_l_deed (hTx : Tx K mg) : OkF P w K mg base CX0 6 "_law_deed" (He.ga K "_law_deed") ["_law_table", "_law_there", "_law_deed_here", "_law_made"] (pr_l_deed K) := by
  obtain ⟨_, G_l_value, b_l_value, k_l_value, g_l_value⟩ := ok_l_value (P := P) (w := w) (base := base) hTx
  obtain ⟨_, G_l_whole, b_l_whole, k_l_whole, g_l_whole⟩ := ok_l_whole (P := P) (w := w) (base := base) hTx
  obtain ⟨_, G_l_said, b_l_said, k_l_said, g_l_said⟩ := ok_l_said (P := P) (w := w) (base := base) hTx
  obtain ⟨_, G_l_any, b_l_any, k_l_any, g_l_any⟩ := ok_l_any (P := P) (w := w) (base := base) hTx
  obtain ⟨_, G_l_same, b_l_same, k_l_same, g_l_same⟩ := ok_l_same (P := P) (w := w) (base := base) hTx
  obtain ⟨_, F⟩ := hTx.fnF 25 s_l_deed "_law_deed" 83
  refine ⟨_, ?_, F.binds (ps := ["_law_table", "_law_there", "_law_deed_here", "_law_made"]) fun _ _ _ _ _ _ us hl => match us, hl with | [_, _, _, _], _ => rfl, F.kp, hTx.gl 71⟩
  refine fn_dl F sc_l_deed (fun _ _ _ _ h => q4_len h) (fun cdv A outer s H E hr => ⟨_, (pss_cons (ps_set (i := 4) sc_l_deed.nd rfl (Or.inl rfl) (pe_op op_add pe_int (pe_op op_mod (pv 2) pe_int)))
    (pss_cons (ps_set (i := 5) sc_l_deed.nd rfl (Or.inl rfl) (pe_op op_fdiv (pv 2) pe_int))
    (pss_cons (ps_set (i := 6) sc_l_deed.nd rfl (Or.inl rfl) (pe_op op_sub (pe_op op_mod (pv 5) (pe_op op_add (pv 3) pe_int)) pe_int))
    (pss_cons (ps_set (i := 7) sc_l_deed.nd rfl (Or.inl rfl) (pe_op op_sub (pe_op op_mod (pe_op op_fdiv (pv 5) pe_int) (pe_op op_add (kx_fld (K := K) rfl (pv 0) rfl) pe_int)) pe_int))
    (pss_cons (ps_set (i := 8) sc_l_deed.nd rfl (Or.inl rfl) (pe_call G_l_value (hr.mono (by decide)) rfl g_l_value k_l_value b_l_value .nil pass0 (pa_cons (pe_op op_fdiv (pe_op op_powW (pe_op op_add (pe_op op_mulA (pv 5) pe_int) pe_int) pe_int) pe_int) pa_nil)))
    (pss_cons (ps_if (pt_cmpR op_eq (pe_op op_mod (pv 5) pe_int) pe_int (nomark _))
    (pss_one (ps_set (i := 8) sc_l_deed.nd rfl (Or.inl rfl) (pe_ix (kx_ixL (K := K) rfl) (pe_lst (pa_cons pe_bl (pa_cons pe_bl (pa_cons pe_non (pa_cons pe_str (pa_cons (pe_lst (pa_cons pe_int pa_nil)) (pa_cons (pe_tup (pa_cons pe_int pa_nil)) pa_nil))))))) (pe_op op_mod (pe_op op_fdiv (pv 5) pe_int) pe_int) (fun _ _ => rfl))))
    pss_nil)
    (pss_cons (ps_if (pt_cmpR op_eq (pe_op op_mod (pv 5) pe_int) pe_int (nomark _))
    (pss_one (ps_set (i := 6) sc_l_deed.nd rfl (Or.inl rfl) (pe_ix (kx_ixL (K := K) rfl) (pe_lst (pa_cons pe_bl (pa_cons pe_bl (pa_cons pe_non (pa_cons pe_str (pa_cons (pe_op op_powW pe_int pe_int) (pa_cons (pe_op op_sub pe_int (pe_op op_powW pe_int pe_int)) (pa_cons (pe_lst (pa_cons pe_int pa_nil)) (pa_cons pe_dnewK pa_nil))))))))) (pe_op op_mod (pe_op op_fdiv (pv 5) pe_int) pe_int) (fun _ _ => rfl))))
    pss_nil)
    (pss_cons (ps_if (pt_cmpR op_eq (pe_op op_mod (pv 5) pe_int) pe_int (nomark _))
    (pss_one (ps_set (i := 7) sc_l_deed.nd rfl (Or.inl rfl) (pe_ix (kx_ixL (K := K) rfl) (pe_lst (pa_cons pe_bl (pa_cons pe_bl (pa_cons pe_non (pa_cons pe_str (pa_cons (pe_op op_sub pe_int pe_int) (pa_cons (pe_op op_powW pe_int pe_int) (pa_cons (pe_lst (pa_cons pe_int pa_nil)) (pa_cons pe_dnewK pa_nil))))))))) (pe_op op_mod (pe_op op_fdiv (pv 5) pe_int) pe_int) (fun _ _ => rfl))))
    pss_nil)
    (pss_cons (ps_set (i := 9) sc_l_deed.nd rfl (Or.inl rfl) pe_str)
    (pss_cons (ps_if (PW.pt (pw_or (pt_not (pt_val (pe_call G_l_whole (hr.mono (by decide)) rfl g_l_whole k_l_whole b_l_whole .nil pass0 (pa_cons (pv 6) pa_nil)))) (pw_or1 (pt_cmp (pc_dnotin (hu_of hr) (pv 6) (pv 1))))))
    (pss_one (ps_set (i := 9) sc_l_deed.nd rfl (Or.inl rfl) pe_str))
    (pss_one (ps_if (PW.pt (pw_and (pt_cmpR op_eq (pv 4) pe_int (nomark _)) (pw_and1 (PW.pt (pw_or (pt_not (pt_val (pe_call G_l_whole (hr.mono (by decide)) rfl g_l_whole k_l_whole b_l_whole .nil pass0 (pa_cons (pv 7) pa_nil)))) (pw_or1 (pt_not (pt_chain op_le op_lt pe_int (pv 7) (kx_fld (K := K) rfl (pv 0) rfl)))))))))
    (pss_one (ps_set (i := 9) sc_l_deed.nd rfl (Or.inl rfl) pe_str))
    (pss_one (ps_if (PW.pt (pw_and (pt_cmpR op_eq (pv 4) pe_int (nomark _)) (pw_and1 (pt_not (pt_val (pe_call G_l_whole (hr.mono (by decide)) rfl g_l_whole k_l_whole b_l_whole .nil pass0 (pa_cons (pv 8) pa_nil)))))))
    (pss_one (ps_set (i := 9) sc_l_deed.nd rfl (Or.inl rfl) pe_str))
    pss_nil)))))
    (pss_cons (ps_set (i := 10) sc_l_deed.nd rfl (Or.inl rfl) (pe_call G_l_said (hr.mono (by decide)) rfl g_l_said k_l_said b_l_said .nil pass0 (pa_cons (pv 0) (pa_cons (pv 4) (pa_cons (pv 6) (pa_cons (pv 7) (pa_cons (pv 8) pa_nil)))))))
    (pss_cons (ps_if (pt_cmpR op_ne (pe_ix (kx_ixT (K := K) rfl) (pv 10) pe_int (fun _ _ => rfl)) (pv 9) (nomark _))
    (pss_one (ps_ret pe_bl))
    pss_nil)
    (pss_cons (ps_if (pt_cmpR op_eq (pv 9) pe_str (nomark _))
    (pss_one (ps_ret (pe_call G_l_any (hr.mono (by decide)) rfl g_l_any k_l_any b_l_any .nil pass0 (pa_cons (pv 0) (pa_cons (pv 6) pa_nil)))))
    pss_nil)
    (pss_cons (ps_if (PW.pt (pw_and (pt_cmpR op_eq (pv 9) pe_str (nomark _)) (pw_and1 (pt_cmpR op_eq (pv 4) pe_int (nomark _)))))
    (pss_one (ps_ret (pe_call G_l_same (hr.mono (by decide)) rfl g_l_same k_l_same b_l_same .nil pass0 (pa_cons (pe_ix (kx_ixT (K := K) rfl) (pv 10) pe_int (fun _ _ => rfl)) (pa_cons (pe_dget (hu_of hr) (pv 1) (pv 6) (fun _ _ => rfl)) pa_nil)))))
    pss_nil)
    (pss_cons (ps_if (PW.pt (pw_and (pt_cmpR op_eq (pv 9) pe_str (nomark _)) (pw_and1 (pt_cmpR op_eq (pv 4) pe_int (nomark _)))))
    (pss_one (ps_expr (pe_dpop1 (pv 1) (pv 6) ⟨by rfl, by rfl, by rfl, by rfl⟩)))
    pss_nil)
    (pss_cons (ps_if (PW.pt (pw_and (pt_cmpR op_eq (pv 9) pe_str (nomark _)) (pw_and1 (pt_cmpR op_eq (pv 4) pe_int (nomark _)))))
    (pss_cons (ps_set (i := 11) sc_l_deed.nd rfl (Or.inl rfl) (pe_callTy (kx_list (K := K) rfl) (by rfl) (hTx.fr 12) (by decide +kernel) (pa_cons (pe_dget (hu_of hr) (pv 1) (pv 6) (fun _ _ => rfl)) pa_nil)))
    (pss_cons (ps_asg (pv 8) (pg_sub (pv 11) (pv 7) set_list))
    (pss_one (ps_dput (hu_of hr) (pv 1) (pv 6) (pv 11) rfl))))
    pss_nil)
    (pss_one (ps_ret (pe_cmp (pc_isN (pe_ix (kx_ixT (K := K) rfl) (pv 10) pe_int (fun _ _ => rfl)))))))))))))))))))))), ?_⟩)
  try dsimp only [cx_K, cx_nK]
  rintro _ M nx xe ⟨_, _, _, _, rfl, T, a, c, rfl, rfl, rfl, rfl, hL, hc, k⟩
  show S (J0 K) _ [some (.ref T.p), some (.ref a), some (.int c), some (.int T.made), none, none, none, none, none, none, none, none] M _
  have m0 := hL.ok.m0
  have w0 := hL.ok.w0
  have w1 := hL.ok.w1
  have hthl := hL.ok.hl
  have k3 : 3 + c % 3 = 3 ∨ 3 + c % 3 = 4 ∨ 3 + c % 3 = 5 := by
    have := Int.emod_nonneg c (show (3 : Int) ≠ 0 by decide)
    have := Int.emod_lt_of_pos c (show (0 : Int) < 3 by decide)
    omega
  refine s_seq (s_asgE (by walk_at "ev") ?_)
  refine s_seq (s_asgE (by walk_at "ev") ?_)
  have hbm : Bt 1999990 (c / 6) := hc.div (by decide)
  have hp3 : CPowW (c / 6 * 48271 + 7) 3 := cubeOk (Bt.add2 (hbm.mul (bt16 (i := 48271) (by decide) (by decide))) (bt16 (i := 7) (by decide) (by decide))) (by decide)
  have hm3 : CMulA (c / 6) 48271 := mulA hbm (bt16 (i := 48271) (by decide) (by decide)) (by decide)
  revert hbm hp3 hm3 k3
  generalize c / 6 = more
  generalize 3 + c % 3 = kind
  intro k3 hbm hp3 hm3
  refine s_seq (s_asgE (ev_I0 (ev_I (ev_var rfl) (ev_I0 (ev_var rfl) ev_int) (by show (0 : Int) < _; omega)) ev_int) ?_)
  refine s_seq (s_asgE (ev_I0 (ev_I (ev_I (ev_var rfl) ev_int (by show CDiv _ _; exact ⟨by decide, by decide⟩)) (ev_I0 (ev_fld (ev_var rfl) hL.t.ob (hTx.cl 20) (hTx.na 51) tf_width) ev_int) (by show (0 : Int) < _; omega)) ev_int) ?_)
  refine s_seq (s_asgE (ev_l_value (ev_I (ev_I (ev_I0 (ev_I (ev_var rfl) ev_int hm3) ev_int) ev_int hp3) ev_int (by show CDiv _ _; exact ⟨by decide, by decide⟩))) ?_)
  generalize valM ((more * 48271 + 7) ^ (3 : Int).toNat / 11) = v0
  generalize more % (T.made + 3) - 1 = n0
  generalize more / 3 % (T.w + 2) - 1 = c0
  have e6 := Int.emod_nonneg (more / 11) (show (6 : Int) ≠ 0 by decide)
  have e6' := Int.emod_lt_of_pos (more / 11) (show (0 : Int) < 6 by decide)
  have e8 := Int.emod_nonneg (more / 11) (show (8 : Int) ≠ 0 by decide)
  have e8' := Int.emod_lt_of_pos (more / 11) (show (0 : Int) < 8 by decide)
  -- the new thing
  refine s_cut (fun ρ' M' => M' = M ∧ ∃ v, tyN M v ≠ "" ∧ ρ' = [some (.ref T.p), some (.ref a), some (.int c), some (.int T.made), some (.int kind), some (.int more), some (.int n0), some (.int c0), some v, none, none, none]) ?_ ?_
  · refine s_if (by walk_at "ev") (fun _ => ?_) (fun _ => s_next ⟨rfl, .int v0, tyN_fl rfl, rfl⟩)
    obtain ⟨z, hz, hm⟩ := atI_mem (ds := [.bl true, .bl false, .non, .str "1", .lst [.int 1], .tup [.int 1]]) (k := more / 11 % 6) e6 (by simpa using e6')
    refine s_asgE (ev_ixL (en_lst (ds := [.bl true, .bl false, .non, .str "1", .lst [.int 1], .tup [.int 1]]) (ea_cons ev_bl (ea_cons ev_bl (ea_cons ev_non (ea_cons ev_str (ea_cons (en_lst (ds := [.int 1]) (ea_cons ev_int ea_nil) (sz (by simp))).ev (ea_cons (ev_tup (ds := [.int 1]) (ea_cons ev_int ea_nil) (sz (by simp))) ea_nil)))))) (sz (by simp))).ev (by walk_at "ev") .l hz) ⟨rfl, z, ?_, rfl⟩
    simp only [List.mem_cons, List.not_mem_nil, or_false] at hm
    rcases hm with rfl | rfl | rfl | rfl | rfl | rfl <;> exact tyN_fl rfl
  rintro ρ' M1 ⟨rfl, v, tv, rfl⟩
  -- a list with a dict in it, and one thing out of it
  have odd : ∀ (M0 : Mp) (ρ' : Ro) (i : Int) (x0 x1 x2 x3 x4 x5 : D) (t0 t1 t2 t3 t4 t5 ti : TE), (∀ M1, Sub M0 M1 → Ev (J0 K) t0 ρ' M1 x0) → (∀ M1, Sub M0 M1 → Ev (J0 K) t1 ρ' M1 x1) → (∀ M1, Sub M0 M1 → Ev (J0 K) t2 ρ' M1 x2) → (∀ M1, Sub M0 M1 → Ev (J0 K) t3 ρ' M1 x3) → (∀ M1, Sub M0 M1 → Ev (J0 K) t4 ρ' M1 x4) → (∀ M1, Sub M0 M1 → Ev (J0 K) t5 ρ' M1 x5) → (∀ M1, Sub M0 M1 → Ev (J0 K) ti ρ' M1 (.int i)) → 0 ≤ i → i < 8 → (∀ x ∈ [x0, x1, x2, x3, x4, x5], ∀ M1, tyN M1 x ≠ "") → ∀ R : D → Mp → Prop, (∀ z M1, Sub M0 M1 → tyN M1 z ≠ "" → R z M1) → W (J0 K) (tOp (rIxL K) (tLst (tCons t0 (tCons t1 (tCons t2 (tCons t3 (tCons t4 (tCons t5 (tCons (tLst (tCons (tC (.int 0)) tNil)) (tCons tDNewK tNil))))))))) ti) ρ' M0 R := fun M0 ρ' i x0 x1 x2 x3 x4 x5 t0 t1 t2 t3 t4 t5 ti h0 h1 h2 h3 h4 h5 hi i0 i1 hx R k => by
    refine w_op (w_lst ?_)
    refine wa_cons ((h0 M0 (Sub.refl _)).w ?_)
    refine wa_cons ((h1 M0 (Sub.refl _)).w ?_)
    refine wa_cons ((h2 M0 (Sub.refl _)).w ?_)
    refine wa_cons ((h3 M0 (Sub.refl _)).w ?_)
    refine wa_cons ((h4 M0 (Sub.refl _)).w ?_)
    refine wa_cons ((h5 M0 (Sub.refl _)).w ?_)
    refine wa_cons (Ev.w (en_lst (ds := [.int 0]) (ea_cons ev_int ea_nil) (sz (by simp))).ev ?_)
    refine wa_cons (w_dnew fun q hq => wa_nil ⟨sz (by simp), fun p hp => ?_⟩)
    have s1 : Sub M0 (ud M0 q (.dct [])) := Sub.new hq
    have s2 : Sub (ud M0 q (.dct [])) (ud (ud M0 q (.dct [])) p (.lst [x0, x1, x2, x3, x4, x5, .lst [.int 0], .ref q])) := Sub.new hp
    obtain ⟨z, hz, hm⟩ := atI_mem (ds := [x0, x1, x2, x3, x4, x5, .lst [.int 0], .ref q]) (k := i) i0 (by simpa using i1)
    refine (hi _ (s1.trans s2)).w (op2_ixL (.r ud_same) hz (k z _ (s1.trans s2) ?_))
    have : z ∈ [x0, x1, x2, x3, x4, x5] ∨ z = .lst [.int 0] ∨ z = .ref q := by
      simp only [List.mem_cons, List.not_mem_nil, or_false] at hm ⊢
      rcases hm with h | h | h | h | h | h | h | h
      · exact .inl (.inl h)
      · exact .inl (.inr (.inl h))
      · exact .inl (.inr (.inr (.inl h)))
      · exact .inl (.inr (.inr (.inr (.inl h))))
      · exact .inl (.inr (.inr (.inr (.inr (.inl h)))))
      · exact .inl (.inr (.inr (.inr (.inr (.inr h)))))
      · exact .inr (.inl h)
      · exact .inr (.inr h)
    rcases this with h | rfl | rfl
    · exact hx z h _
    · exact tyN_fl rfl
    · have e : (ud (ud M0 q (.dct [])) p (.lst [x0, x1, x2, x3, x4, x5, .lst [.int 0], .ref q])) q = some (.dct []) := s2 _ _ ud_same
      simp only [tyN, e]
      decide
  -- the number
  refine s_cut (fun ρ' M' => Sub M1 M' ∧ ∃ z, tyN M' z ≠ "" ∧ ρ' = [some (.ref T.p), some (.ref a), some (.int c), some (.int T.made), some (.int kind), some (.int more), some z, some (.int c0), some v, none, none, none]) ?_ ?_
  · refine s_if (by walk_at "ev") (fun _ => ?_) (fun _ => s_next ⟨Sub.refl _, .int n0, tyN_fl rfl, rfl⟩)
    refine s_asg (odd M1 _ (more / 11 % 8) (.bl true) (.bl false) .non (.str "0") (.int (10 ^ (30 : Int).toNat)) (.int (0 - 10 ^ (30 : Int).toNat)) _ _ _ _ _ _ _ (fun _ _ => ev_bl) (fun _ _ => ev_bl) (fun _ _ => ev_non) (fun _ _ => ev_str) (fun _ _ => by walk_at "ev") (fun _ _ => by walk_at "ev") (fun _ _ => by walk_at "ev") e8 e8' (fun x hx M1 => ?_) _ fun z M2 s2 tz => ⟨s2, z, tz, rfl⟩)
    simp only [List.mem_cons, List.not_mem_nil, or_false] at hx
    rcases hx with rfl | rfl | rfl | rfl | rfl | rfl <;> exact tyN_fl rfl
  rintro ρ' M2 ⟨s2, z, tz, rfl⟩
  -- the column
  refine s_cut (fun ρ' M' => Sub M2 M' ∧ ∃ u, tyN M' u ≠ "" ∧ ρ' = [some (.ref T.p), some (.ref a), some (.int c), some (.int T.made), some (.int kind), some (.int more), some z, some u, some v, none, none, none]) ?_ ?_
  · refine s_if (by walk_at "ev") (fun _ => ?_) (fun _ => s_next ⟨Sub.refl _, .int c0, tyN_fl rfl, rfl⟩)
    refine s_asg (odd M2 _ (more / 11 % 8) (.bl true) (.bl false) .non (.str "0") (.int (0 - 2)) (.int (10 ^ (30 : Int).toNat)) _ _ _ _ _ _ _ (fun _ _ => ev_bl) (fun _ _ => ev_bl) (fun _ _ => ev_non) (fun _ _ => ev_str) (fun _ _ => by walk_at "ev") (fun _ _ => by walk_at "ev") (fun _ _ => by walk_at "ev") e8 e8' (fun x hx M1 => ?_) _ fun z M2 s2 tz => ⟨s2, z, tz, rfl⟩)
    simp only [List.mem_cons, List.not_mem_nil, or_false] at hx
    rcases hx with rfl | rfl | rfl | rfl | rfl | rfl <;> exact tyN_fl rfl
  rintro ρ' M3 ⟨s3, u, tu, rfl⟩
  have hL := (hL.sub s2).sub s3
  have tv := tyN_sub (s2.trans s3) tv
  have tz := tyN_sub s3 tz
  clear odd s2 s3 e6 e6' e8 e8'
  -- the word
  have hwd : ∀ ρ' : Ro, ρ'[0]? = some (some (.ref T.p)) → Ev (J0 K) (tFld K (tVar 0) "width") ρ' M3 (.int T.w) := fun ρ' h => ev_fld (ev_var h) hL.t.ob (hTx.cl 20) (hTx.na 51) tf_width
  refine s_seq (s_asgE ev_str ?_)
  refine s_cut (fun ρ' M' => M' = M3 ∧ ∃ wd, Word T kind z u v wd ∧ ρ' = [some (.ref T.p), some (.ref a), some (.int c), some (.int T.made), some (.int kind), some (.int more), some z, some u, some v, some (.str wd), none, none]) ?_ ?_
  · rcases row_cases T z with hz | ⟨n, r, rfl, hr⟩
    · refine s_if (b := true) ?_ (fun _ => s_asgE ev_str ⟨rfl, _, .inl ⟨hz, rfl⟩, rfl⟩) (fun z => nomatch z)
      rcases whole_cases z with h | ⟨n, rfl⟩
      · exact (et_or (b := true) (c := false) (et_not (b := false) ((et_B (ev_l_whole (ev_var rfl) tz)).is h)) fun z => nomatch z)
      · refine (et_or (b := false) (c := true) (et_not (et_B (ev_l_wholeI (ev_var rfl)))) fun _ => ?_)
        refine (et_test (ev_dnotin (k := .inl n) (ev_var rfl) (ev_var rfl) hL.th)).is ?_
        rw [thD_val, hz n rfl]
        rfl
    refine s_if (b := false) ?_ (fun z => nomatch z) (fun _ => ?_)
    · refine (et_or (b := false) (c := false) (et_not (et_B (ev_l_wholeI (ev_var rfl)))) fun _ => ?_)
      refine (et_test (ev_dnotin (k := .inl n) (ev_var rfl) (ev_var rfl) hL.th)).is ?_
      rw [thD_val, hr]
      rfl
    rcases k3 with rfl | rfl | rfl
    · refine s_if (b := false) (et_and (b := false) (c := false) ((et_test (ev_eqI (ev_var rfl) ev_int)).is (by decide)) fun z => nomatch z) (fun z => nomatch z) (fun _ => ?_)
      exact s_if (b := false) (et_and (b := false) (c := false) ((et_test (ev_eqI (ev_var rfl) ev_int)).is (by decide)) fun z => nomatch z) (fun z => nomatch z) (fun _ => s_next ⟨rfl, _, .inr ⟨n, r, rfl, hr, .inl ⟨rfl, rfl⟩⟩, rfl⟩)
    · rcases col_cases T u with hu | ⟨m, rfl, n0, n1⟩
      · refine s_if (b := true) (et_and (b := true) (c := true) ((et_test (ev_eqI (ev_var rfl) ev_int)).is (by decide)) fun _ => ?_) (fun _ => s_asgE ev_str ⟨rfl, _, .inr ⟨n, r, rfl, hr, .inr (.inr ⟨rfl, .inl ⟨hu, rfl⟩⟩)⟩, rfl⟩) (fun z => nomatch z)
        rcases whole_cases u with h | ⟨m, rfl⟩
        · exact (et_or (b := true) (c := false) (et_not (b := false) ((et_B (ev_l_whole (ev_var rfl) tu)).is h)) fun z => nomatch z)
        · refine (et_or (b := false) (c := true) (et_not (et_B (ev_l_wholeI (ev_var rfl)))) fun _ => et_not (b := false) ((et_test (ev_chainB (f := fun i j => decide (i ≤ j)) (g := fun i j => decide (i < j)) ev_int (ev_var rfl) (hwd _ rfl))).is ?_))
          have := hu m rfl
          rw [Bool.eq_false_iff]
          intro z
          rw [Bool.and_eq_true] at z
          exact this ⟨of_decide_eq_true z.1, of_decide_eq_true z.2⟩
      refine s_if (b := false) (et_and (b := true) (c := false) ((et_test (ev_eqI (ev_var rfl) ev_int)).is (by decide)) fun _ => ?_) (fun z => nomatch z) (fun _ => ?_)
      · refine (et_or (b := false) (c := false) (et_not (et_B (ev_l_wholeI (ev_var rfl)))) fun _ => et_not (b := true) ((et_test (ev_chainB (f := fun i j => decide (i ≤ j)) (g := fun i j => decide (i < j)) ev_int (ev_var rfl) (hwd _ rfl))).is ?_))
        rw [decide_eq_true n0, decide_eq_true n1]
        rfl
      rcases whole_cases v with hv | ⟨w, rfl⟩
      · exact s_if (b := true) (et_and (b := true) (c := true) ((et_test (ev_eqI (ev_var rfl) ev_int)).is (by decide)) fun _ => et_not (b := false) ((et_B (ev_l_whole (ev_var rfl) tv)).is hv)) (fun _ => s_asgE ev_str ⟨rfl, _, .inr ⟨n, r, rfl, hr, .inr (.inr ⟨rfl, .inr ⟨m, rfl, n0, n1, .inl ⟨hv, rfl⟩⟩⟩)⟩, rfl⟩) (fun z => nomatch z)
      · exact s_if (b := false) (et_and (b := true) (c := false) ((et_test (ev_eqI (ev_var rfl) ev_int)).is (by decide)) fun _ => et_not (et_B (ev_l_wholeI (ev_var rfl)))) (fun z => nomatch z) (fun _ => s_next ⟨rfl, _, .inr ⟨n, r, rfl, hr, .inr (.inr ⟨rfl, .inr ⟨m, rfl, n0, n1, .inr ⟨w, rfl, rfl⟩⟩⟩)⟩, rfl⟩)
    · refine s_if (b := false) (et_and (b := false) (c := false) ((et_test (ev_eqI (ev_var rfl) ev_int)).is (by decide)) fun z => nomatch z) (fun z => nomatch z) (fun _ => ?_)
      exact s_if (b := false) (et_and (b := false) (c := false) ((et_test (ev_eqI (ev_var rfl) ev_int)).is (by decide)) fun z => nomatch z) (fun z => nomatch z) (fun _ => s_next ⟨rfl, _, .inr ⟨n, r, rfl, hr, .inr (.inl ⟨rfl, rfl⟩)⟩, rfl⟩)
  rintro ρ' M' ⟨rfl, wd, hw, rfl⟩
  -- what is said, and the word
  have first : ∀ (ρ' : Ro) (M4 : Mp) (s : Str) (x : D), ρ'[9]? = some (some (.str s)) → ρ'[10]? = some (some (saidD s x)) → ET (J0 K) (tTest (tOp rNe (tOp (rIxT K) (tVar 10) (tC (.int 0))) (tVar 9))) ρ' M4 false := fun ρ' M4 s x h9 h10 => (et_test (ev_neS (ev_ixT (ds := [.str s, x]) (ev_var h10) ev_int rfl) (ev_var h9))).is (by simp)
  have isw : ∀ (ρ' : Ro) (M4 : Mp) (s t : Str) (b : Bool), ρ'[9]? = some (some (.str s)) → decide (s = t) = b → ET (J0 K) (tTest (tOp rEq (tVar 9) (tC (.str t)))) ρ' M4 b := fun ρ' M4 s t b h9 e => (et_test (ev_eqS (ev_var h9) ev_str)).is e
  have last : ∀ (ρ' : Ro) (M4 : Mp) (s : Str), ρ'[10]? = some (some (saidD s .non)) → Ev (J0 K) (tIsN (tOp (rIxT K) (tVar 10) (tC (.int 1)))) ρ' M4 (.bl true) := fun ρ' M4 s h10 => (ev_isN (ev_ixT (ds := [.str s, .non]) (ev_var h10) ev_int rfl)).is rfl
  rcases hw with ⟨hz, rfl⟩ | ⟨n, r, rfl, hr, hw⟩
  · refine s_seq (s_asg (w_l_said (T := T) (kind := kind) (ev_var rfl) (ev_var rfl) (ev_var rfl) (ev_var rfl) (ev_var rfl) hL.t hL.ok tz tu tv k3 (.inl ⟨hz, ?_⟩)))
    refine s_seq (s_if (b := false) (first _ _ _ _ rfl rfl) (fun z => nomatch z) (fun _ => s_next ?_))
    refine s_seq (s_if (b := true) (isw _ _ _ _ _ rfl (by decide +kernel)) (fun _ => ?_) (fun z => nomatch z))
    exact s_retE (ev_l_any (T := T) (ev_var rfl) (ev_var rfl) hL.t tz hz) (k _ T hL rfl rfl rfl)
  have hrm : r.length = T.w.toNat := hL.ok.wi _ (thGet_mem hr)
  have hdv : valA (thD T.th) (.inl n) = some (rowD r) := by rw [thD_val, hr]; rfl
  rcases hw with ⟨rfl, rfl⟩ | ⟨rfl, rfl⟩ | ⟨rfl, hw⟩
  · refine s_seq (s_asg (w_l_said (T := T) (kind := 3) (ev_var rfl) (ev_var rfl) (ev_var rfl) (ev_var rfl) (ev_var rfl) hL.t hL.ok tz tu tv k3 (.inr ⟨n, r, rfl, hr, .inl ⟨rfl, fun M4 st => ?_⟩⟩)))
    obtain ⟨ha4, na4⟩ := hL.step st
    refine s_seq (s_if (b := false) (first _ _ _ _ rfl rfl) (fun z => nomatch z) (fun _ => s_next ?_))
    refine s_seq (s_if (b := false) (isw _ _ _ _ _ rfl (by decide +kernel)) (fun z => nomatch z) (fun _ => s_next ?_))
    refine s_seq (s_if (b := false) (et_and (b := true) (c := false) (isw _ _ _ _ _ rfl (by decide +kernel)) fun _ => (et_test (ev_eqI (ev_var rfl) ev_int)).is (by decide)) (fun z => nomatch z) (fun _ => s_next ?_))
    refine s_seq (s_if (b := true) (et_and (b := true) (c := true) (isw _ _ _ _ _ rfl (by decide +kernel)) fun _ => (et_test (ev_eqI (ev_var rfl) ev_int)).is (by decide)) (fun _ => ?_) (fun z => nomatch z))
    refine s_drop (w_dpop1 (k := .inl n) (a := a) (z := rowD r) (ev_var rfl) (ev_var rfl) ha4 hdv ?_)
    rw [thD_drop]
    refine s_seq (s_if (b := false) (et_and (b := true) (c := false) (isw _ _ _ _ _ rfl (by decide +kernel)) fun _ => (et_test (ev_eqI (ev_var rfl) ev_int)).is (by decide)) (fun z => nomatch z) (fun _ => s_next ?_))
    exact s_retE (last _ _ _ rfl) (k _ _ ⟨dct_put st.at' ha4 na4, st.ok, by rw [st.th]; exact ud_same, na4⟩ st.p st.w st.made)
  · refine s_seq (s_asg (w_l_said (T := T) (kind := 5) (ev_var rfl) (ev_var rfl) (ev_var rfl) (ev_var rfl) (ev_var rfl) hL.t hL.ok tz tu tv k3 (.inr ⟨n, r, rfl, hr, .inr (.inl ⟨rfl, ?_⟩)⟩)))
    refine s_seq (s_if (b := false) (first _ _ _ _ rfl rfl) (fun z => nomatch z) (fun _ => s_next ?_))
    refine s_seq (s_if (b := false) (isw _ _ _ _ _ rfl (by decide +kernel)) (fun z => nomatch z) (fun _ => s_next ?_))
    refine s_seq (s_if (b := true) (et_and (b := true) (c := true) (isw _ _ _ _ _ rfl (by decide +kernel)) fun _ => (et_test (ev_eqI (ev_var rfl) ev_int)).is (by decide)) (fun _ => ?_) (fun z => nomatch z))
    exact s_retE (ev_l_same (r := r) (ev_ixT (ds := [.str "given", .tup (r.map .int)]) (ev_var rfl) ev_int rfl) (ev_dget (k := .inl n) (ev_var rfl) (ev_var rfl) hL.th hdv) .l (by omega)) (k _ T hL rfl rfl rfl)
  rcases hw with ⟨hu, rfl⟩ | ⟨m, rfl, n0, n1, hw⟩
  · refine s_seq (s_asg (w_l_said (T := T) (kind := 4) (ev_var rfl) (ev_var rfl) (ev_var rfl) (ev_var rfl) (ev_var rfl) hL.t hL.ok tz tu tv k3 (.inr ⟨n, r, rfl, hr, .inr (.inr ⟨rfl, .inl ⟨hu, ?_⟩⟩)⟩)))
    refine s_seq (s_if (b := false) (first _ _ _ _ rfl rfl) (fun z => nomatch z) (fun _ => s_next ?_))
    refine s_seq (s_if (b := false) (isw _ _ _ _ _ rfl (by decide +kernel)) (fun z => nomatch z) (fun _ => s_next ?_))
    refine s_seq (s_if (b := false) (et_and (b := false) (c := false) (isw _ _ _ _ _ rfl (by decide +kernel)) fun z => nomatch z) (fun z => nomatch z) (fun _ => s_next ?_))
    refine s_seq (s_if (b := false) (et_and (b := false) (c := false) (isw _ _ _ _ _ rfl (by decide +kernel)) fun z => nomatch z) (fun z => nomatch z) (fun _ => s_next ?_))
    refine s_seq (s_if (b := false) (et_and (b := false) (c := false) (isw _ _ _ _ _ rfl (by decide +kernel)) fun z => nomatch z) (fun z => nomatch z) (fun _ => s_next ?_))
    exact s_retE (last _ _ _ rfl) (k _ T hL rfl rfl rfl)
  rcases hw with ⟨hv, rfl⟩ | ⟨w, rfl, rfl⟩
  · refine s_seq (s_asg (w_l_said (T := T) (kind := 4) (ev_var rfl) (ev_var rfl) (ev_var rfl) (ev_var rfl) (ev_var rfl) hL.t hL.ok tz tu tv k3 (.inr ⟨n, r, rfl, hr, .inr (.inr ⟨rfl, .inr ⟨m, rfl, n0, n1, .inl ⟨hv, ?_⟩⟩⟩)⟩)))
    refine s_seq (s_if (b := false) (first _ _ _ _ rfl rfl) (fun z => nomatch z) (fun _ => s_next ?_))
    refine s_seq (s_if (b := false) (isw _ _ _ _ _ rfl (by decide +kernel)) (fun z => nomatch z) (fun _ => s_next ?_))
    refine s_seq (s_if (b := false) (et_and (b := false) (c := false) (isw _ _ _ _ _ rfl (by decide +kernel)) fun z => nomatch z) (fun z => nomatch z) (fun _ => s_next ?_))
    refine s_seq (s_if (b := false) (et_and (b := false) (c := false) (isw _ _ _ _ _ rfl (by decide +kernel)) fun z => nomatch z) (fun z => nomatch z) (fun _ => s_next ?_))
    refine s_seq (s_if (b := false) (et_and (b := false) (c := false) (isw _ _ _ _ _ rfl (by decide +kernel)) fun z => nomatch z) (fun z => nomatch z) (fun _ => s_next ?_))
    exact s_retE (last _ _ _ rfl) (k _ T hL rfl rfl rfl)
  refine s_seq (s_asg (w_l_said (T := T) (kind := 4) (ev_var rfl) (ev_var rfl) (ev_var rfl) (ev_var rfl) (ev_var rfl) hL.t hL.ok tz tu tv k3 (.inr ⟨n, r, rfl, hr, .inr (.inr ⟨rfl, .inr ⟨m, rfl, n0, n1, .inr ⟨w, rfl, fun M4 st => ?_⟩⟩⟩)⟩)))
  obtain ⟨ha4, na4⟩ := hL.step st
  refine s_seq (s_if (b := false) (first _ _ _ _ rfl rfl) (fun z => nomatch z) (fun _ => s_next ?_))
  refine s_seq (s_if (b := false) (isw _ _ _ _ _ rfl (by decide +kernel)) (fun z => nomatch z) (fun _ => s_next ?_))
  refine s_seq (s_if (b := false) (et_and (b := true) (c := false) (isw _ _ _ _ _ rfl (by decide +kernel)) fun _ => (et_test (ev_eqI (ev_var rfl) ev_int)).is (by decide)) (fun z => nomatch z) (fun _ => s_next ?_))
  refine s_seq (s_if (b := false) (et_and (b := true) (c := false) (isw _ _ _ _ _ rfl (by decide +kernel)) fun _ => (et_test (ev_eqI (ev_var rfl) ev_int)).is (by decide)) (fun z => nomatch z) (fun _ => s_next ?_))
  refine s_seq (s_if (b := true) (et_and (b := true) (c := true) (isw _ _ _ _ _ rfl (by decide +kernel)) fun _ => (et_test (ev_eqI (ev_var rfl) ev_int)).is (by decide)) (fun _ => ?_) (fun z => nomatch z))
  refine s_seq (s_asg ((en_list (ds := r.map .int) (ev_dget (k := .inl n) (z := rowD r) (ev_var rfl) (ev_var rfl) ha4 hdv) .l).w fun h hh => ?_))
  have d2 : a ≠ h := ne_old ha4 hh
  refine s_seq (s_setL (a := h) (k := m) (j := m.toNat) (ds := r.map .int) (x := .int w) (ev_var rfl) (ev_var rfl) (ev_var rfl) ud_same (by unfold ixN; rw [if_pos n0, if_pos (by rw [List.length_map]; omega)]) ?_)
  rw [ud_ud]
  refine s_freeze (a := h) (i := 11) ud_same rfl ?_
  rw [del_ud hh]
  have es : (r.map D.int).set m.toNat (.int w) = (r.set m.toNat w).map .int := List.map_set.symm
  rw [es]
  refine s_dput (k := .inl n) (a := a) (kvs := thD T.th) (x := rowD (r.set m.toNat w)) (ev_var rfl) (ev_var rfl) (ev_var rfl) ha4 (szl (by rw [thD_len]; omega)) ?_
  rw [thD_put]
  exact s_retE (last _ _ _ rfl) (k _ _ ⟨dct_put st.at' ha4 na4, st.ok, by rw [st.th]; exact ud_same, na4⟩ st.p st.w st.made)

def pr_law (K : PySem.W.Frag) : Pr := q1 fun x M nx _ => ∃ ns : List Int, x = .frl (ns.map .int) ∧ ns.length ≤ 63 ∧ (∀ z ∈ ns, Bt 1048576 z) ∧ ∀ M', nx (.bl true) M'
theorem cut_any (xs : List Int) (lo hi : Option Int) : ∃ ys : List Int, cutD (xs.map D.int) lo hi = ys.map D.int ∧ ∀ y ∈ ys, y ∈ xs := by
  unfold cutD
  rw [List.length_map]
  exact ⟨(xs.drop (HT.sIx xs.length 0 lo)).take (HT.sIx xs.length xs.length hi - HT.sIx xs.length 0 lo), by rw [List.map_take, List.map_drop], fun y hy => List.mem_of_mem_drop (List.mem_of_mem_take hy)⟩
theorem new_ok {p hd kl : Addr} {w : Int} (w0 : 0 < w) (w1 : w ≤ 6) : TabOk ⟨p, hd, kl, w, 0, [], []⟩ := ⟨List.nodup_nil, fun n hn => (nomatch hn), fun q hq => (nomatch hq), w0, w1, Int.le_refl 0, Nat.zero_le _, fun k hk => (nomatch hk), List.nodup_nil, Nat.zero_le _⟩
theorem adr_some {K : PySem.W.Frag} {M : Mp} {T : Tb} (h : TabAt K M T) : ∀ x ∈ T.adr, ∃ o, M x = some o := fun x z => by
  simp only [Tb.adr, List.mem_cons] at z
  rcases z with e | e | e | e
  · exact ⟨_, by rw [e]; exact h.ob⟩
  · exact ⟨_, by rw [e]; exact h.dc⟩
  · exact ⟨_, by rw [e]; exact h.ka.li⟩
  · obtain ⟨q, hq, e⟩ := List.mem_map.mp e
    exact ⟨_, by rw [← e]; exact (h.ka.ke q hq).en⟩
/-- a row has been put, the law has not noted it yet -/
structure MidAt (K : PySem.W.Frag) (M : Mp) (T : Tb) (r : List Int) (a : Addr) : Prop where
  t : TabAt K M (T.put r)
  ok : TabOk (T.put r)
  th : M a = some (.dct (thD T.th))
  na : a ∉ (T.put r).adr
  no : thGet T.th T.made = none
  le : T.th.length ≤ 199
theorem mid_of {K : PySem.W.Frag} {M M' : Mp} {T : Tb} {r : List Int} {a : Addr} {th : Th} {made : Int} {os : List (List Int)} (h : DeedAt K M T a) (st : TStep K M M' T (T.put r) th made os) (hl : T.th.length ≤ 199) : MidAt K M' T r a :=
  ⟨st.at', st.ok, (h.step st).1, (h.step st).2, thGet_none.mpr fun z => by have := h.ok.rg _ z; omega, hl⟩
theorem MidAt.note {K : PySem.W.Frag} {M : Mp} {T : Tb} {r : List Int} {a : Addr} (h : MidAt K M T r a) : DeedAt K (ud M a (.dct (putA (thD T.th) (.inl T.made) (rowD r)))) (T.put r) a := by
  have e : putA (thD T.th) (.inl T.made) (rowD r) = thD (T.put r).th := by
    rw [thD_put]
    unfold thPut
    rw [h.no]
    rfl
  rw [e]
  exact ⟨dct_put h.t h.th h.na, h.ok, ud_same, h.na⟩
abbrev nm_law : List Str := ["_law_script", "_law_table", "_law_there", "_law_made", "_law_deed_here", "_law_row_here", "_law_handed", "_law_found", "_law_first", "_law_numbers", "_law_number"]
theorem sc_law : FnScope nm_law ["_law_script"] (defScope s_law) := ⟨rfl, rfl, rfl, by decide +kernel, rfl, by decide +kernel, by decide +kernel⟩
theorem ok_law {fd : FuncData} (F : Fun K "law" "law" s_law (He.ga K "law") fd) (hTx : Tx K mg) : FnOk P w K mg base CX0 7 (He.ga K "law") fd ["_law_script"] (spD K (pr_law K)) := by
  obtain ⟨_, G_l_at, b_l_at, k_l_at, g_l_at⟩ := ok_l_at (P := P) (w := w) (base := base) hTx
  obtain ⟨_, G_Table_init, b_Table_init⟩ := ok_Table_init (P := P) (w := w) (base := base) hTx
  obtain ⟨_, G_l_row, b_l_row, k_l_row, g_l_row⟩ := ok_l_row (P := P) (w := w) (base := base) hTx
  obtain ⟨_, G_Table_put, b_Table_put⟩ := ok_Table_put (P := P) (w := w) (base := base) hTx
  obtain ⟨_, G_l_whole, b_l_whole, k_l_whole, g_l_whole⟩ := ok_l_whole (P := P) (w := w) (base := base) hTx
  obtain ⟨_, G_l_deed, b_l_deed, k_l_deed, g_l_deed⟩ := ok_l_deed (P := P) (w := w) (base := base) hTx
  obtain ⟨_, G_Table_numbers, b_Table_numbers⟩ := ok_Table_numbers (P := P) (w := w) (base := base) hTx
  obtain ⟨_, G_Table_row, b_Table_row⟩ := ok_Table_row (P := P) (w := w) (base := base) hTx
  obtain ⟨_, G_l_same, b_l_same, k_l_same, g_l_same⟩ := ok_l_same (P := P) (w := w) (base := base) hTx
  refine fn_dl F sc_law (fun _ _ _ _ h => q1_len h) (fun cdv A outer s H E hr => ⟨_, (pss_cons (ps_set (i := 1) sc_law.nd rfl (Or.inl rfl) (pe_make (hTx.mr 41) G_Table_init (hr.mono (by decide)) rfl (hTx.gl 42) b_Table_init .nil pass0 (pa_cons (pe_op op_add pe_int (pe_op op_mod (pe_call G_l_at (hr.mono (by decide)) rfl g_l_at k_l_at b_l_at .nil pass0 (pa_cons (pv 0) (pa_cons pe_int pa_nil))) pe_int)) pa_nil)))
    (pss_cons (ps_set (i := 2) sc_law.nd rfl (Or.inl rfl) pe_dnewK)
    (pss_cons (ps_set (i := 3) sc_law.nd rfl (Or.inl rfl) pe_int)
    (pss_cons (ps_for PassesOwn.never rfl (kx_plist (K := K) rfl (pe_slice (kx_sl (K := K) rfl) (pv 0) (po_some pe_int) po_none)) (pg_name (i := 4) sc_law.nd rfl (Or.inl rfl))
    (pss_one (ps_if (PW.pt (pw_and (pt_cmpR op_lt (pe_op op_mod (pv 4) pe_int) pe_int (nomark _)) (pw_and1 (pt_cmpR op_lt (pe_callB call_lenD (by rfl) (hTx.fr 1) (by decide +kernel) (pa_cons (pv 2) pa_nil)) pe_int (nomark _)))))
    (pss_cons (ps_set (i := 5) sc_law.nd rfl (Or.inl rfl) (pe_call G_l_row (hr.mono (by decide)) rfl g_l_row k_l_row b_l_row .nil pass0 (pa_cons (pe_op op_fdiv (pv 4) pe_int) (pa_cons (pe_op op_add pe_int (pe_op op_mod (pe_call G_l_at (hr.mono (by decide)) rfl g_l_at k_l_at b_l_at .nil pass0 (pa_cons (pv 0) (pa_cons pe_int pa_nil))) pe_int)) pa_nil))))
    (pss_cons (ps_set (i := 6) sc_law.nd rfl (Or.inl rfl) (pe_callTy (kx_list (K := K) rfl) (by rfl) (hTx.fr 12) (by decide +kernel) (pa_cons (pv 5) pa_nil)))
    (pss_cons (ps_set (i := 7) sc_law.nd rfl (Or.inl rfl) (pe_meth (pv 1) (hTx.cl 20) (hTx.me 43) G_Table_put (hr.mono (by decide)) b_Table_put .nil pass0 (pa_cons (pe_callTy (kx_tuple (K := K) rfl) (by rfl) (hTx.fr 13) (by decide +kernel) (pa_cons (pv 5) pa_nil)) pa_nil)))
    (pss_cons (ps_if (pt_cmpR op_eq (pe_op op_mod (pv 4) pe_int) pe_int (nomark _))
    (pss_cons (ps_dput (hu_of hr) (pv 2) (pv 3) (pv 5) rfl)
    (pss_cons (ps_if (PW.pt (pw_or (pt_not (pt_val (pe_call G_l_whole (hr.mono (by decide)) rfl g_l_whole k_l_whole b_l_whole .nil pass0 (pa_cons (pv 7) pa_nil)))) (pw_or1 (pt_cmpR op_ne (pv 7) (pv 3) (nomark _)))))
    (pss_one (ps_ret pe_bl))
    pss_nil)
    (pss_cons (ps_set (i := 3) sc_law.nd rfl (Or.inl rfl) (pe_op op_add (pv 3) pe_int))
    (pss_cons (ps_set (i := 7) sc_law.nd rfl (Or.inl rfl) (pe_meth (pv 1) (hTx.cl 20) (hTx.me 43) G_Table_put (hr.mono (by decide)) b_Table_put .nil pass0 (pa_cons (pv 6) pa_nil)))
    (pss_one (ps_asg (pe_op op_add (pe_ix (kx_ixL (K := K) rfl) (pv 6) pe_int (fun _ _ => rfl)) pe_int) (pg_sub (pv 6) pe_int set_list)))))))
    pss_nil)
    (pss_cons (ps_dput (hu_of hr) (pv 2) (pv 3) (pv 5) rfl)
    (pss_cons (ps_if (PW.pt (pw_or (pt_not (pt_val (pe_call G_l_whole (hr.mono (by decide)) rfl g_l_whole k_l_whole b_l_whole .nil pass0 (pa_cons (pv 7) pa_nil)))) (pw_or1 (pt_cmpR op_ne (pv 7) (pv 3) (nomark _)))))
    (pss_one (ps_ret pe_bl))
    pss_nil)
    (pss_one (ps_set (i := 3) sc_law.nd rfl (Or.inl rfl) (pe_op op_add (pv 3) pe_int)))))))))
    (pss_one (ps_if (pt_not (pt_val (pe_call G_l_deed (hr.mono (by decide)) rfl g_l_deed k_l_deed b_l_deed .nil pass0 (pa_cons (pv 1) (pa_cons (pv 2) (pa_cons (pv 4) (pa_cons (pv 3) pa_nil)))))))
    (pss_one (ps_ret pe_bl))
    pss_nil)))))
    (pss_cons (ps_set (i := 8) sc_law.nd rfl (Or.inl rfl) (pe_meth0 (pv 1) (hTx.cl 20) (hTx.me 34) G_Table_numbers (hr.mono (by decide)) b_Table_numbers .nil pass0))
    (pss_cons (ps_expr (pe_bm PySem.F.plainAttrs_list PySem.F.slot_list_append PySem.F.type_list_append mt_append (pv 8) (pa_cons (pe_op op_sub pe_int pe_int) pa_nil)))
    (pss_cons (ps_set (i := 9) sc_law.nd rfl (Or.inl rfl) (pe_meth0 (pv 1) (hTx.cl 20) (hTx.me 34) G_Table_numbers (hr.mono (by decide)) b_Table_numbers .nil pass0))
    (pss_cons (ps_if (pt_cmpR op_ne (pe_callB (kx_len (K := K) rfl) (by rfl) (hTx.fr 1) (by decide +kernel) (pa_cons (pv 8) pa_nil)) (pe_op op_add (pe_callB (kx_len (K := K) rfl) (by rfl) (hTx.fr 1) (by decide +kernel) (pa_cons (pv 9) pa_nil)) pe_int) (nomark _))
    (pss_one (ps_ret pe_bl))
    pss_nil)
    (pss_cons (ps_if (PW.pt (pw_or (pt_not (pt_val (pe_callB (kx_isi (K := K) rfl) (by rfl) (hTx.fr 3) (by decide +kernel) (pa_cons (pv 9) (pa_cons (pe_bltn (v := .ty "list") (by rfl) (hTx.fr 12) (by decide +kernel) rfl) pa_nil))))) (pw_or (pt_cmpR (kx_neD (K := K) rfl (hu64 hr)) (pv 9) (pe_sortedKeys rfl (pv 2) (by rfl) (hTx.fr 25) (by decide +kernel)) (nomark _)) (pw_or1 (pt_cmpR op_ne (kx_fld (K := K) rfl (pv 1) rfl) (pe_op op_add pe_int (pe_op op_mod (pe_call G_l_at (hr.mono (by decide)) rfl g_l_at k_l_at b_l_at .nil pass0 (pa_cons (pv 0) (pa_cons pe_int pa_nil))) pe_int)) (nomark _))))))
    (pss_one (ps_ret pe_bl))
    pss_nil)
    (pss_cons (ps_for PassesOwn.never rfl (kx_plist (K := K) rfl (pv 9)) (pg_name (i := 10) sc_law.nd rfl (Or.inl rfl))
    (pss_one (ps_if (PW.pt (pw_or (pt_not (pt_val (pe_call G_l_whole (hr.mono (by decide)) rfl g_l_whole k_l_whole b_l_whole .nil pass0 (pa_cons (pv 10) pa_nil)))) (pw_or1 (pt_not (pt_val (pe_call G_l_same (hr.mono (by decide)) rfl g_l_same k_l_same b_l_same .nil pass0 (pa_cons (pe_meth (pv 1) (hTx.cl 20) (hTx.me 38) G_Table_row (hr.mono (by decide)) b_Table_row .nil pass0 (pa_cons (pv 10) pa_nil)) (pa_cons (pe_dget (hu_of hr) (pv 2) (pv 10) (fun _ _ => rfl)) pa_nil))))))))
    (pss_one (ps_ret pe_bl))
    pss_nil)))
    (pss_one (ps_ret pe_bl)))))))))))), ?_⟩)
  try dsimp only [cx_K, cx_nK]
  rintro _ M nx xe ⟨x, rfl, ns, rfl, hl, hb, k⟩
  show S (J0 K) _ [some (.frl (ns.map .int)), none, none, none, none, none, none, none, none, none, none] M _
  have m6 : 0 ≤ atM ns 0 % 6 ∧ atM ns 0 % 6 < 6 := ⟨Int.emod_nonneg _ (by decide), Int.emod_lt_of_pos _ (by decide)⟩
  have hw0 : 0 < 1 + atM ns 0 % 6 := by omega
  have hw1 : 1 + atM ns 0 % 6 ≤ 6 := by omega
  obtain ⟨w, hw⟩ : ∃ w, 1 + atM ns 0 % 6 = w := ⟨_, rfl⟩
  rw [hw] at hw0 hw1
  refine s_seq (s_asg (w_make (ea_cons (Ev.is (by walk_at "ev") (by rw [hw])) ea_nil) fun p hp => ⟨_, _, rfl, p, w, rfl, rfl, hw0, hw1, ud_same, fun M3 hd kl h1 h2 h3 h4 h5 h6 hT => ⟨rfl, ?_⟩⟩))
  refine s_seq (s_asg (w_dnew fun a ha => ?_))
  have hL : DeedAt K (ud M3 a (.dct [])) ⟨p, hd, kl, w, 0, [], []⟩ a := ⟨hT.sub (Sub.new ha), new_ok hw0 hw1, ud_same, fun z => by
    obtain ⟨o, e⟩ := adr_some hT a z
    rw [ha] at e
    cases e⟩
  have eT : (⟨p, hd, kl, w, 0, [], []⟩ : Tb).p = p ∧ (⟨p, hd, kl, w, 0, [], []⟩ : Tb).w = w ∧ (⟨p, hd, kl, w, 0, [], []⟩ : Tb).made = 0 := ⟨rfl, rfl, rfl⟩
  revert hL eT
  generalize (⟨p, hd, kl, w, 0, [], []⟩ : Tb) = T
  generalize ud M3 a (.dct []) = M4
  intro hL eT
  obtain ⟨eT1, eT2, eT3⟩ := eT
  clear hT h1 h2 h6
  refine s_seq (s_asgE ev_int ?_)
  obtain ⟨ys, ey, hys⟩ := cut_any ns (some 1) none
  refine s_seq (s_for (src_l (x := .lst (ys.map .int)) (Ev.is (EvN.ev (en_sl (ev_var rfl) (eo_of ev_int) eo_no .f)) (by rw [ey])) (.inl rfl)) (fun i ρ' M' => ∃ T' b4 b5 b6 b7, DeedAt K M' T' a ∧ T'.p = p ∧ T'.w = w ∧ ρ' = [some (.frl (ns.map .int)), some (.ref p), some (.ref a), some (.int T'.made), b4, b5, b6, b7, none, none, none]) ⟨T, _, _, _, _, hL, eT1, eT2, by rw [eT3]; rfl⟩ (fun _ _ _ _ => trivial) ?_ ?_)
  · rintro i d ρ' M' hdd ⟨T', b4, b5, b6, b7, hL, q1, q2, rfl⟩
    obtain ⟨y, hy, rfl⟩ := get_int hdd
    have hby : Bt 1999990 y := (hb y (hys y (List.mem_of_getElem? hy))).mono (by decide)
    have hthl := hL.ok.hl
    refine sg_name ?_
    refine s_if (b := decide (y % 6 < 3) && decide (((thD T'.th).length : Int) < 198)) (et_and (et_test (by walk_at "ev")) fun _ => (et_test (ev_B0 (ev_lenD (ev_var rfl) hL.th) ev_int))) (fun hc => ?_) (fun _ => ?_)
    · have hlt : T'.th.length < 198 := by
        have := of_decide_eq_true (Bool.and_eq_true_iff.mp hc).2
        rw [thD_len] at this
        omega
      refine s_seq (s_asgE (d := rowD (rowM (y / 6) w)) (en_l_row (c := y / 6) (w := w) (by walk_at "ev") (Ev.is (by walk_at "ev") (by rw [hw])) (by omega) (by omega) ((hby.div (by decide)).mono (by decide))).ev ?_)
      have hrl : ((rowM (y / 6) w).length : Int) = w := by rw [rowM_len]; omega
      revert hrl
      generalize rowM (y / 6) w = r
      intro hrl
      refine s_seq (s_asg ((en_list (ds := r.map .int) (ev_var rfl) .l).w fun h hh => ?_))
      have hL1 := hL.sub (Sub.new (o := .lst (r.map .int)) hh)
      have hhA : h ∉ T'.adr := fun z => by
        obtain ⟨o, e⟩ := adr_some hL.t h z
        rw [hh] at e
        cases e
      have hha : h ≠ a := (ne_old hL.th hh).symm
      refine s_seq (s_asg (w_Table_put (T := T') (r := r) (by rw [q1]; exact ev_var rfl) (ev_tuple (ds := r.map .int) (ev_var rfl) IsL.l.q) .t (fun y hy z => nomatch z) hL1.t hL1.ok (by rw [q2]; exact hrl) (by omega) fun M2 st => ?_))
      have hM := mid_of hL1 st (by omega)
      have hh2 : M2 h = some (.lst (r.map .int)) := st.fr _ _ hhA ud_same
      have hhA2 : h ∉ (T'.put r).adr := by rw [Tb.put_adr]; exact hhA
      have whole : ∀ (M' : Mp) (ρ' : Ro) (m : Int), ρ'[7]? = some (some (.int m)) → ρ'[3]? = some (some (.int m)) → ET (J0 K) (tOr (tNot (tB (tCall (spD K (pr_l_whole K)) [] E0 (tCons (tVar 7) tNil)))) (tTest (tOp rNe (tVar 7) (tVar 3)))) ρ' M' false := fun M' ρ' m h7 h3 => et_or (b := false) (c := false) (et_not (et_B (ev_l_wholeI (ev_var h7)))) fun _ => (et_test (ev_neI (ev_var h7) (ev_var h3))).is (by simp)
      refine s_cut (fun ρ' M5 => ∃ T2 b6, MidAt K M5 T2 r a ∧ T2.p = p ∧ T2.w = w ∧ ρ' = [some (.frl (ns.map .int)), some (.ref p), some (.ref a), some (.int T2.made), some (.int y), some (rowD r), b6, some (.int T2.made), none, none, none]) ?_ ?_
      · refine s_if (et_test (by walk_at "ev")) (fun _ => ?_) (fun _ => s_next ⟨T', _, hM, q1, q2, rfl⟩)
        refine s_seq (s_dput (k := .inl T'.made) (a := a) (kvs := thD T'.th) (x := rowD r) (ev_var rfl) (ev_var rfl) (ev_var rfl) hM.th (szl (by rw [thD_len]; omega)) ?_)
        have hN := hM.note
        have hh3 : (ud M2 a (.dct (putA (thD T'.th) (.inl T'.made) (rowD r)))) h = some (.lst (r.map .int)) := by rw [ud_ne hha]; exact hh2
        refine s_seq (s_if (b := false) (whole _ _ _ rfl rfl) (fun z => nomatch z) (fun _ => s_next ?_))
        refine s_seq (s_asgE (ev_I0 (ev_var rfl) ev_int) ?_)
        refine s_seq (s_asg (w_Table_put (T := T'.put r) (r := r) (by show Ev _ _ _ _ (.ref T'.p); rw [q1]; exact ev_var rfl) (ev_var rfl) (IsL.r hh3).q (fun y hy z => by cases z; exact hhA2 hy) hN.t hN.ok (by show _ = T'.w; rw [q2]; exact hrl) (by show (T'.th ++ _).length < 200; rw [List.length_append]; simp; omega) fun M6 st2 => ?_))
        have hM2 := mid_of hN st2 (by show (T'.th ++ _).length ≤ 199; rw [List.length_append]; simp; omega)
        have hhA3 : h ∉ ((T'.put r).put r).adr := by rw [Tb.put_adr]; exact hhA2
        have hh4 : M6 h = some (.lst (r.map .int)) := st2.fr _ _ hhA2 hh3
        have hr0 : 0 < r.length := by omega
        refine s_setL (a := h) (k := 0) (j := 0) (ds := r.map .int) (x := .int (r.getD 0 0 + 1)) (ev_I0 (ev_ixL (ev_var rfl) ev_int (.r hh4) (atI_int (xs := r) (Int.le_refl 0) (by omega))) ev_int) (ev_var rfl) ev_int hh4 (by unfold ixN; rw [if_pos (Int.le_refl 0), if_pos (by rw [List.length_map]; omega)]; rfl) ?_
        exact ⟨T'.put r, _, ⟨oth_put hM2.t hh4 (fun C fs z => by cases z) hhA3, hM2.ok, by rw [ud_ne hha.symm]; exact hM2.th, hM2.na, hM2.no, hM2.le⟩, q1, q2, rfl⟩
      clear hL1 hM hL
      rintro ρ' M5 ⟨T2, b6, hM, q1, q2, rfl⟩
      refine s_seq (s_dput (k := .inl T2.made) (a := a) (kvs := thD T2.th) (x := rowD r) (ev_var rfl) (ev_var rfl) (ev_var rfl) hM.th (szl (by rw [thD_len]; have := hM.le; omega)) ?_)
      refine s_seq (s_if (b := false) (whole _ _ _ rfl rfl) (fun z => nomatch z) (fun _ => s_next ?_))
      exact s_asgE (ev_I0 (ev_var rfl) ev_int) ⟨T2.put r, _, _, _, _, hM.note, q1, q2, rfl⟩
    · exact s_ifW (wt_not (wt_B (w_l_deed (T := T') (a := a) (c := y) (by rw [q1]; exact ev_var rfl) (ev_var rfl) (ev_var rfl) (ev_var rfl) hL hby fun M5 T5 hL5 e1 e2 e3 => ⟨true, rfl, fun z => (nomatch z), fun _ => s_next ⟨T5, _, _, _, _, hL5, e1.trans q1, e2.trans q2, by rw [e3]; rfl⟩⟩)))
  clear hL eT1 eT2 eT3
  rintro ρ' M' ⟨T', b4, b5, b6, b7, hL, q1, q2, rfl⟩
  have hthl := hL.ok.hl
  have hsl : (srtI (T'.th.map (·.1))).length = T'.th.length := by rw [(srtI_perm _).length_eq, List.length_map]
  refine s_seq (s_asg ((en_Table_numbers (T := T') (by rw [q1]; exact ev_var rfl) hL.t).w fun t ht => ?_))
  refine s_seq (s_drop (w_append (a := t) (ev_var rfl) ud_same (by walk_at "ev") (szl (by rw [List.length_map]; omega)) ?_))
  rw [ud_ud]
  have hL2 := hL.sub (Sub.new (o := .lst ((srtI (T'.th.map (·.1))).map .int ++ [.int (0 - 1)])) ht)
  refine s_seq (s_asgE (en_Table_numbers (T := T') (by rw [q1]; exact ev_var rfl) hL2.t).ev ?_)
  refine s_seq (s_if (b := false) ?_ (fun z => nomatch z) (fun _ => s_next ?_))
  · exact (et_test (ev_neI (ev_len (ev_var rfl) (IsL.r ud_same).q) (ev_I0 (ev_len (ev_var rfl) IsL.l.q) ev_int))).is (by rw [List.length_append]; simp)
  refine s_seq (s_if (b := false) ?_ (fun z => nomatch z) (fun _ => s_next ?_))
  · refine (et_or (b := false) (c := false) ?_ fun _ => et_or (b := false) (c := false) ?_ fun _ => ?_)
    · exact et_not (et_B (ev_isiT (b := true) "list" (ev_var rfl) ev_ty rfl (by decide +kernel) (by decide)))
    · exact (et_test (ev_neC (cL cI) (a := srtI (T'.th.map (·.1))) (a' := srtI (T'.th.map (·.1))) (ev_var rfl) (en_thKeys (ev_var rfl) hL2.th).ev .i .i (by decide))).is (by simp)
    · exact (et_test (ev_neI (ev_fld (ev_var rfl) (by rw [← q1]; exact hL2.t.ob) (hTx.cl 20) (hTx.na 51) tf_width) (Ev.is (by walk_at "ev") (by rw [hw])))).is (by rw [q2]; simp)
  refine s_seq (s_for (src_l (ev_var rfl) (.inl rfl)) (fun i ρ' M6 => M6 = ud M' t (.lst ((srtI (T'.th.map (·.1))).map .int ++ [.int (0 - 1)])) ∧ ∃ b, ρ' = [some (.frl (ns.map .int)), some (.ref p), some (.ref a), some (.int T'.made), b4, b5, b6, b7, some (.ref t), some (.lst ((srtI (T'.th.map (·.1))).map .int)), b]) ⟨rfl, _, rfl⟩ (fun _ _ _ _ => trivial) ?_ ?_)
  · rintro i d ρ' M6 hdd ⟨rfl, b, rfl⟩
    obtain ⟨n, hn, rfl⟩ := get_int hdd
    obtain ⟨q, hq, e⟩ := List.mem_map.mp (srtI_mem.mp (List.mem_of_getElem? hn))
    have hr := thGet_of hL.ok.nd (show (q.1, q.2) ∈ T'.th from hq)
    rw [e] at hr
    have hrl : q.2.length = T'.w.toNat := hL.ok.wi _ hq
    have hw6 := hL.ok.w1
    refine sg_name ?_
    refine s_if (b := false) ?_ (fun z => nomatch z) (fun _ => s_next ⟨rfl, _, rfl⟩)
    refine (et_or (b := false) (c := false) (et_not (et_B (ev_l_wholeI (ev_var rfl)))) fun _ => et_not (b := true) (et_B ?_))
    exact ev_l_same (r := q.2) (ev_Table_row (T := T') (by rw [q1]; exact ev_var rfl) hL2.t (ev_var rfl) hr) (ev_dget (k := .inl n) (z := rowD q.2) (ev_var rfl) (ev_var rfl) hL2.th (by rw [thD_val, hr]; rfl)) .l (by omega)
  rintro ρ' M6 ⟨rfl, b, rfl⟩
  exact s_retE ev_bl (k _)
end
section
open PySem.Spec PyProof.Rows
/-- a law's end over a head by facts, the script's bits told -/
theorem walk_ofEB {l : PySem.W.OpenLaw} {n k : Nat} {q : Program} {loose : List Str} {XP : (Str → Option Value) → Heap → Prop} {YP : World → Heap → Prop} {d : DefRec} {CX : CXT} {x : Str}
    (hn : l.most = some n) (hn2 : n ≤ sizeLine) (hdf : d.params.defaults = []) (hr : Room k callerA)
    (F : ∀ (w : World) (mg : Str → Option Value) (fa : Addr) (h : Heap), YP w h → h.Ns mainGlobals mg → mg d.name = some (.ref fa) →
      ∃ (K : PySem.W.Frag) (fd : FuncData) (sp : Sp), K.In h ∧ (∀ (s : Shared) (u : Value), BindsTo s fd ⟨[u], []⟩ [(x, u)]) ∧
        (∀ (H : Hp) (a : Addr) (ns : List Int), ns.length ≤ n → (∀ z ∈ ns, Builtin.Int.intBits z ≤ 1048576) → Only H → SqL K H a (ns.map V.int) → sp [.ref a] H (fun v _ => v = .bl true) fun _ _ _ => False) ∧
        ∀ base : Heap, K.In base → base.Ns mainGlobals mg → FnOk l.prog w K mg base CX k fa fd [x] sp)
    (hCX : ∀ (H : Hp) (s : Shared) (e : Value) (s' : Shared), CX [] H s (fun _ _ _ => False) e s' → False) :
    PySem.W.WalkO q loose XP YP l.row.toRowW d [] (fun f vs => PySem.call f vs) := by
  refine Att.attach_callB hn hdf fun w s₀ s₁ mg mb fa o pm cd doc a vs ns G Y ho hd hcd hmg hobj hints hlen hbits hg => ?_
  obtain ⟨K, fd, sp, KX, hb, hsp, hF⟩ := F w mg fa _ Y G.T.g hmg
  exact law_call KX G.T.g G.T.b G.T.builtins G.T.nolimit hg hobj hints (Nat.le_trans hlen hn2) hr hF hb (fun H hO hS => hsp H a ns hlen hbits hO hS) fun H e s' => hCX H s₁ e s'
end
abbrev RR : PySem.W.OpenRow := PySem.W.OpenLaw.row PySem.Challenge.rw_waybook_k07_rows_told
abbrev hk : PySem.W.Hook := DL.hookW 5 fa fn fx
def ob (s : PySem.W.SharedT) : He.Al × Bool := DL.obsW 5 fa fn fx (HandSHeadRun.getT s)
theorem ob_eq (s : PySem.W.SharedT) : ob s = hk.obs s.abs := DL.obsW_eq (HandSHeadRun.getT_eq s)
def others : List PySem.Str := (["_wall", "BookError", "BadWidth", "BadRow", "Full", "NoRow", "BadColumn", "BadOrder", "less", "below", "is_whole", "Kept"] : List PySem.Str) ++ (["MOST_WIDTH", "MOST_ROWS", "MOST_ORDERS", "Table", "_law_whole", "_law_at", "_law_value", "_law_row", "_law_same", "_law_said", "_law_any", "_law_deed"] : List PySem.Str)
theorem run (w : World) : HandSHeadRun.RunEq RR (PySem.W.view RR.prog [30]) hk ob 4000 others w := by
  intro os
  kernel_rfl
theorem facts {P : Program} {w : World} {K : PySem.W.Frag} {h : Heap} {mg : Str → Option Value} {f : Addr} (X : K.In h) (G : h.Ns mainGlobals mg) (hfa : mg ("law" : Str) = some (.ref f)) (c : He.SaysE fa fn K) (m : (fx.all fun f => f.ok K) = true) :
    ∃ fd : FuncData, (∀ (s : Shared) (v : Value), BindsTo s fd ⟨[v], []⟩ [("_law_script", v)]) ∧ ∀ base : Heap, K.In base → base.Ns mainGlobals mg → FnOk P w K mg base CX0 7 f fd ["_law_script"] (spD K (pr_law K)) := by
  have T : Tx K mg := ⟨c, m, h, X, G⟩
  have e := hfa.symm.trans (T.gl 72)
  cases e
  obtain ⟨fd, F⟩ := T.fnF 26 s_law "law" 84
  refine ⟨fd, fun s v => ?_, fun base _ _ => ok_law F T⟩
  obtain ⟨_, _, _, _, _, _, _, _, _, rfl, _⟩ := F.ex
  exact .of_eq rfl
theorem law_sp {K : PySem.W.Frag} (H : Hp) (a : Addr) (ns : List Int) (hl : ns.length ≤ 63) (hb : ∀ z ∈ ns, Builtin.Int.intBits z ≤ 1048576) (hS : SqL K H a (ns.map V.int)) : spD K (pr_law K) [.ref a] H (fun v _ => v = .bl true) fun _ _ _ => False :=
  ⟨H, fun _ => none, [.frl (ns.map D.int)], fun d _ => d = .bl true, noX, ⟨Same.refl _, fun _ _ e => nomatch e⟩, .cons (.frl hS (DtL.of_ints ns)) .nil, ⟨_, rfl, ns, rfl, hl, hb, fun _ => rfl⟩, fun v d G' M' H' e _ _ t => by subst e; cases t; rfl, fun _ _ _ _ z => z.elim⟩
end Wb
open PySem PySem.W PySem.Calls PyProof.Rows
theorem PySem.Challenge.cw_waybook_k07_rows_told_holds : PySem.Challenge.rw_waybook_k07_rows_told.Holds := by
  w_on; o_law
  refine HandSHeadRun.head_any (r := OpenLaw.row PySem.Challenge.rw_waybook_k07_rows_told) (q := view (OpenLaw.row PySem.Challenge.rw_waybook_k07_rows_told).prog [30]) (H := Wb.hk) (ob := Wb.ob) (M := 4000) (loose := Wb.others) (d := HandSHeadRun.topDef (OpenLaw.row PySem.Challenge.rw_waybook_k07_rows_told).prog 30) (kwd := []) Wb.ob_eq
    (by kernel_rfl) (fun s => by kernel_rfl) Wb.run (by kernel_rfl) (by kernel_rfl) (by kernel_rfl) (by rfl) (by first | assumption | decide +kernel) (by decide +kernel) ⟨rfl, rfl, rfl, rfl, rfl, by decide +kernel⟩ ?hw ?hc
  case hw => w_witness2
  case hc =>
    refine Wb.walk_ofEB (l := PySem.Challenge.rw_waybook_k07_rows_told) (n := 63) (k := 7) (x := "_law_script") (CX := L2.CX0) rfl (by decide) (by kernel_rfl) ⟨rfl, by decide, by decide⟩ ?F (fun _ _ _ _ z => z)
    intro w mg fa h Y G hmg0
    obtain ⟨K, KX, c, m⟩ := Y
    have hmg : mg ("law" : PySem.Str) = some (.ref fa) := by
      have e : (HandSHeadRun.topDef (OpenLaw.row PySem.Challenge.rw_waybook_k07_rows_told).prog 30).name = ("law" : PySem.Str) := by kernel_rfl
      rw [← e]
      exact hmg0
    obtain ⟨fd, hb, hF⟩ := Wb.facts (P := (PySem.Challenge.rw_waybook_k07_rows_told).prog) (w := w) KX G hmg c m
    exact ⟨K, fd, DL.spD K (Wb.pr_law K), KX, hb, fun H a ns hl hbt _ hS => Wb.law_sp H a ns hl hbt hS, hF⟩

