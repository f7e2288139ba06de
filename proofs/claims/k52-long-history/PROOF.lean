import PyProof.Rows.All
import Wide.All
import OpenK.AllK
import Wide.FinOn
import HandS.ForMost
import KE.SortData
import HandS.IsInst
import KE.SortKeyHeap
import HandS.SortKw
import HandS.FromBytesMap
import HandS.Exc
import KE.GoesMore
import HandS.Zip
import KE.DataMinMax
import HandS.SetFor
import HandS.Strs
import KE.DataCmp
import HandS.Dict
import HandS.DictTup
import HandS.TupLen
import HandS.More
import HandS.Conv
import KE.KDictCopyH
import KE.KDictOf
import HandS.CallSlots
import HandS.Iter
import HandS.Deep
import HandS.TupLe
import HandS.Walk
import HandS.Defaults
import HandS.WordsExc
import KE.KEqSeq
import KE.KStateDown
import HandS.Head0
import HandS.Head1
import HandS.Head2
import HandS.HeadEnd
import HandS.HeadHook1
import HandS.HeadHook2
import PySem.Challenge.RW_vitrine_k52_whole_long_history
set_option Elab.async false
set_option linter.all false
set_option maxRecDepth 100000
section
set_option maxHeartbeats 4000000
/-! Vx 1: pure data, owned trees, and how they stand in the abstract heap. -/
namespace Vx
open PySem L2

/-- the kinds of containers -/
inductive Kd where
  | lst | tup | dK (ks : List Key) | dT (ks : List (List Key)) | ins (c : Nat) (fs : List Str)
  /-- dicts that are locked: read, not written -/
  | lK (ks : List Key) | lT (ks : List (List Key))
  deriving DecidableEq
/-- what is not seen of a node: an instance's dict, a locked dict's object -/
structure Gh where
  dx : Addr
  od : Obj
instance : OfNat Gh 0 := ⟨⟨0, { cls := .none, data := .fields #[] }⟩⟩

/-- pure data -/
inductive D where
  | non | bl (b : Bool) | int (i : Int) | str (x : Str) | nd (k : Kd) (cs : List D)

/-- what is fixed: the written part, the classes of the text -/
structure Gx where
  K : PySem.W.Frag
  cls : Nat → Addr

def Kd.ho (c : Gx) (dx : Gh) (vs : List V) : Kd → HO
  | .lst => .lst vs
  | .tup => .tup vs
  | .dK ks => .dK (ks.zip vs)
  | .dT ks => .dT (ks.zip vs)
  | .ins i fs => .ins (c.cls i) dx.dx (fs.zip vs)
  | .lK ks => .frz dx.od (.dK (ks.zip vs))
  | .lT ks => .frz dx.od (.dT (ks.zip vs))
def Kd.xtr (a : Addr) (dx : Gh) : Kd → List (Addr × HO)
  | .ins _ _ => [(dx.dx, .own a)]
  | _ => []
def Kd.fits (n : Nat) : Kd → Prop
  | .lst => True
  | .tup => True
  | .dK ks => ks.length = n
  | .dT ks => ks.length = n
  | .ins _ fs => fs.length = n
  | .lK ks => ks.length = n
  | .lT ks => ks.length = n
/-- a container that may be read at a -/
def Kd.rd (c : Gx) (B : Hp) (a : Addr) (vs : List V) : Kd → Prop
  | .lst => B a = some (.lst vs)
  | .tup => B a = some (.tup vs)
  | .dK ks => Rd B a (.dK (ks.zip vs))
  | .dT ks => Rd B a (.dT (ks.zip vs))
  | .ins i fs => ∃ dx, B a = some (.ins (c.cls i) dx (fs.zip vs))
  | .lK ks => ∃ o, B a = some (.frz o (.dK (ks.zip vs)))
  | .lT ks => ∃ o, B a = some (.frz o (.dT (ks.zip vs)))

mutual
def RepD (c : Gx) (B : Hp) : D → V → Prop
  | .non, v => v = .non
  | .bl b, v => v = .bl b
  | .int i, v => v = .int i
  | .str x, v => v = .str x
  | .nd k cs, v => ∃ a vs, v = .ref a ∧ k.fits cs.length ∧ k.rd c B a vs ∧ RepDs c B cs vs
def RepDs (c : Gx) (B : Hp) : List D → List V → Prop
  | [], vs => vs = []
  | d :: ds, vs => ∃ v vr, vs = v :: vr ∧ RepD c B d v ∧ RepDs c B ds vr
end

/-- the containers known in B are known in H -/
theorem ex_sq {K : PySem.W.Frag} {H H' : Hp} (e : Same H H') {a : Addr} {xs : List V} (h : SqL K H a xs) : SqL K H' a xs := e.seq h
theorem ex_rd {H H' : Hp} (e : Same H H') {a : Addr} {u : HO} (h : Rd H a u) : Rd H' a u := by
  rcases h with h | ⟨o, h⟩
  · exact Or.inl (e a _ h)
  · exact Or.inr ⟨o, e a _ h⟩
theorem ex_sqT {K : PySem.W.Frag} {H H' : Hp} (e : Same H H') {a : Addr} {xs : List V} (h : SqT K H a xs) : SqT K H' a xs := by
  rcases h with h | h
  · exact Or.inl (ex_rd e h)
  · exact Or.inr h
theorem Kd.rd_mono {c : Gx} {B B' : Hp} (e : Same B B') {a : Addr} {vs : List V} : ∀ {k : Kd}, k.rd c B a vs → k.rd c B' a vs
  | .lst, h => e _ _ h
  | .tup, h => e _ _ h
  | .dK _, h => ex_rd e h
  | .dT _, h => ex_rd e h
  | .ins _ _, ⟨dx, h⟩ => ⟨dx, e _ _ h⟩
  | .lK _, ⟨o, h⟩ => ⟨o, e _ _ h⟩
  | .lT _, ⟨o, h⟩ => ⟨o, e _ _ h⟩
theorem Kd.rd_of {c : Gx} {B : Hp} {a : Addr} {dx : Gh} {vs : List V} : ∀ {k : Kd}, B a = some (k.ho c dx vs) → k.rd c B a vs
  | .lst, h => h
  | .tup, h => h
  | .dK _, h => Or.inl h
  | .dT _, h => Or.inl h
  | .ins _ _, h => ⟨dx.dx, h⟩
  | .lK _, h => ⟨dx.od, h⟩
  | .lT _, h => ⟨dx.od, h⟩

mutual
theorem RepD.mono {c : Gx} {B B' : Hp} (e : Same B B') : ∀ {d : D} {v : V}, RepD c B d v → RepD c B' d v
  | .non, _, h => h
  | .bl _, _, h => h
  | .int _, _, h => h
  | .str _, _, h => h
  | .nd k cs, _, ⟨a, vs, h1, h2, h3, h4⟩ => ⟨a, vs, h1, h2, Kd.rd_mono e h3, RepDs.mono e h4⟩
theorem RepDs.mono {c : Gx} {B B' : Hp} (e : Same B B') : ∀ {ds : List D} {vs : List V}, RepDs c B ds vs → RepDs c B' ds vs
  | [], _, h => h
  | _ :: _, _, ⟨v, vr, h1, h2, h3⟩ => ⟨v, vr, h1, RepD.mono e h2, RepDs.mono e h3⟩
end
theorem RepDs.len {c : Gx} {B : Hp} : ∀ {ds : List D} {vs : List V}, RepDs c B ds vs → ds.length = vs.length
  | [], _, h => by
    have h' : _ = _ := h
    rw [h']
    rfl
  | _ :: _, _, ⟨v, vr, h1, h2, h3⟩ => by
    rw [h1]
    simp [RepDs.len h3]
theorem RepDs.get {c : Gx} {B : Hp} : ∀ {ds : List D} {vs : List V} {i : Nat} {d : D}, RepDs c B ds vs → ds[i]? = some d → ∃ v, vs[i]? = some v ∧ RepD c B d v
  | [], _, _, _, _, e => by simp at e
  | _ :: _, _, 0, _, ⟨v, vr, h1, h2, h3⟩, e => by
    have e' := Option.some.inj e
    subst e'
    exact ⟨v, by rw [h1]; rfl, h2⟩
  | _ :: ds, _, i + 1, d, ⟨v, vr, h1, h2, h3⟩, e => by
    obtain ⟨u, q1, q2⟩ := RepDs.get (i := i) (d := d) h3 (by simpa using e)
    exact ⟨u, by rw [h1]; simpa using q1, q2⟩
theorem RepDs.append {c : Gx} {B : Hp} : ∀ {ds es : List D} {vs us : List V}, RepDs c B ds vs → RepDs c B es us → RepDs c B (ds ++ es) (vs ++ us)
  | [], _, _, _, h, g => by
    have h' : _ = _ := h
    subst h'
    exact g
  | _ :: _, _, _, _, ⟨v, vr, h1, h2, h3⟩, g => by
    subst h1
    exact ⟨v, _, rfl, h2, RepDs.append h3 g⟩
theorem RepDs.of_get {c : Gx} {B : Hp} : ∀ {ds : List D} {vs : List V}, ds.length = vs.length → (∀ (i : Nat) (d : D) (v : V), ds[i]? = some d → vs[i]? = some v → RepD c B d v) → RepDs c B ds vs
  | [], [], _, _ => rfl
  | d :: ds, v :: vs, l, h => ⟨v, vs, rfl, h 0 d v rfl rfl, RepDs.of_get (by simpa using l) fun i d v h1 h2 => h (i + 1) d v (by simpa using h1) (by simpa using h2)⟩

/-- owned trees, without addresses -/
inductive W where
  | fl (d : D) | nd (k : Kd) (cs : List W)
mutual
def W.dat : W → D
  | .fl d => d
  | .nd k cs => .nd k (W.dats cs)
def W.dats : List W → List D
  | [] => []
  | w :: ws => w.dat :: W.dats ws
end
theorem W.dats_map : ∀ ws : List W, W.dats ws = ws.map W.dat
  | [] => rfl
  | w :: ws => by
    show w.dat :: W.dats ws = w.dat :: ws.map W.dat
    rw [W.dats_map ws]
@[simp] theorem W.dat_fl (d : D) : (W.fl d).dat = d := rfl
@[simp] theorem W.dat_nd (k : Kd) (cs : List W) : (W.nd k cs).dat = .nd k (cs.map W.dat) := by
  show D.nd k (W.dats cs) = _
  rw [W.dats_map]

/-- owned trees, with addresses -/
inductive A where
  | fl (v : V) (d : D) | nd (a : Addr) (dx : Gh) (k : Kd) (cs : List A)
def A.val : A → V
  | .fl v _ => v
  | .nd a _ _ _ => .ref a
mutual
def A.er : A → W
  | .fl _ d => .fl d
  | .nd _ _ k cs => .nd k (A.ers cs)
def A.ers : List A → List W
  | [] => []
  | x :: xs => x.er :: A.ers xs
end
theorem A.ers_map : ∀ xs : List A, A.ers xs = xs.map A.er
  | [] => rfl
  | x :: xs => by
    show x.er :: A.ers xs = x.er :: xs.map A.er
    rw [A.ers_map xs]
@[simp] theorem A.er_fl (v : V) (d : D) : (A.fl v d).er = .fl d := rfl
@[simp] theorem A.er_nd (a : Addr) (dx : Gh) (k : Kd) (cs : List A) : (A.nd a dx k cs).er = .nd k (cs.map A.er) := by
  show W.nd k (A.ers cs) = _
  rw [A.ers_map]
abbrev vals (xs : List A) : List V := xs.map A.val
mutual
def A.objs (c : Gx) : A → List (Addr × HO)
  | .fl _ _ => []
  | .nd a dx k cs => (a, k.ho c dx (vals cs)) :: (k.xtr a dx ++ objsL c cs)
def objsL (c : Gx) : List A → List (Addr × HO)
  | [] => []
  | x :: xs => x.objs c ++ objsL c xs
end
theorem objsL_append (c : Gx) : ∀ xs ys : List A, objsL c (xs ++ ys) = objsL c xs ++ objsL c ys
  | [], _ => rfl
  | x :: xs, ys => by
    show x.objs c ++ objsL c (xs ++ ys) = (x.objs c ++ objsL c xs) ++ objsL c ys
    rw [objsL_append c xs ys, List.append_assoc]
mutual
/-- the leaves stand in B, the nodes have as many children as names -/
def A.ok (c : Gx) (B : Hp) : A → Prop
  | .fl v d => RepD c B d v
  | .nd _ _ k cs => k.fits cs.length ∧ okL c B cs
def okL (c : Gx) (B : Hp) : List A → Prop
  | [] => True
  | x :: xs => x.ok c B ∧ okL c B xs
end
theorem okL_iff {c : Gx} {B : Hp} : ∀ {xs : List A}, okL c B xs ↔ ∀ x ∈ xs, x.ok c B
  | [] => by simp [okL]
  | x :: xs => by
    show x.ok c B ∧ okL c B xs ↔ _
    rw [okL_iff (xs := xs)]
    simp
mutual
theorem A.ok.mono {c : Gx} {B B' : Hp} (e : Same B B') : ∀ {x : A}, x.ok c B → x.ok c B'
  | .fl _ _, h => RepD.mono e h
  | .nd _ _ _ _, ⟨h1, h2⟩ => ⟨h1, okL.mono e h2⟩
theorem okL.mono {c : Gx} {B B' : Hp} (e : Same B B') : ∀ {xs : List A}, okL c B xs → okL c B' xs
  | [], _ => trivial
  | _ :: _, ⟨h1, h2⟩ => ⟨A.ok.mono e h1, okL.mono e h2⟩
end
abbrev ads (l : List (Addr × HO)) : List Addr := l.map Prod.fst
theorem ads_append (l m : List (Addr × HO)) : ads (l ++ m) = ads l ++ ads m := List.map_append

/-- THE STATE: relative to an entry (H0, B0 what was known, A0 the addresses that may be written). B: what is known for good; H: all; L: the trees that live -/
structure Gd (c : Gx) (H0 B0 : Hp) (A0 : List Addr) (B H : Hp) (L : List A) : Prop where
  b0 : Same B0 B
  sub : Same B H
  hold : ∀ p ∈ objsL c L, H p.1 = some p.2 ∧ B p.1 = none
  nd : (ads (objsL c L)).Nodup
  lf : ∀ x ∈ L, x.ok c B
  fr : ∀ b o, H0 b = some o → b ∉ A0 → H b = some o
  nw : ∀ b, (B b ≠ none ∨ b ∈ ads (objsL c L)) → B0 b ≠ none ∨ H0 b = none ∨ b ∈ A0

section
variable {c : Gx} {H0 B0 B H : Hp} {A0 : List Addr} {L L' : List A}
theorem objsL_perm {L L' : List A} (p : L.Perm L') : (objsL c L).Perm (objsL c L') := by
  induction p with
  | nil => exact List.Perm.refl _
  | cons x _ ih => exact List.Perm.append_left _ ih
  | swap x y l =>
    show (y.objs c ++ (x.objs c ++ objsL c l)).Perm (x.objs c ++ (y.objs c ++ objsL c l))
    rw [← List.append_assoc, ← List.append_assoc]
    exact List.Perm.append_right _ List.perm_append_comm
  | trans _ _ h1 h2 => exact h1.trans h2
theorem Gd.perm (G : Gd c H0 B0 A0 B H L) (p : L.Perm L') : Gd c H0 B0 A0 B H L' where
  b0 := G.b0
  sub := G.sub
  hold := fun q hq => G.hold q ((objsL_perm p).mem_iff.mpr hq)
  nd := ((objsL_perm (c := c) p).map Prod.fst).nodup_iff.mp G.nd
  lf := fun x hx => G.lf x (p.mem_iff.mpr hx)
  fr := G.fr
  nw := fun b hb => G.nw b (hb.imp id fun z => (((objsL_perm (c := c) p).map Prod.fst).mem_iff).mpr z)
/-- some trees are let go -/
theorem Gd.drop {M : List A} (G : Gd c H0 B0 A0 B H (M ++ L)) : Gd c H0 B0 A0 B H L where
  b0 := G.b0
  sub := G.sub
  hold := fun q hq => G.hold q (by rw [objsL_append]; exact List.mem_append_right _ hq)
  nd := by
    have h := G.nd
    rw [objsL_append, ads_append] at h
    exact (List.nodup_append.mp h).2.1
  lf := fun x hx => G.lf x (List.mem_append_right _ hx)
  fr := G.fr
  nw := fun b hb => G.nw b (hb.imp id fun z => by
    rw [objsL_append, ads_append]
    exact List.mem_append_right _ z)
theorem Gd.drop1 {x : A} (G : Gd c H0 B0 A0 B H (x :: L)) : Gd c H0 B0 A0 B H L := Gd.drop (M := [x]) G
/-- data that stand in B may be added -/
theorem Gd.add {v : V} {d : D} (G : Gd c H0 B0 A0 B H L) (r : RepD c B d v) : Gd c H0 B0 A0 B H (.fl v d :: L) where
  b0 := G.b0
  sub := G.sub
  hold := fun q hq => G.hold q hq
  nd := G.nd
  lf := fun x hx => by
    rcases List.mem_cons.mp hx with rfl | hx
    · exact r
    · exact G.lf x hx
  fr := G.fr
  nw := fun b hb => G.nw b hb

mutual
/-- a tree's data, as they are to be seen in any heap that holds it -/
theorem A.view {H' : Hp} : ∀ {x : A}, x.ok c B → Same B H' → (∀ p ∈ x.objs c, H' p.1 = some p.2) → RepD c H' x.er.dat x.val
  | .fl v d, h, s, _ => RepD.mono s h
  | .nd a dx k cs, ⟨h1, h2⟩, s, hh => by
    have q1 : H' a = some (k.ho c dx (vals cs)) := hh (a, _) List.mem_cons_self
    have q2 := viewL (xs := cs) h2 s fun p hp => hh p (List.mem_cons_of_mem _ (List.mem_append_right _ hp))
    refine ⟨a, vals cs, rfl, ?_, Kd.rd_of q1, q2⟩
    rw [W.dats_map, A.ers_map, List.length_map, List.length_map]
    exact h1
theorem viewL {H' : Hp} : ∀ {xs : List A}, okL c B xs → Same B H' → (∀ p ∈ objsL c xs, H' p.1 = some p.2) → RepDs c H' (W.dats (A.ers xs)) (vals xs)
  | [], _, _, _ => rfl
  | x :: xs, ⟨h1, h2⟩, s, hh => ⟨x.val, vals xs, rfl, A.view h1 s fun p hp => hh p (List.mem_append_left _ hp), viewL h2 s fun p hp => hh p (List.mem_append_right _ hp)⟩
end
theorem Gd.view {x : A} (G : Gd c H0 B0 A0 B H L) (hx : x ∈ L) : RepD c H x.er.dat x.val := by
  refine A.view (G.lf x hx) G.sub fun p hp => (G.hold p ?_).1
  induction L with
  | nil => cases hx
  | cons y L ih =>
    rcases List.mem_cons.mp hx with rfl | hx
    · exact List.mem_append_left _ hp
    · exact List.mem_append_right _ (ih (Gd.drop1 G) hx)

/-- a tree is frozen: it is known for good from now on -/
theorem Gd.freeze {x : A} (G : Gd c H0 B0 A0 B H (x :: L)) : ∃ B', Same B B' ∧ Gd c H0 B0 A0 B' H (.fl x.val x.er.dat :: L) := by
  have hB' : ∀ b, (if b ∈ ads (x.objs c) then H b else B b) = (if b ∈ ads (x.objs c) then H b else B b) := fun _ => rfl
  have ndx := G.nd
  have ho : objsL c (x :: L) = x.objs c ++ objsL c L := rfl
  rw [ho, ads_append] at ndx
  have disj := (List.nodup_append.mp ndx).2.2
  have s1 : Same B fun b => if b ∈ ads (x.objs c) then H b else B b := fun b o e => by
    show (if b ∈ ads (x.objs c) then H b else B b) = some o
    by_cases hb : b ∈ ads (x.objs c)
    · rw [if_pos hb]
      exact G.sub b o e
    · rw [if_neg hb]
      exact e
  refine ⟨fun b => if b ∈ ads (x.objs c) then H b else B b, s1, ?_⟩
  refine ⟨fun b o e => s1 b o (G.b0 b o e), fun b o e => ?_, fun p hp => ?_, (List.nodup_append.mp ndx).2.1, fun y hy => ?_, G.fr, fun b hb => ?_⟩
  · have e' : (if b ∈ ads (x.objs c) then H b else B b) = some o := e
    by_cases hb : b ∈ ads (x.objs c)
    · rw [if_pos hb] at e'
      exact e'
    · rw [if_neg hb] at e'
      exact G.sub b o e'
  · obtain ⟨q1, q2⟩ := G.hold p (List.mem_append_right _ (show p ∈ objsL c L from hp))
    refine ⟨q1, ?_⟩
    show (if p.1 ∈ ads (x.objs c) then H p.1 else B p.1) = none
    rw [if_neg (fun z => disj _ z _ (List.mem_map_of_mem (f := Prod.fst) (show p ∈ objsL c L from hp)) rfl)]
    exact q2
  · rcases List.mem_cons.mp hy with rfl | hy
    · refine A.view (B := B) (G.lf x List.mem_cons_self) s1 fun p hp => ?_
      show (if p.1 ∈ ads (x.objs c) then H p.1 else B p.1) = some p.2
      rw [if_pos (List.mem_map_of_mem (f := Prod.fst) hp)]
      exact (G.hold p (List.mem_append_left _ hp)).1
    · exact A.ok.mono s1 (G.lf y (List.mem_cons_of_mem _ hy))
  · refine G.nw b ?_
    rcases hb with hb | hb
    · have hb' : (if b ∈ ads (x.objs c) then H b else B b) ≠ none := hb
      by_cases hm : b ∈ ads (x.objs c)
      · exact Or.inr (by rw [ho, ads_append]; exact List.mem_append_left _ hm)
      · rw [if_neg hm] at hb'
        exact Or.inl hb'
    · exact Or.inr (by rw [ho, ads_append]; exact List.mem_append_right _ hb)

theorem not_mem_of_none {p : Addr} (G : Gd c H0 B0 A0 B H L) (h : H p = none) : p ∉ ads (objsL c L) := fun hm => by
  obtain ⟨q, hq, e⟩ := List.mem_map.mp hm
  have := (G.hold q hq).1
  rw [e, h] at this
  cases this
theorem Gd.b_none {p : Addr} (G : Gd c H0 B0 A0 B H L) (h : H p = none) : B p = none := G.sub.free h
theorem Gd.new_ok {p : Addr} (G : Gd c H0 B0 A0 B H L) (h : H p = none) : H0 p = none ∨ p ∈ A0 := by
  by_cases hA : p ∈ A0
  · exact Or.inr hA
  · refine Or.inl ?_
    cases e : H0 p with
    | none => rfl
    | some o =>
      have := G.fr p o e hA
      rw [h] at this
      cases this
/-- a new container (no instance) is laid over trees that live -/
theorem Gd.alloc {p : Addr} {k : Kd} {cs : List A} (G : Gd c H0 B0 A0 B H (cs ++ L)) (h : H p = none) (hk : k.xtr p 0 = []) (hf : k.fits cs.length) :
    Gd c H0 B0 A0 B (upd H p (k.ho c 0 (vals cs))) (.nd p 0 k cs :: L) := by
  have hb := G.b_none h
  have hm := not_mem_of_none G h
  have e : objsL c (.nd p 0 k cs :: L) = (p, k.ho c 0 (vals cs)) :: objsL c (cs ++ L) := by
    show ((p, k.ho c 0 (vals cs)) :: (k.xtr p 0 ++ objsL c cs)) ++ objsL c L = _
    rw [hk, objsL_append]
    rfl
  refine ⟨G.b0, fun b o q => ?_, fun q hq => ?_, ?_, fun x hx => ?_, fun b o q hA => ?_, fun b hb' => ?_⟩
  · rw [upd_ne (ne_of_none q hb)]
    exact G.sub b o q
  · rw [e] at hq
    rcases List.mem_cons.mp hq with rfl | hq
    · exact ⟨upd_same, hb⟩
    · obtain ⟨q1, q2⟩ := G.hold q hq
      exact ⟨by rw [upd_ne (ne_of_none q1 h)]; exact q1, q2⟩
  · rw [e]
    exact List.nodup_cons.mpr ⟨hm, G.nd⟩
  · rcases List.mem_cons.mp hx with rfl | hx
    · exact ⟨hf, okL_iff.mpr fun y hy => G.lf y (List.mem_append_left _ hy)⟩
    · exact G.lf x (List.mem_append_right _ hx)
  · rw [upd_ne (ne_of_none (G.fr b o q hA) h)]
    exact G.fr b o q hA
  · rw [e] at hb'
    rcases hb' with q | q
    · exact G.nw b (Or.inl q)
    · rcases List.mem_cons.mp q with rfl | q
      · exact Or.inr (G.new_ok h)
      · exact G.nw b (Or.inr q)
/-- an owned container is written: L holds it, L' what stands behind -/
theorem Gd.write {a : Addr} {o o' : HO} {R X : List (Addr × HO)} (G : Gd c H0 B0 A0 B H L) (p1 : (objsL c L).Perm ((a, o) :: R ++ X)) (p2 : (objsL c L').Perm ((a, o') :: R)) (lf : ∀ x ∈ L', x.ok c B) :
    Gd c H0 B0 A0 B (upd H a o') L' := by
  have ha : (a, o) ∈ objsL c L := p1.mem_iff.mpr (by simp)
  obtain ⟨ha1, ha2⟩ := G.hold _ ha
  have nd1 : (ads ((a, o) :: R ++ X)).Nodup := (p1.map Prod.fst).nodup_iff.mp G.nd
  have nd2 : (a :: ads R).Nodup := by
    have e : ads ((a, o) :: R ++ X) = (a :: ads R) ++ ads X := by
      show (((a, o) :: R) ++ X).map Prod.fst = _
      rw [List.map_append]
      rfl
    rw [e] at nd1
    exact (List.nodup_append.mp nd1).1
  have inR : ∀ q ∈ R, q ∈ objsL c L := fun q hq => p1.mem_iff.mpr (by simp [hq])
  have neR : ∀ q ∈ R, q.1 ≠ a := fun q hq z => (List.nodup_cons.mp nd2).1 (z ▸ List.mem_map_of_mem (f := Prod.fst) hq)
  refine ⟨G.b0, fun b u q => ?_, fun q hq => ?_, ?_, lf, fun b u q hA => ?_, fun b hb => ?_⟩
  · rw [upd_ne (ne_of_none q ha2)]
    exact G.sub b u q
  · rcases List.mem_cons.mp (p2.mem_iff.mp hq) with rfl | hq
    · exact ⟨upd_same, ha2⟩
    · obtain ⟨q1, q2⟩ := G.hold q (inR q hq)
      exact ⟨by rw [upd_ne (neR q hq)]; exact q1, q2⟩
  · exact ((p2.map Prod.fst).nodup_iff).mpr nd2
  · have hb : b ≠ a := by
      rintro rfl
      rcases G.nw b (Or.inr (List.mem_map_of_mem (f := Prod.fst) ha)) with z | z | z
      · cases e : B0 b with
        | none => exact z e
        | some w =>
          have := G.b0 b w e
          rw [ha2] at this
          cases this
      · rw [z] at q
        cases q
      · exact hA z
    rw [upd_ne hb]
    exact G.fr b u q hA
  · refine G.nw b (hb.imp id fun z => ?_)
    have z2 : b ∈ ads ((a, o') :: R) := ((p2.map Prod.fst).mem_iff).mp z
    have z3 : b ∈ ads ((a, o) :: R ++ X) := by
      have e : ads ((a, o) :: R ++ X) = (a :: ads R) ++ ads X := by
        show (((a, o) :: R) ++ X).map Prod.fst = _
        rw [List.map_append]
        rfl
      rw [e]
      exact List.mem_append_left _ z2
    exact ((p1.map Prod.fst).mem_iff).mpr z3
end
end Vx
end

section
set_option maxHeartbeats 4000000
/-! Vx 2: slots, places, replacing within a tree. -/
namespace Vx
open PySem L2

abbrev Env := List (Option W)
inductive Res (α : Type) where
  | ok (a : α) | ex (cl : Nat) (pay : D) (r : Env) | bad
namespace Res
def bind {α β : Type} (x : Res α) (f : α → Res β) : Res β := match x with
  | .ok a => f a
  | .ex c p r => .ex c p r
  | .bad => .bad
@[simp] theorem bind_ok {α β : Type} (a : α) (f : α → Res β) : bind (.ok a) f = f a := rfl
@[simp] theorem bind_ex {α β : Type} (c : Nat) (p : D) (r : Env) (f : α → Res β) : bind (.ex c p r) f = .ex c p r := rfl
@[simp] theorem bind_bad {α β : Type} (f : α → Res β) : bind .bad f = .bad := rfl
end Res
/-- an option as a result -/
def Res.of {α : Type} : Option α → Res α
  | some a => .ok a
  | none => .bad
@[simp] theorem Res.of_some {α : Type} (a : α) : Res.of (some a) = .ok a := rfl
@[simp] theorem Res.of_none {α : Type} : Res.of (none : Option α) = .bad := rfl

abbrev Sl := List (Option A)
def ers (as : Sl) : Env := as.map (Option.map A.er)
def live : Sl → List A
  | [] => []
  | none :: as => live as
  | some x :: as => x :: live as
theorem live_set : ∀ {as : Sl} {i : Nat} {x : A}, i < as.length → (live (as.set i (some x))).Perm (x :: live (as.set i none))
  | none :: as, 0, x, _ => List.Perm.refl _
  | some y :: as, 0, x, _ => List.Perm.refl _
  | none :: as, i + 1, x, h => live_set (as := as) (i := i) (by simpa using h)
  | some y :: as, i + 1, x, h => ((live_set (as := as) (i := i) (x := x) (by simpa using h)).cons y).trans (List.Perm.swap x y _)
theorem live_get : ∀ {as : Sl} {i : Nat} {x : A}, as[i]? = some (some x) → (live as).Perm (x :: live (as.set i none))
  | none :: as, 0, x, h => by simp at h
  | some y :: as, 0, x, h => by
    have e : y = x := by simpa using h
    subst e
    exact List.Perm.refl _
  | none :: as, i + 1, x, h => live_get (as := as) (i := i) (by simpa using h)
  | some y :: as, i + 1, x, h => ((live_get (as := as) (i := i) (x := x) (by simpa using h)).cons y).trans (List.Perm.swap x y _)
theorem live_none : ∀ {as : Sl} {i : Nat}, as[i]? = some none → as.set i none = as
  | none :: as, 0, h => rfl
  | some y :: as, 0, h => by simp at h
  | y :: as, i + 1, h => by
    show y :: as.set i none = y :: as
    rw [live_none (as := as) (i := i) (by simpa using h)]
/-- what is let go with a slot -/
theorem live_drop : ∀ {as : Sl} {i : Nat}, ∃ M : List A, (live as).Perm (M ++ live (as.set i none))
  | [], i => ⟨[], List.Perm.refl _⟩
  | none :: as, 0 => ⟨[], List.Perm.refl _⟩
  | some y :: as, 0 => ⟨[y], List.Perm.refl _⟩
  | none :: as, i + 1 => live_drop (as := as) (i := i)
  | some y :: as, i + 1 => by
    obtain ⟨M, h⟩ := live_drop (as := as) (i := i)
    exact ⟨M, (h.cons y).trans (List.perm_middle.symm)⟩
theorem ers_len (as : Sl) : (ers as).length = as.length := by simp [ers]
theorem ers_get {as : Sl} {i : Nat} : (ers as)[i]? = (as[i]?).map (Option.map A.er) := by simp [ers]
theorem ers_set (as : Sl) (i : Nat) (x : Option A) : ers (as.set i x) = (ers as).set i (x.map A.er) := by simp [ers, List.map_set]

def SR (σ : St) (as : Sl) : Prop := as.length = σ.length ∧ ∀ (i : Nat) (x : A), as[i]? = some (some x) → σ[i]? = some (some x.val)

/-- the entry of a def -/
structure En where
  H0 : Hp
  B0 : Hp
  A0 : List Addr
abbrev G (c : Gx) (n : En) (B H : Hp) (L : List A) : Prop := Gd c n.H0 n.B0 n.A0 B H L
/-- from a state to a later one of the same slots' values: M the slots that may have been touched -/
structure Nx (c : Gx) (n : En) (σ : St) (M : List Nat) (as : Sl) (B : Hp) (as' : Sl) (T' : List A) (B' H' : Hp) : Prop where
  sb : Same B B'
  gd : G c n B' H' (live as' ++ T')
  sr : SR σ as'
  fr : ∀ i, i ∉ M → as'[i]? = as[i]?

theorem Nx.refl {c : Gx} {n : En} {σ : St} {as : Sl} {B H : Hp} {T : List A} (g : G c n B H (live as ++ T)) (s : SR σ as) : Nx c n σ [] as B as T B H := ⟨Same.refl _, g, s, fun _ _ => rfl⟩
theorem Nx.trans {c : Gx} {n : En} {σ : St} {as as1 as2 : Sl} {B B1 H1 B2 H2 : Hp} {T1 T2 : List A} {M N : List Nat} (a : Nx c n σ M as B as1 T1 B1 H1) (b : Nx c n σ N as1 B1 as2 T2 B2 H2) : Nx c n σ (M ++ N) as B as2 T2 B2 H2 :=
  ⟨a.sb.trans b.sb, b.gd, b.sr, fun i hi => (b.fr i fun z => hi (List.mem_append_right _ z)).trans (a.fr i fun z => hi (List.mem_append_left _ z))⟩
theorem Nx.mono {c : Gx} {n : En} {σ : St} {as as1 : Sl} {B B1 H1 : Hp} {T1 : List A} {M N : List Nat} (a : Nx c n σ M as B as1 T1 B1 H1) (h : ∀ i ∈ M, i ∈ N) : Nx c n σ N as B as1 T1 B1 H1 :=
  ⟨a.sb, a.gd, a.sr, fun i hi => a.fr i fun z => hi (h i z)⟩

/-! ### within a tree -/
/-- the subtree at a path, through owned nodes alone -/
def A.sub : A → List Nat → Option A
  | x, [] => some x
  | .fl _ _, _ :: _ => none
  | .nd _ _ _ cs, j :: p => (cs[j]?).bind fun y => y.sub p
def A.put : A → List Nat → A → A
  | _, [], y => y
  | .fl v d, _ :: _, _ => .fl v d
  | .nd a dx k cs, j :: p, y => match cs[j]? with
    | some z => .nd a dx k (cs.set j (z.put p y))
    | none => .nd a dx k cs
def W.sub : W → List Nat → Option W
  | x, [] => some x
  | .fl _, _ :: _ => none
  | .nd _ cs, j :: p => (cs[j]?).bind fun y => y.sub p
def W.put : W → List Nat → W → W
  | _, [], y => y
  | .fl d, _ :: _, _ => .fl d
  | .nd k cs, j :: p, y => match cs[j]? with
    | some z => .nd k (cs.set j (z.put p y))
    | none => .nd k cs

theorem objsL_set {c : Gx} : ∀ {cs : List A} {j : Nat} {z : A}, cs[j]? = some z → ∃ R, (objsL c cs).Perm (z.objs c ++ R) ∧ ∀ z' : A, (objsL c (cs.set j z')).Perm (z'.objs c ++ R)
  | x :: cs, 0, z, h => by
    have e : x = z := by simpa using h
    subst e
    exact ⟨objsL c cs, List.Perm.refl _, fun z' => List.Perm.refl _⟩
  | x :: cs, j + 1, z, h => by
    obtain ⟨R, h1, h2⟩ := objsL_set (c := c) (cs := cs) (j := j) (z := z) (by simpa using h)
    have sw : ∀ l1 l2 l3 : List (Addr × HO), (l1 ++ (l2 ++ l3)).Perm (l2 ++ (l1 ++ l3)) := fun l1 l2 l3 => by
      rw [← List.append_assoc, ← List.append_assoc]
      exact List.Perm.append_right _ List.perm_append_comm
    exact ⟨x.objs c ++ R, (List.Perm.append_left _ h1).trans (sw _ _ _), fun z' => (List.Perm.append_left _ (h2 z')).trans (sw _ _ _)⟩
theorem okL_set {c : Gx} {B : Hp} {cs : List A} {j : Nat} {z : A} (h : okL c B cs) (hz : z.ok c B) : okL c B (cs.set j z) := okL_iff.mpr fun x hx => by
  rcases List.mem_or_eq_of_mem_set hx with q | q
  · exact okL_iff.mp h x q
  · rw [q]
    exact hz
theorem okL_get {c : Gx} {B : Hp} {cs : List A} {j : Nat} {z : A} (h : okL c B cs) (e : cs[j]? = some z) : z.ok c B := okL_iff.mp h z (List.mem_of_getElem? e)
theorem vals_set {cs : List A} {j : Nat} {z z' : A} (e : cs[j]? = some z) (hv : z'.val = z.val) : vals (cs.set j z') = vals cs := by
  show (cs.set j z').map A.val = cs.map A.val
  rw [List.map_set, hv]
  refine List.ext_getElem? fun i => ?_
  rw [List.getElem?_set]
  by_cases hij : j = i
  · subst hij
    have hl : j < cs.length := (List.getElem?_eq_some_iff.mp e).1
    rw [if_pos rfl, if_pos (by simpa using hl), List.getElem?_map, e]
    rfl
  · rw [if_neg hij]
theorem A.er_sub : ∀ {x : A} {p : List Nat} {y : A}, x.sub p = some y → x.er.sub p = some y.er
  | x, [], y, h => by
    have e : x = y := by simpa [A.sub] using h
    subst e
    cases x <;> rfl
  | .fl _ _, _ :: _, _, h => by simp [A.sub] at h
  | .nd a dx k cs, j :: p, y, h => by
    cases e : cs[j]? with
    | none => simp [A.sub, e] at h
    | some z =>
      have h' : z.sub p = some y := by simpa [A.sub, e] using h
      have := A.er_sub (x := z) h'
      simp [A.er_nd, W.sub, e, this]
theorem A.sub_er : ∀ {x : A} {p : List Nat} {w : W}, x.er.sub p = some w → ∃ y, x.sub p = some y ∧ y.er = w
  | x, [], w, h => ⟨x, rfl, by
    have : x.er.sub [] = some x.er := by cases x <;> rfl
    rw [this] at h
    exact Option.some.inj h⟩
  | .fl _ _, _ :: _, _, h => by simp [W.sub] at h
  | .nd a dx k cs, j :: p, w, h => by
    cases e : cs[j]? with
    | none => simp [A.er_nd, W.sub, e] at h
    | some z =>
      have h' : z.er.sub p = some w := by simpa [A.er_nd, W.sub, e] using h
      obtain ⟨y, q1, q2⟩ := A.sub_er (x := z) h'
      exact ⟨y, by simp [A.sub, e, q1], q2⟩
theorem A.er_put : ∀ {x : A} {p : List Nat} {y : A}, (x.put p y).er = x.er.put p y.er
  | .fl _ _, [], _ => rfl
  | .nd _ _ _ _, [], y => by
    rw [A.er_nd]
    rfl
  | .fl _ _, _ :: _, _ => rfl
  | .nd a dx k cs, j :: p, y => by
    cases e : cs[j]? with
    | none => simp [A.put, W.put, e]
    | some z => simp [A.put, W.put, e, List.map_set, A.er_put (x := z)]
/-- a subtree of the same address is put in -/
theorem A.put_at {c : Gx} : ∀ {x : A} {p : List Nat} {y : A}, x.sub p = some y →
    ∃ R, (x.objs c).Perm (y.objs c ++ R) ∧ ∀ y' : A, y'.val = y.val → (x.put p y').val = x.val ∧ ((x.put p y').objs c).Perm (y'.objs c ++ R)
  | x, [], y, h => by
    have e : x = y := by simpa [A.sub] using h
    subst e
    exact ⟨[], by simp, fun y' hv => ⟨by cases x <;> exact hv, by cases x <;> simp [A.put]⟩⟩
  | .fl _ _, _ :: _, _, h => by simp [A.sub] at h
  | .nd a dx k cs, j :: p, y, h => by
    cases e : cs[j]? with
    | none => simp [A.sub, e] at h
    | some z =>
      have h' : z.sub p = some y := by simpa [A.sub, e] using h
      obtain ⟨R, h1, h2⟩ := A.put_at (c := c) (x := z) h'
      obtain ⟨S, g1, g2⟩ := objsL_set (c := c) e
      have sw : ∀ (u : Addr × HO) (l1 l2 l3 l4 : List (Addr × HO)), (u :: (l1 ++ (l2 ++ l3 ++ l4))).Perm (l2 ++ (u :: (l1 ++ (l3 ++ l4)))) := fun u l1 l2 l3 l4 => by
        refine List.Perm.trans ?_ List.perm_middle.symm
        refine List.Perm.cons _ ?_
        rw [List.append_assoc, ← List.append_assoc, ← List.append_assoc l2 l1]
        exact List.Perm.append_right _ List.perm_append_comm
      refine ⟨(a, k.ho c dx (vals cs)) :: (k.xtr a dx ++ (R ++ S)), ?_, fun y' hv => ?_⟩
      · show ((a, k.ho c dx (vals cs)) :: (k.xtr a dx ++ objsL c cs)).Perm _
        exact (List.Perm.cons _ (List.Perm.append_left _ (g1.trans (List.Perm.append_right _ h1)))).trans (sw _ _ _ _ _)
      · obtain ⟨q1, q2⟩ := h2 y' hv
        have ee : A.put (.nd a dx k cs) (j :: p) y' = .nd a dx k (cs.set j (z.put p y')) := by simp [A.put, e]
        rw [ee]
        refine ⟨rfl, ?_⟩
        show ((a, k.ho c dx (vals (cs.set j (z.put p y')))) :: (k.xtr a dx ++ objsL c (cs.set j (z.put p y')))).Perm _
        rw [vals_set e q1]
        exact (List.Perm.cons _ (List.Perm.append_left _ ((g2 _).trans (List.Perm.append_right _ q2)))).trans (sw _ _ _ _ _)
theorem A.put_ok {c : Gx} {B : Hp} : ∀ {x : A} {p : List Nat} {y : A}, x.ok c B → y.ok c B → (x.put p y).ok c B
  | .fl _ _, [], _, _, hy => hy
  | .nd _ _ _ _, [], _, _, hy => hy
  | .fl _ _, _ :: _, _, hx, _ => hx
  | .nd a dx k cs, j :: p, y, ⟨h1, h2⟩, hy => by
    cases e : cs[j]? with
    | none =>
      have ee : A.put (.nd a dx k cs) (j :: p) y = .nd a dx k cs := by simp [A.put, e]
      rw [ee]
      exact ⟨h1, h2⟩
    | some z =>
      have ee : A.put (.nd a dx k cs) (j :: p) y = .nd a dx k (cs.set j (z.put p y)) := by simp [A.put, e]
      rw [ee]
      exact ⟨by rw [List.length_set]; exact h1, okL_set h2 (A.put_ok (okL_get h2 e) hy)⟩
theorem A.sub_ok {c : Gx} {B : Hp} : ∀ {x : A} {p : List Nat} {y : A}, x.ok c B → x.sub p = some y → y.ok c B
  | x, [], y, hx, h => by
    have e : x = y := by simpa [A.sub] using h
    subst e
    exact hx
  | .fl _ _, _ :: _, _, _, h => by simp [A.sub] at h
  | .nd a dx k cs, j :: p, y, ⟨_, h2⟩, h => by
    cases e : cs[j]? with
    | none => simp [A.sub, e] at h
    | some z => exact A.sub_ok (x := z) (okL_get h2 e) (by simpa [A.sub, e] using h)
end Vx
end

section
set_option maxHeartbeats 4000000
/-! Vx 3: the language and what it computes. -/
namespace Vx
open PySem L2

/-! ### data as the model's data -/
mutual
def D.py : D → Option PyData
  | .non => some .none
  | .bl b => some (.bool b)
  | .int i => some (.int i)
  | .str x => some (.str x)
  | .nd .lst cs => (D.pys cs).map .list
  | .nd .tup cs => (D.pys cs).map .tuple
  | .nd _ _ => none
def D.pys : List D → Option (List PyData)
  | [] => some []
  | d :: ds => match d.py, D.pys ds with
    | some p, some q => some (p :: q)
    | _, _ => none
end
def W.isFl : W → Bool
  | .fl _ => true
  | .nd _ _ => false
def W.unfl : W → D
  | .fl d => d
  | w => w.dat
def W.fzT : W → W
  | .nd .tup cs => .fl (.nd .tup (cs.map W.unfl))
  | w => w
/-- a container whose items are known for good -/
def W.shal : W → Option (Kd × List D)
  | .fl (.nd k ds) => some (k, ds)
  | .fl _ => none
  | .nd k cs => if cs.all W.isFl then some (k, cs.map W.unfl) else none
def W.lstD (w : W) : Option (List D) := match w.shal with
  | some (.lst, ds) => some ds
  | _ => none
def W.tupD (w : W) : Option (List D) := match w.shal with
  | some (.tup, ds) => some ds
  | _ => none
def W.seqD (w : W) : Option (List D) := match w.shal with
  | some (.lst, ds) => some ds
  | some (.tup, ds) => some ds
  | _ => none
/-- how many items: lists, tuples, dicts, texts -/
def W.lenD : W → Option Int
  | .fl (.str x) => if x.length ≤ 100000 then some x.length else none
  | .fl (.nd k ds) => match k with
    | .ins _ _ => none
    | _ => some ds.length
  | .fl _ => none
  | .nd k cs => match k with
    | .ins _ _ => none
    | _ => some cs.length
def D.flat : D → Bool
  | .nd _ _ => false
  | _ => true
def D.v : D → V
  | .bl b => .bl b
  | .int i => .int i
  | .str x => .str x
  | _ => .non
/-- a dict's key -/
def D.key : D → Option Key
  | .int i => some (.inl i)
  | .str x => some (.inr x)
  | _ => none
def D.keyT : D → Option (List Key)
  | .nd .tup ds => ds.mapM D.key
  | _ => none
def keyD : Key → D
  | .inl i => .int i
  | .inr x => .str x
def lookZ {α β : Type} [DecidableEq α] : List α → List β → α → Option β
  | k :: ks, v :: vs, x => if k = x then some v else lookZ ks vs x
  | _, _, _ => none
/-- where a key stands -/
def atZ {α : Type} [DecidableEq α] : List α → α → Option Nat
  | [], _ => none
  | k :: ks, x => if k = x then some 0 else (atZ ks x).map (· + 1)
abbrev pI (i : Int) : Option W := some (.fl (.int i))
abbrev pB (b : Bool) : Option W := some (.fl (.bl b))
def newL (ds : List D) : W := .nd .lst (ds.map .fl)
def newT (ds : List D) : W := .nd .tup (ds.map .fl)
def small (n : Nat) : Bool := decide (n ≤ 100000)
def dInts : List D → Option (List Int)
  | [] => some []
  | .int i :: ds => (dInts ds).map (i :: ·)
  | _ :: _ => none
def dStrs : List D → Option (List Str)
  | [] => some []
  | .str i :: ds => (dStrs ds).map (i :: ·)
  | _ :: _ => none
def dBls : List D → Option (List Bool)
  | [] => some []
  | .bl i :: ds => (dBls ds).map (i :: ·)
  | _ :: _ => none
def leastI : List Int → Option Int
  | [] => none
  | x :: xs => some (xs.foldl min x)
def mostI : List Int → Option Int
  | [] => none
  | x :: xs => some (xs.foldl max x)
def py0 (d : D) : PyData := d.py.getD .none
/-- may the data be sorted together -/
def canSort (ds : List D) : Bool :=
  ds.all (fun d => d.py.isSome && decide ((py0 d).depth ≤ 60)) && (ds.all fun d => ds.all fun e => PySem.W.alike (py0 d) (py0 e)) &&
  ((ds.all fun d => match d with
    | .nd .tup (_ :: _) => true
    | _ => false) || ds.all fun d => match d with
    | .non => false
    | .nd .tup _ => false
    | _ => true)
def leD (a b : D) : Bool := PySem.W.dataLe false py0 a b
def cutD (ds : List D) (lo hi : Option Int) : List D := (ds.drop (HT.sIx ds.length 0 lo)).take (HT.sIx ds.length ds.length hi - HT.sIx ds.length 0 lo)
def isOf (t : String) : D → Option Bool
  | .non => some false
  | .bl _ => some (t == "bool" || t == "int")
  | .int _ => some (t == "int")
  | .str _ => some (t == "str")
  | .nd .lst _ => some (t == "list")
  | .nd .tup _ => some (t == "tuple")
  | .nd (.dK _) _ => some (t == "dict")
  | _ => none
/-- the keys of a dict, and what they lead to, known for good -/
def W.dicK (w : W) : Option (List Key × List D) := match w.shal with
  | some (.dK ks, ds) => some (ks, ds)
  | some (.lK ks, ds) => some (ks, ds)
  | _ => none
def W.dicT (w : W) : Option (List (List Key) × List D) := match w.shal with
  | some (.dT ks, ds) => some (ks, ds)
  | some (.lT ks, ds) => some (ks, ds)
  | _ => none

inductive Rop where
  | add | sub | mul | fdiv | mod | pow | neg
  | lt | le | gt | ge | eqF | neF | eqD | neD | isN | notN | ltD
  | ltS | leS | gtS | geS | inD | niD | isB | notB
  | inQ | niQ | inS | niS | inK | niK
  | addS | catL | catT
  | len | intB | min2 | max2 | sum | min1 | max1 | allB | anyB | listOf | tupOf | sorted | dictOf | minD | maxD | srtSet
  | slice (lo hi : Bool) | ixS | join (z : Str) | isI (t : String)
  | dcp | keys

def small64 (i : Int) : Bool := decide (-(2 ^ 64) < i ∧ i < 2 ^ 64)
def eqD? (a b : D) : Option Bool := match a.py, b.py with
  | some p, some q => if SeqAt.shaped p && SeqAt.shaped q then some (PyData.eqv p q) else none
  | _, _ => none
def nonN : PyData → Bool
  | .none => false
  | _ => true
def ltD? (a b : D) : Option Bool := match a.py, b.py with
  | some p, some q => if PySem.W.alike p q && (nonN p && decide (p.depth ≤ 60)) then some (PySem.W.dataLt p q) else none
  | _, _ => none
def inQ? (x : D) (w : W) : Option Bool := match w.seqD with
  | some ds => if flatV x.v && x.flat && ds.all (fun d => d.flat && flatV d.v) then some (inV x.v (ds.map D.v)) else none
  | none => none
def inK? (x : D) : W → Option Bool
  | .fl (.nd (.dK ks) _) => x.key.map fun k => (atZ ks k).isSome
  | .fl (.nd (.dT ks) _) => x.keyT.map fun k => (atZ ks k).isSome
  | .nd (.dK ks) _ => x.key.map fun k => (atZ ks k).isSome
  | .nd (.dT ks) _ => x.keyT.map fun k => (atZ ks k).isSome
  | .fl (.nd (.lK ks) _) => x.key.map fun k => (atZ ks k).isSome
  | .fl (.nd (.lT ks) _) => x.keyT.map fun k => (atZ ks k).isSome
  | .nd (.lK ks) _ => x.key.map fun k => (atZ ks k).isSome
  | .nd (.lT ks) _ => x.keyT.map fun k => (atZ ks k).isSome
  | _ => none
/-- d.get(k, e) -/
def getD? (w : W) (x e : D) : Option D := match w.dicK with
  | some (ks, ds) => x.key.map fun k => (lookZ ks ds k).getD e
  | none => match w.dicT with
    | some (ks, ds) => x.keyT.map fun k => (lookZ ks ds k).getD e
    | none => none
def tupK (k : List Key) : D := .nd .tup (k.map keyD)
def keys? (w : W) : Option (List D) := match w.dicK with
  | some (ks, _) => some (ks.map keyD)
  | none => match w.dicT with
    | some ([], _) => some []
    | _ => none
def slice? (w : W) (lo hi : Option Int) : Option W := match w with
  | .fl (.str z) => if z.length ≤ 100000 then some (.fl (.str (cutS z lo hi))) else none
  | _ => match w.shal with
  | some (.lst, ds) => some (newL (cutD ds lo hi))
  | some (.tup, ds) => if ((HT.sIx ds.length 0 lo : Nat) = 0 ∧ HT.sIx ds.length ds.length hi = ds.length) then none else some (newT (cutD ds lo hi))
  | _ => none

/-! shapes of operators -/
def on2I (f : Int → Int → Option W) : List W → Option W
  | [.fl (.int i), .fl (.int j)] => f i j
  | _ => none
def on1 (f : W → Option W) : List W → Option W
  | [x] => f x
  | _ => none
def on2 (f : W → W → Option W) : List W → Option W
  | [x, y] => f x y
  | _ => none
def on3 (f : W → W → W → Option W) : List W → Option W
  | [x, y, z] => f x y z
  | _ => none
def W.int? : W → Option Int
  | .fl (.int i) => some i
  | _ => none
def W.str? : W → Option Str
  | .fl (.str i) => some i
  | _ => none
def W.bl? : W → Option Bool
  | .fl (.bl i) => some i
  | _ => none
def W.flat? : W → Option D
  | .fl (.nd _ _) => none
  | .fl d => some d
  | _ => none
def W.isNon : W → Bool
  | .fl .non => true
  | _ => false
def eqF? (n : Bool) (x y : W) : Option W := match x.flat?, y.flat? with
  | some a, some b => if scal a.v b.v then pB (n != decide (a.v = b.v)) else none
  | _, _ => none
def ltStr (a b : Str) : Bool := decide (a.cps.toList < b.cps.toList)
def inD? (a b : D) : Option Bool := match a.py, b.py with
  | some p, some (.list ds) => if SeqAt.shaped p && SeqAt.shaped (.list ds) then some (ds.any fun z => PyData.eqv z p) else none
  | _, _ => none
def onS (f : Str → Str → Bool) (x y : W) : Option W := x.str?.bind fun a => y.str?.bind fun b => pB (f a b)
def onB (f : Bool → Bool → Bool) (x y : W) : Option W := x.bl?.bind fun a => y.bl?.bind fun b => pB (f a b)
/-- pairs of a key and what it leads to -/
def pairsD : List D → Option (List (Key × D))
  | [] => some []
  | .nd .tup [k, v] :: ds => match k.key, pairsD ds with
    | some x, some l => some ((x, v) :: l)
    | _, _ => none
  | _ :: _ => none
def newD (kvs : List (Key × D)) : W := .nd (.dK (kvs.map (·.1))) (kvs.map fun p => .fl p.2)
/-- a number put into a rising list, once -/
def insU (n : Int) : List Int → List Int
  | [] => [n]
  | m :: ms => if n < m then n :: m :: ms else if n = m then m :: ms else m :: insU n ms
def ssI (ns : List Int) : List Int := ns.foldr insU []
/-- what an operator gives of its operands -/
def Rop.run : Rop → List W → Option W
  | .add => on2I fun i j => pI (i + j)
  | .sub => on2I fun i j => pI (i - j)
  | .mul => on2I fun i j => if small64 i || small64 j then pI (i * j) else none
  | .fdiv => on2I fun i j => if 0 < j ∧ j < 1073741824 then pI (i / j) else none
  | .mod => on2I fun i j => if 0 < j then pI (i % j) else none
  | .pow => on2I fun i j => if 0 ≤ j ∧ j ≤ 1000000 ∧ i.natAbs < 2 ^ 64 then pI (i ^ j.toNat) else none
  | .neg => on1 fun x => x.int?.bind fun i => pI (-i)
  | .lt => on2I fun i j => pB (decide (i < j))
  | .le => on2I fun i j => pB (decide (i ≤ j))
  | .gt => on2I fun i j => pB (decide (j < i))
  | .ge => on2I fun i j => pB (decide (j ≤ i))
  | .eqF => on2 (eqF? false)
  | .neF => on2 (eqF? true)
  | .eqD => on2 fun x y => (eqD? x.dat y.dat).bind fun b => pB b
  | .neD => on2 fun x y => (eqD? x.dat y.dat).bind fun b => pB (!b)
  | .isN => on2 fun x y => if y.isNon then pB x.isNon else none
  | .notN => on2 fun x y => if y.isNon then pB (!x.isNon) else none
  | .ltD => on2 fun x y => (ltD? x.dat y.dat).bind fun b => pB b
  | .ltS => on2 (onS fun a b => ltStr a b)
  | .leS => on2 (onS fun a b => !ltStr b a)
  | .gtS => on2 (onS fun a b => ltStr b a)
  | .geS => on2 (onS fun a b => !ltStr a b)
  | .inD => on2 fun x w => (inD? x.dat w.dat).bind fun b => pB b
  | .niD => on2 fun x w => (inD? x.dat w.dat).bind fun b => pB (!b)
  | .isB => on2 (onB fun a b => decide (a = b))
  | .notB => on2 (onB fun a b => !decide (a = b))
  | .inQ => on2 fun x w => x.flat?.bind fun d => (inQ? d w).bind fun b => pB b
  | .niQ => on2 fun x w => x.flat?.bind fun d => (inQ? d w).bind fun b => pB (!b)
  | .inS => on2 fun x y => x.str?.bind fun a => y.str?.bind fun b => pB (!(Builtin.Str.occurrences b a 0 b.length 1).isEmpty)
  | .niS => on2 fun x y => x.str?.bind fun a => y.str?.bind fun b => pB (!(!(Builtin.Str.occurrences b a 0 b.length 1).isEmpty))
  | .inK => on2 fun x w => (inK? x.dat w).bind fun b => pB b
  | .niK => on2 fun x w => (inK? x.dat w).bind fun b => pB (!b)
  | .addS => on2 fun x y => x.str?.bind fun a => y.str?.bind fun b => if small (a.length + b.length) then some (.fl (.str (a ++ b))) else none
  | .catL => on2 fun x y => x.lstD.bind fun a => y.lstD.bind fun b => if small (a.length + b.length) then some (newL (a ++ b)) else none
  | .catT => on2 fun x y => x.tupD.bind fun a => y.tupD.bind fun b => if small (a.length + b.length) && !a.isEmpty && !b.isEmpty then some (newT (a ++ b)) else none
  | .len => on1 fun x => x.lenD.bind fun n => pI n
  | .intB => on1 fun x => match x.bl? with
    | some b => pI (if b then 1 else 0)
    | none => x.int?.bind fun i => pI i
  | .min2 => on2I fun i j => pI (if j < i then j else i)
  | .max2 => on2I fun i j => pI (if j > i then j else i)
  | .sum => on1 fun x => (x.lstD.bind dInts).bind fun ns => pI ns.sum
  | .min1 => on1 fun x => ((x.lstD.bind dInts).bind leastI).bind fun n => pI n
  | .max1 => on1 fun x => ((x.lstD.bind dInts).bind mostI).bind fun n => pI n
  | .allB => on1 fun x => (x.lstD.bind dBls).bind fun bs => pB (bs.all id)
  | .anyB => on1 fun x => (x.lstD.bind dBls).bind fun bs => pB (bs.any id)
  | .listOf => on1 fun x => x.seqD.bind fun ds => some (newL ds)
  | .tupOf => on1 fun x => x.lstD.bind fun ds => some (newT ds)
  | .sorted => on1 fun x => x.lstD.bind fun ds => if canSort ds then some (newL (ds.mergeSort leD)) else none
  | .srtSet => on1 fun x => (x.lstD.bind dInts).bind fun ns => if ns.length + 1 < 4096 then some (newL ((ssI ns).map D.int)) else none
  | .minD => on2 fun x y => (x.lstD.bind dInts).bind fun ns => y.int?.bind fun d => pI ((leastI ns).getD d)
  | .maxD => on2 fun x y => (x.lstD.bind dInts).bind fun ns => y.int?.bind fun d => pI ((mostI ns).getD d)
  | .dictOf => on1 fun x => (x.lstD.bind pairsD).bind fun kvs => if (kvs.map (·.1)).Nodup then some (newD kvs) else none
  | .slice false false => on1 fun x => slice? x none none
  | .slice true false => on2 fun x y => y.int?.bind fun i => slice? x (some i) none
  | .slice false true => on2 fun x y => y.int?.bind fun i => slice? x none (some i)
  | .slice true true => on3 fun x y z => y.int?.bind fun i => z.int?.bind fun j => slice? x (some i) (some j)
  | .dcp => on1 fun w => match w.dicK with
    | some p => if p.2.length ≤ 100000 then some (.nd (.dK p.1) (p.2.map .fl)) else none
    | none => match w.dicT with
      | some p => if p.2.length ≤ 1 then some (.nd (.dT p.1) (p.2.map .fl)) else none
      | none => none
  | .keys => on1 fun w => (keys? w).bind fun ds => if small ds.length then some (newL ds) else none
  | .ixS => on2 fun x y => x.str?.bind fun z => y.int?.bind fun i => if z.length ≤ 100000 then (atI z.cps.toList i).bind fun c => some (.fl (.str ⟨#[c]⟩)) else none
  | .join z => on1 fun y => (y.lstD.bind dStrs).bind fun ys => if (ys.map (·.length)).sum + ys.length * z.length ≤ 16777216 then some (.fl (.str (Txt.join z ys))) else none
  | .isI t => on1 fun x => (isOf t x.dat).bind fun b => pB b

/-! ### the language -/
inductive Tg where
  | nm (i : Nat) | tp (ts : List Tg)
/-- a way into a tree: fields and keys that are written -/
abbrev Wy := Nat × List (Str ⊕ Key)
mutual
inductive E where
  | rd (p : Pl) | gt (p : Pl) | mv (i : Nat) | con (d : D) | gl (x : Str) (d : D)
  | op (r : Rop) (xs : List O)
  | ixT (a b : E)
  | lst (es : List E) | tup (es : List E) | dnK | dnT | fz (e : E)
  | call (f : Nat) (xs : List Ar) | call0 (f : Nat) | srtK (f : Nat) (o : O) | sl3 (o : O) (lo hi : E) | rng (a b : E)
  | ite (c a b : E) | and (a b : E) | or (a b : E) | not (a : E)
  | chn (r s : Rop) (a b c : E)
  | tru (x : O)
  /-- a key of a temporary -/
  | kyT (a b : E)
  /-- read, locked and known for good from then on -/
  | rdl (i : Nat)
  /-- is e (not) in the module's tuple x -/
  | inG (neg : Bool) (e : E) (x : Str) (zs : List Str)
  /-- o.m(..) of an own class: the receiver is the first argument -/
  | meth (ci : Nat) (m : Str) (f : Nat) (xs : List Ar)
  /-- C(..) -/
  | new (ci : Nat) (f : Nat) (es : List E)
  | popv (p : Pl) | popk (p : Pl) (k : E)
  /-- p.get(k, e) -/
  | getd (p : Pl) (k e : E)
  /-- with the dict there locked -/
  | wlk (q : Wy) (e : E)
  /-- list(range(a, b, -1)) -/
  | rngD (es : List E)
  | lc (own : List (Str × Nat)) (g : Tg) (it : It) (ifs : Option E) (e : E)
inductive O where
  | tm (e : E) | bo (p : Pl)
inductive Ar where
  | va (e : E) | io (i : Nat) | ro (i : Nat)
inductive Pl where
  | sl (i : Nat) | ix (p : Pl) (e : E) | ky (p : Pl) (e : E) | fd (p : Pl) (ci : Nat) (f : Str)
inductive It where
  | sq (o : O) | tq (o : O) | ks (o : O) | r1 (e : E) | r2 (a b : E) | zp (a b : O) | en (a : O) | st (o : O) | zs (a b : O)
end
inductive S where
  | asg (i : Nat) (e : E)
  | asgC (i : Nat) (e : E)
  | unp (g : Tg) (e : E)
  | aug (i : Nat) (r : Rop) (e : E)
  | seti (p : Pl) (ix e : E) | setk (p : Pl) (k e : E)
  | app (p : Pl) (e : E) | ins (p : Pl) (i e : E) | ext (p : Pl) (o : O) | pop0 (p : Pl) | popi (p : Pl) (i : E) | slc (p : Pl) (lo hi e : E)
  | ex (e : E)
  | iff (c : E) (a b : List S)
  | forr (g : Tg) (it : It) (b : List S)
  | whl (c : E) (b : List S)
  | ret (e : E) | retN
  | pass | brk | cnt
  | rais (cl : Nat) (msg : Str)
  | hold (is ms : List Nat) (b : List S)
  | setf (p : Pl) (ci : Nat) (f : Str) (e : E)
  | wlk (q : Wy) (s : S)
  | nev

/-- what defs do: by their numbers: values handed in, value and in-outs handed back -/
inductive Rf where
  | ok (w : W) (ws : List W) | ex (cl : Nat) (pay : D) (ws : List W) | bad
abbrev Den := Nat → List W → Rf

/-! ### in an environment -/
def W.setAt (r : Env) (i : Nat) (p : List Nat) (w : W) : Env := match r[i]? with
  | some (some x) => r.set i (some (x.put p w))
  | _ => r
mutual
def D.get : D → List Nat → Option D
  | d, [] => some d
  | .nd _ ds, j :: p => (ds[j]?).bind fun d => d.get p
  | _, _ :: _ => none
end
def W.get : W → List Nat → Option W
  | w, [] => some w
  | .fl d, j :: p => (d.get (j :: p)).map .fl
  | .nd _ cs, j :: p => (cs[j]?).bind fun y => y.get p
def eget (r : Env) (q : Nat × List Nat) : Option W := match r[q.1]? with
  | some (some x) => x.get q.2
  | _ => none
/-- where an index, a key, a field leads -/
def W.kids : W → Option (Kd × Nat)
  | .fl (.nd k ds) => some (k, ds.length)
  | .fl _ => none
  | .nd k cs => some (k, cs.length)
def stepIx (w : W) (i : W) : Option Nat := match w.kids, i with
  | some (.lst, n), .fl (.int i) => ixN n i
  | some (.tup, n), .fl (.int i) => ixN n i
  | _, _ => none
def stepKy (w : W) (i : W) : Option Nat := match w.kids, i with
  | some (.dK ks, _), x => (x.dat.key).bind fun k => atZ ks k
  | some (.dT ks, _), x => (x.dat.keyT).bind fun k => atZ ks k
  | some (.lK ks, _), x => (x.dat.key).bind fun k => atZ ks k
  | some (.lT ks, _), x => (x.dat.keyT).bind fun k => atZ ks k
  | _, _ => none
def stepFd (w : W) (ci : Nat) (f : Str) : Option Nat := match w.kids with
  | some (.ins i fs, _) => if i = ci then atZ fs f else none
  | _ => none
/-- locked -/
def Kd.lock : Kd → Kd
  | .dK ks => .lK ks
  | .dT ks => .lT ks
  | k => k
def Kd.unlock : Kd → Kd
  | .lK ks => .dK ks
  | .lT ks => .dT ks
  | k => k
mutual
def W.lock : W → W
  | .fl d => .fl d
  | .nd k cs => .nd k.lock (W.locks cs)
def W.locks : List W → List W
  | [] => []
  | w :: ws => w.lock :: W.locks ws
end
/-- where a written way leads -/
def stepS (k : Kd) (st : Str ⊕ Key) : Option Nat := match k, st with
  | .ins _ fs, .inl f => atZ fs f
  | .dK ks, .inr x => atZ ks x
  | .lK ks, .inr x => atZ ks x
  | _, _ => none
def D.way : D → List (Str ⊕ Key) → Option (List Nat)
  | _, [] => some []
  | .nd k cs, st :: ps => (stepS k st).bind fun j => (cs[j]?).bind fun d => (d.way ps).map (j :: ·)
  | _, _ :: _ => none
def W.way : W → List (Str ⊕ Key) → Option (List Nat)
  | _, [] => some []
  | .fl d, st :: ps => d.way (st :: ps)
  | .nd k cs, st :: ps => (stepS k st).bind fun j => (cs[j]?).bind fun w => (w.way ps).map (j :: ·)
/-- a place is read: shared from then on -/
def readAt (r : Env) (q : Nat × List Nat) : Option (W × Env) := match eget r q with
  | some (.fl d) => some (.fl d, r)
  | some (.nd k cs) => some (.fl (W.nd k cs).dat, W.setAt r q.1 q.2 (.fl (W.nd k cs).dat))
  | none => none
/-- the parts of a tuple -/
def W.parts : W → Option (List W)
  | .fl (.nd .tup ds) => some (ds.map .fl)
  | .nd .tup ws => some ws
  | _ => none
mutual
/-- bind a target -/
def Tg.bind : Tg → W → Env → Option Env
  | .nm i, w, r => if i < r.length then some (r.set i (some w)) else none
  | .tp ts, w, r => match w.parts with
    | some ws => Tg.binds ts ws r
    | none => none
def Tg.binds : List Tg → List W → Env → Option Env
  | [], [], r => some r
  | t :: ts, d :: ds, r => (t.bind d r).bind fun r1 => Tg.binds ts ds r1
  | _, _, _ => none
end
def W.truth : W → Option Bool
  | .fl (.bl b) => some b
  | .fl (.int i) => some (i != 0)
  | .fl (.nd .lst ds) => some (!ds.isEmpty)
  | .nd .lst cs => some (!cs.isEmpty)
  | _ => none
/-- a list of temporaries and places, in a state -/
inductive Rv where
  | t (w : W) | p (q : Nat × List Nat)
def Rv.val (r : Env) : Rv → Option W
  | .t w => some (.fl w.dat)
  | .p q => eget r q
def kids1 (w i : W) : Option W := (stepIx w i).bind fun j => w.get [j]
def wipeE (r : Env) : List Nat → Env
  | [] => r
  | v :: vs => (wipeE r vs).set v none
def mkT (ws : List W) : W := if ws.all W.isFl then .fl (.nd .tup (ws.map W.unfl)) else .nd .tup ws
inductive Out where
  | nx (r : Env) | rt (w : W) (r : Env) | bk (r : Env) | ct (r : Env) | ex (cl : Nat) (pay : D) (r : Env) | bad
def Res.out {α : Type} (x : Res α) (f : α → Out) : Out := match x with
  | .ok a => f a
  | .ex c p r => .ex c p r
  | .bad => .bad
@[simp] theorem Res.out_ok {α : Type} (a : α) (f : α → Out) : (Res.ok a).out f = f a := rfl
@[simp] theorem Res.out_ex {α : Type} (c : Nat) (p : D) (r : Env) (f : α → Out) : (Res.ex c p r).out f = .ex c p r := rfl
@[simp] theorem Res.out_bad {α : Type} (f : α → Out) : (Res.bad : Res α).out f = .bad := rfl
def Res.noEx {α : Type} (x : Res α) : Res α := match x with
  | .ok a => .ok a
  | _ => .bad
@[simp] theorem Res.noEx_ok {α : Type} (a : α) : (Res.ok a).noEx = .ok a := rfl
def Out.andThen (x : Out) (f : Env → Out) : Out := match x with
  | .nx r => f r
  | y => y
@[simp] theorem Out.then_nx (r : Env) (f : Env → Out) : (Out.nx r).andThen f = f r := rfl
@[simp] theorem Out.then_rt (w : W) (r : Env) (f : Env → Out) : (Out.rt w r).andThen f = .rt w r := rfl
@[simp] theorem Out.then_bk (r : Env) (f : Env → Out) : (Out.bk r).andThen f = .bk r := rfl
@[simp] theorem Out.then_ct (r : Env) (f : Env → Out) : (Out.ct r).andThen f = .ct r := rfl
@[simp] theorem Out.then_ex (c : Nat) (p : D) (r : Env) (f : Env → Out) : (Out.ex c p r).andThen f = .ex c p r := rfl
@[simp] theorem Out.then_bad (f : Env → Out) : Out.bad.andThen f = .bad := rfl
/-- the one dict at a way is locked; unlocked again -/
def lockW (r : Env) (q : Wy) : Option Env := match r[q.1]? with
  | some (some x) => match x.way q.2 with
    | some js => match x.get js with
      | some (.nd (.dK ks) cs) => if (x.sub js).isSome then some (r.set q.1 (some (x.put js (.nd (.lK ks) cs)))) else none
      | some (.nd (.dT ks) cs) => if (x.sub js).isSome then some (r.set q.1 (some (x.put js (.nd (.lT ks) cs)))) else none
      | some (.nd (.lK _) _) => some r
      | some (.nd (.lT _) _) => some r
      | some (.fl (.nd (.lK _) _)) => some r
      | some (.fl (.nd (.lT _) _)) => some r
      | _ => none
    | none => none
  | _ => none
/-- .. the slot as it was ahead -/
def unlockW (r0 r : Env) (q : Wy) : Env := r.set q.1 (r0[q.1]?.getD none)
/-- the receiver -/
def recv (r : Env) : List Ar → Option W
  | .io i :: _ => match r[i]? with
    | some (some w) => some w
    | _ => none
  | .ro i :: _ => match r[i]? with
    | some (some w) => some w
    | _ => none
  | _ => none
def isIns (ci : Nat) (m : Str) (w : W) : Bool := match w.kids with
  | some (.ins c fs, _) => decide (c = ci) && !fs.contains m
  | _ => false
/-- the in-outs taken out of their slots -/
def takeIo : List (W ⊕ Nat) → Env → Option (List W × Env)
  | [], r => some ([], r)
  | .inl w :: as, r => (takeIo as r).map fun q => (w :: q.1, q.2)
  | .inr i :: as, r => match r[i]? with
    | some (some w) => if w.isFl then none else (takeIo as (r.set i none)).map fun q => (w :: q.1, q.2)
    | _ => none
/-- .. and put back -/
def putIo : List (W ⊕ Nat) → List W → Env → Option Env
  | [], [], r => some r
  | .inl _ :: as, ws, r => putIo as ws r
  | .inr i :: as, w :: ws, r => putIo as ws (r.set i (some w))
  | _, _, _ => none
def bool? (x : W × Env) : Res (Bool × Env) := match x with
  | (.fl (.bl b), r) => .ok (b, r)
  | _ => .bad
def lcFold (bind : W → Env → Option Env) (test : Env → Res (Bool × Env)) (elt : Env → Res (W × Env)) (own : List Nat) : List W → List W → Env → Res (List W × Env)
  | [], acc, r => .ok (acc, r)
  | w :: ws, acc, r => (Res.of (bind w r)).bind fun r1 => (test r1).noEx.bind fun (b, r2) =>
    if b then (elt r2).noEx.bind fun (x, r3) => if small acc.length then lcFold bind test elt own ws (acc ++ [x]) (wipeE r3 own) else .bad
    else lcFold bind test elt own ws acc (wipeE r2 own)
def zipW : List D → List D → List W
  | a :: as, b :: bs => .fl (.nd .tup [a, b]) :: zipW as bs
  | _, _ => []
def enumW : Nat → List D → List W
  | _, [] => []
  | n, d :: ds => .fl (.nd .tup [.int (n : Int), d]) :: enumW (n + 1) ds
def rangeW (lo hi : Int) : List W := (List.range (hi - lo).toNat).map fun (i : Nat) => W.fl (D.int (lo + (i : Int)))
def rangeD (lo hi : Int) : List D := (List.range (hi - lo).toNat).map fun (i : Nat) => D.int (lo + (i : Int))
def downD (hi lo : Int) : List D := (List.range (hi - lo).toNat).map fun (i : Nat) => D.int (hi - (i : Int))
def within (i : Int) : Bool := decide (-100000000000 ≤ i ∧ i ≤ 100000000000)
def signsD (z : Str) : List D := z.cps.toList.map fun c => .str ⟨#[c]⟩
def sortBy {α : Type} (ns : List Int) (xs : List α) : List α := ((ns.zip xs).mergeSort fun p q => decide (p.1 ≤ q.1)).map (·.2)
/-- the key that a def gives of an item -/
def keyOf (Γ : Den) (f : Nat) (d : D) : Option Int := match Γ f [.fl d] with
  | .ok (.fl (.int k)) [] => some k
  | _ => none
def signsW (z : Str) : List W := z.cps.toList.map fun c => .fl (.str ⟨#[c]⟩)

/-- the keys of a dict that is locked -/
def W.lockedK (w : W) : Option (List D) := match w.kids with
  | some (.lK ks, n) => if ks.length = n then some (ks.map keyD) else none
  | _ => none
/-- an owned list at a place is given new items -/
def onLx (r : Env) (q : Nat × List Nat) (cs' : List W) : Option Env := match eget r q with
  | some (.nd .lst cs) => match r[q.1]? with
    | some (some x) => match x.get q.2 with
      | some (.nd .lst _) => if small cs'.length && (x.sub q.2).isSome then some (W.setAt r q.1 q.2 (.nd .lst cs')) else none
      | _ => none
    | _ => none
  | _ => none
def isDc (r : Env) (q : Nat × List Nat) : Bool := match eget r q with
  | some (.nd (.dK _) _) => true
  | _ => false
/-- a dict, its own or known -/
def isDic (r : Env) (q : Nat × List Nat) : Bool := match (eget r q).bind W.kids with
  | some (.dK _, _) => true
  | some (.dT _, _) => true
  | some (.lK _, _) => true
  | some (.lT _, _) => true
  | _ => false
/-- a key is taken out of an owned dict: what it led to is handed out -/
def dropD (r : Env) (q : Nat × List Nat) (k : W) : Option (W × Env) := match eget r q with
  | some (.nd (.dK ks) cs) => match k.dat.key with
    | some x => match atZ ks x with
      | some j => match cs[j]? with
        | some w => if small cs.length && decide (ks.length = cs.length) && decide ks.Nodup && ((r[q.1]?.getD none).bind fun x => x.sub q.2).isSome then some (w, W.setAt r q.1 q.2 (.nd (.dK (ks.eraseIdx j)) (cs.eraseIdx j))) else none
        | none => none
      | none => none
    | none => none
  | _ => none
section
variable (Γ : Den)
mutual
def E.sem : E → Env → Res (W × Env)
  | .rd p, r => (p.sem r).bind fun (q, r1) => Res.of (readAt r1 q)
  | .gt p, r => (p.sem r).bind fun (q, r1) => match eget r1 q with
    | some (.fl d) => .ok (.fl d, r1)
    | _ => .bad
  | .mv i, r => match r[i]? with
    | some (some w) => .ok (w, r.set i none)
    | _ => .bad
  | .con d, r => if d.flat then .ok (.fl d, r) else .bad
  | .gl _ d, r => if d.flat then .ok (.fl d, r) else .bad
  | .op o xs, r => (O.sems xs r).bind fun (vs, r1) => Res.of (((vs.mapM (Rv.val r1)).bind o.run).map fun w => (w.fzT, r1))
  | .ixT a b, r => (a.sem r).bind fun (x, r1) => (b.sem r1).bind fun (i, r2) => Res.of ((kids1 x i).map fun w => (w, r2))
  | .lst es, r => (E.sems es r).bind fun (ws, r1) => if small ws.length then .ok (.nd .lst ws, r1) else .bad
  | .tup es, r => (E.sems es r).bind fun (ws, r1) => if small ws.length then .ok (mkT ws, r1) else .bad
  | .dnK, r => .ok (.nd (.dK []) [], r)
  | .dnT, r => .ok (.nd (.dT []) [], r)
  | .fz e, r => (e.sem r).bind fun (w, r1) => .ok (.fl w.dat, r1)
  | .call f xs, r => (Ar.sems xs r).bind fun (vs, r1) => match takeIo vs r1 with
    | some (ws, r2) => match Γ f ws with
      | .ok w us => Res.of ((putIo vs us r2).map fun r3 => (w, r3))
      | .ex c p us => match putIo vs us r2 with
        | some r3 => .ex c p r3
        | none => .bad
      | .bad => .bad
    | none => .bad
  | .call0 f, r => match Γ f [] with
    | .ok w [] => .ok (w, r)
    | _ => .bad
  | .srtK f o, r => (O.sem o r).bind fun (v, r1) => Res.of (((v.val r1).bind W.lstD).bind fun ds => (ds.mapM (keyOf Γ f)).map fun ks => (newL (sortBy ks ds), r1))
  | .rng a b, r => (a.sem r).bind fun (x, r1) => (b.sem r1).bind fun (y, r2) => match x, y with
    | .fl (.int m), .fl (.int n) => if decide (-100000 ≤ m ∧ m ≤ 100000 ∧ -100000 ≤ n ∧ n ≤ 100000) then .ok (newL (rangeD m n), r2) else .bad
    | _, _ => .bad
  | .sl3 o a b, r => (O.sem o r).bind fun (v, r1) => (a.sem r1).bind fun (i, r2) => match i with
    | .fl (.int i) => (b.sem r2).bind fun (j, r3) => match j with
      | .fl (.int j) => Res.of (((v.val r3).bind fun w => slice? w (some i) (some j)).map fun w => (w.fzT, r3))
      | _ => .bad
    | _ => .bad
  | .ite c a b, r => ((c.sem r).bind bool?).bind fun (k, r1) => if k then a.sem r1 else b.sem r1
  | .and a b, r => ((a.sem r).bind bool?).bind fun (k, r1) => if k then b.sem r1 else .ok (.fl (.bl false), r1)
  | .or a b, r => ((a.sem r).bind bool?).bind fun (k, r1) => if k then .ok (.fl (.bl true), r1) else b.sem r1
  | .not a, r => ((a.sem r).bind bool?).bind fun (k, r1) => .ok (.fl (.bl (!k)), r1)
  | .chn o p a b c, r => (a.sem r).bind fun (x, r1) => (b.sem r1).bind fun (y, r2) => match o.run [x, y] with
    | some (.fl (.bl k)) => if k then (c.sem r2).bind fun (z, r3) => Res.of ((p.run [y, z]).map fun w => (w, r3)) else .ok (.fl (.bl false), r2)
    | _ => .bad
  | .kyT a b, r => (a.sem r).bind fun (x, r1) => (b.sem r1).bind fun (i, r2) => match x with
    | .fl d => Res.of (((stepKy (.fl d) i).bind fun j => (W.fl d).get [j]).map fun w => (w, r2))
    | _ => .bad
  | .rdl i, r => match r[i]? with
    | some (some w) => .ok (.fl w.lock.dat, r.set i (some (.fl w.lock.dat)))
    | _ => .bad
  | .inG neg e _ zs, r => (e.sem r).bind fun (w, r1) => match w with
    | .fl (.str z) => .ok (.fl (.bl (zs.contains z != neg)), r1)
    | _ => .bad
  | .meth ci m f xs, r => match recv r xs with
    | some w => if isIns ci m w then (Ar.sems xs r).bind fun (vs, r1) => match takeIo vs r1 with
      | some (ws, r2) => match Γ f ws with
        | .ok w us => Res.of ((putIo vs us r2).map fun r3 => (w, r3))
        | .ex c p us => match putIo vs us r2 with
          | some r3 => .ex c p r3
          | none => .bad
        | .bad => .bad
      | none => .bad
      else .bad
    | none => .bad
  | .new ci f es, r => (E.sems es r).bind fun (ws, r1) => match Γ f (.nd (.ins ci []) [] :: ws) with
    | .ok (.fl .non) [w] => .ok (w, r1)
    | _ => .bad
  | .popv p, r => (p.sem r).bind fun (q, r1) => match eget r1 q with
    | some (.nd .lst cs) => match cs.getLast? with
      | some w => Res.of ((onLx r1 q cs.dropLast).map fun r2 => (w, r2))
      | none => .bad
    | _ => .bad
  | .popk p k, r => (p.sem r).bind fun (q, r1) => if isDc r1 q then (k.sem r1).bind fun (x, r2) => Res.of (dropD r2 q x) else .bad
  | .getd p k e, r => (p.sem r).bind fun (q, r1) => if isDic r1 q then (k.sem r1).bind fun (x, r2) => (e.sem r2).bind fun (y, r3) => Res.of (((eget r3 q).bind fun w => getD? w x.dat y.dat).map fun d => (.fl d, r3)) else .bad
  | .wlk q e, r => match lockW r q with
    | some r1 => (e.sem r1).noEx.bind fun (w, r2) => .ok (w, unlockW r r2 q)
    | none => .bad
  | .rngD es, r => (E.sems es r).bind fun (ws, r1) => match ws with
    | [.fl (.int m), .fl (.int n), .fl (.int d)] => if decide (d = -1 ∧ -100000 ≤ m ∧ m ≤ 100000 ∧ -100000 ≤ n ∧ n ≤ 100000) then .ok (newL (downD m n), r1) else .bad
    | _ => .bad
  | .tru x, r => (O.sem x r).bind fun (v, r1) => Res.of (((v.val r1).bind W.truth).map fun b => (.fl (.bl b), r1))
  | .lc own g it ifs e, r => (It.sem it r).bind fun (ws, r1) =>
    (lcFold g.bind (match ifs with
      | none => fun r => .ok (true, r)
      | some c => fun r => (c.sem r).bind bool?) (fun r => e.sem r) (own.map (·.2)) ws [] (wipeE r1 (own.map (·.2)))).bind fun (acc, r2) => .ok (.nd .lst acc, r2)
def E.sems : List E → Env → Res (List W × Env)
  | [], r => .ok ([], r)
  | e :: es, r => (e.sem r).bind fun (w, r1) => (E.sems es r1).bind fun (ws, r2) => .ok (w :: ws, r2)
def O.sem : O → Env → Res (Rv × Env)
  | .tm e, r => (e.sem r).bind fun (w, r1) => .ok (.t w, r1)
  | .bo p, r => (p.sem r).bind fun (q, r1) => .ok (.p q, r1)
def O.sems : List O → Env → Res (List Rv × Env)
  | [], r => .ok ([], r)
  | x :: xs, r => (O.sem x r).bind fun (v, r1) => (O.sems xs r1).bind fun (vs, r2) => .ok (v :: vs, r2)
def Ar.sems : List Ar → Env → Res (List (W ⊕ Nat) × Env)
  | [], r => .ok ([], r)
  | .va e :: xs, r => (e.sem r).bind fun (w, r1) => (Ar.sems xs r1).bind fun (vs, r2) => .ok (.inl w :: vs, r2)
  | .io i :: xs, r => match r[i]? with
    | some (some _) => (Ar.sems xs r).bind fun (vs, r2) => .ok (.inr i :: vs, r2)
    | _ => .bad
  | .ro i :: xs, r => match r[i]? with
    | some (some w) => (Ar.sems xs r).bind fun (vs, r2) => .ok (.inl w :: vs, r2)
    | _ => .bad
def Pl.sem : Pl → Env → Res ((Nat × List Nat) × Env)
  | .sl i, r => match r[i]? with
    | some (some _) => .ok ((i, []), r)
    | _ => .bad
  | .ix p e, r => (p.sem r).bind fun (q, r1) => (e.sem r1).bind fun (i, r2) => Res.of (((eget r2 q).bind fun w => stepIx w i).map fun j => ((q.1, q.2 ++ [j]), r2))
  | .ky p e, r => (p.sem r).bind fun (q, r1) => (e.sem r1).bind fun (i, r2) => Res.of (((eget r2 q).bind fun w => stepKy w i).map fun j => ((q.1, q.2 ++ [j]), r2))
  | .fd p ci f, r => (p.sem r).bind fun (q, r1) => Res.of (((eget r1 q).bind fun w => stepFd w ci f).map fun j => ((q.1, q.2 ++ [j]), r1))
def It.sem : It → Env → Res (List W × Env)
  | .sq o, r => (O.sem o r).bind fun (v, r1) => Res.of (((v.val r1).bind W.lstD).map fun ds => (ds.map .fl, r1))
  | .tq o, r => (O.sem o r).bind fun (v, r1) => Res.of (((v.val r1).bind W.tupD).map fun ds => (ds.map .fl, r1))
  | .ks o, r => (O.sem o r).bind fun (v, r1) => Res.of (((v.val r1).bind W.lockedK).map fun ds => (ds.map .fl, r1))
  | .r1 e, r => (e.sem r).bind fun (w, r1) => match w with
    | .fl (.int n) => if within n then .ok (rangeW 0 n, r1) else .bad
    | _ => .bad
  | .r2 a b, r => (a.sem r).bind fun (x, r1) => (b.sem r1).bind fun (y, r2) => match x, y with
    | .fl (.int m), .fl (.int n) => if within m && within n then .ok (rangeW m n, r2) else .bad
    | _, _ => .bad
  | .zp a b, r => (O.sem a r).bind fun (v, r1) => (O.sem b r1).bind fun (u, r2) => match (v.val r2).bind W.lstD, (u.val r2).bind W.lstD with
    | some ds, some es => .ok (zipW ds es, r2)
    | _, _ => .bad
  | .en a, r => (O.sem a r).bind fun (v, r1) => Res.of (((v.val r1).bind W.lstD).map fun ds => (enumW 0 ds, r1))
  | .st o, r => (O.sem o r).bind fun (v, r1) => match v.val r1 with
    | some (.fl (.str z)) => .ok (signsW z, r1)
    | _ => .bad
  | .zs a b, r => (O.sem a r).bind fun (v, r1) => (O.sem b r1).bind fun (u, r2) => match (v.val r2).bind W.tupD, u.val r2 with
    | some ds, some (.fl (.str z)) => .ok (zipW ds (signsD z), r2)
    | _, _ => .bad
end

/-! ### statements -/
def forFold (bind : W → Env → Option Env) (body : Env → Out) : List W → Env → Out
  | [], r => .nx r
  | w :: ws, r => match bind w r with
    | none => .bad
    | some r1 => match body r1 with
      | .nx r2 => forFold bind body ws r2
      | .ct r2 => forFold bind body ws r2
      | .bk r2 => .nx r2
      | y => y
def whlFold (test : Env → Res (Bool × Env)) (body : Env → Out) : Nat → Env → Out
  | 0, _ => .bad
  | n + 1, r => (test r).out fun (k, r1) => if k then (match body r1 with
      | .nx r2 => whlFold test body n r2
      | .ct r2 => whlFold test body n r2
      | .bk r2 => .nx r2
      | y => y) else .nx r1
/-- an owned list is changed at a place -/
def onL (r : Env) (q : Nat × List Nat) (f : List W → Option (List W)) : Option Env := match eget r q with
  | some (.nd .lst cs) => match r[q.1]? with
    | some (some x) => match x.get q.2, f cs with
      | some (.nd .lst _), some cs' => if small cs'.length && (x.sub q.2).isSome then some (W.setAt r q.1 q.2 (.nd .lst cs')) else none
      | _, _ => none
    | _ => none
  | _ => none
/-- an owned list stands there -/
def isL (r : Env) (q : Nat × List Nat) : Bool := match eget r q with
  | some (.nd .lst _) => true
  | _ => false
/-- d[k] = w -/
def putZ {α : Type} [DecidableEq α] (ks : List α) (ws : List W) (k : α) (w : W) : List α × List W := match atZ ks k with
  | some j => (ks, ws.set j w)
  | none => (ks ++ [k], ws ++ [w])
def onD (r : Env) (q : Nat × List Nat) (k w : W) : Option Env := match eget r q with
  | some (.nd (.dK ks) cs) => match k.dat.key with
    | some x => if small cs.length && decide (ks.length = cs.length) && decide ks.Nodup && ((r[q.1]?.getD none).bind fun x => x.sub q.2).isSome then some (W.setAt r q.1 q.2 (.nd (.dK (putZ ks cs x w).1) (putZ ks cs x w).2)) else none
    | none => none
  | some (.nd (.dT ks) cs) => match k.dat.keyT with
    | some x => if small cs.length && decide (ks.length = cs.length) && decide ks.Nodup && ((r[q.1]?.getD none).bind fun x => x.sub q.2).isSome then some (W.setAt r q.1 q.2 (.nd (.dT (putZ ks cs x w).1) (putZ ks cs x w).2)) else none
    | none => none
  | _ => none
/-- o.f = w -/
def onF (r : Env) (q : Nat × List Nat) (ci : Nat) (f : Str) (w : W) : Option Env := match eget r q with
  | some (.nd (.ins c fs) cs) => if decide (c = ci) && decide (fs.length = cs.length) && decide (fs.length < 1000) && decide fs.Nodup && ((r[q.1]?.getD none).bind fun x => x.sub q.2).isSome then some (W.setAt r q.1 q.2 (.nd (.ins c (putZ fs cs f w).1) (putZ fs cs f w).2)) else none
  | _ => none
/-- where insert puts it -/
def insAt (n : Nat) (i : Int) : Nat := if 0 ≤ i then min i.toNat n else (n + i).toNat
def fuel : Nat := 100000
/-- slots held still for a while: known for good within, their own again behind -/
def frzE (r : Env) : List Nat → Env
  | [] => r
  | i :: is => match r[i]? with
    | some (some w) => frzE (r.set i (some (.fl w.dat))) is
    | _ => frzE r is
def thawE (r0 r : Env) : List Nat → Env
  | [] => r
  | i :: is => (thawE r0 r is).set i (r0[i]?.getD none)
mutual
def S.sem : S → Env → Out
  | .asg i e, r => (e.sem Γ r).out fun (w, r1) => if i < r1.length then .nx (r1.set i (some w)) else .bad
  | .asgC i e, r => (e.sem Γ r).out fun (w, r1) => if i < r1.length then .nx (r1.set i (some w)) else .bad
  | .unp g e, r => (e.sem Γ r).out fun (w, r1) => match g.bind w r1 with
    | some r2 => .nx r2
    | none => .bad
  | .aug i _ e, r => match r[i]? with
    | some (some (.fl (.int a))) => (e.sem Γ r).out fun (w, r1) => match w with
      | .fl (.int b) => if i < r1.length then .nx (r1.set i (some (.fl (.int (a + b))))) else .bad
      | _ => .bad
    | _ => .bad
  | .seti p i e, r => (e.sem Γ r).out fun (w, r1) => (p.sem Γ r1).out fun (q, r2) => (i.sem Γ r2).out fun (k, r3) => match (eget r3 q).bind fun x => stepIx x k with
    | some j => match onL r3 q fun cs => some (cs.set j w) with
      | some r4 => .nx r4
      | none => .bad
    | none => .bad
  | .setk p k e, r => (e.sem Γ r).out fun (w, r1) => (p.sem Γ r1).out fun (q, r2) => (k.sem Γ r2).out fun (x, r3) => match onD r3 q x w with
    | some r4 => .nx r4
    | none => .bad
  | .app p e, r => (p.sem Γ r).out fun (q, r1) => if isL r1 q then (e.sem Γ r1).out fun (w, r2) => match onL r2 q fun cs => some (cs ++ [w]) with
    | some r3 => .nx r3
    | none => .bad
    else .bad
  | .ins p i e, r => (p.sem Γ r).out fun (q, r1) => if isL r1 q then (i.sem Γ r1).out fun (k, r2) => (e.sem Γ r2).out fun (w, r3) => match k with
    | .fl (.int k) => if 0 ≤ k ∧ k < 2 ^ 63 then (match onL r3 q fun cs => some (cs.take k.toNat ++ w :: cs.drop k.toNat) with
      | some r4 => .nx r4
      | none => .bad) else .bad
    | _ => .bad
    else .bad
  | .ext p o, r => (p.sem Γ r).out fun (q, r1) => if isL r1 q then (o.sem Γ r1).out fun (v, r2) => match (v.val r2).bind W.lstD with
    | some ds => match onL r2 q fun cs => some (cs ++ ds.map .fl) with
      | some r3 => .nx r3
      | none => .bad
    | none => .bad
    else .bad
  | .pop0 p, r => (p.sem Γ r).out fun (q, r1) => match onL r1 q fun cs => if cs.isEmpty then none else some cs.dropLast with
    | some r2 => .nx r2
    | none => .bad
  | .slc p lo hi e, r => (e.sem Γ r).out fun (w, r1) => (p.sem Γ r1).out fun (q, r2) => (lo.sem Γ r2).out fun (a, r3) => (hi.sem Γ r3).out fun (b, r4) => match w, a, b with
    | .nd .lst ws, .fl (.int i), .fl (.int j) => if 0 ≤ i ∧ i ≤ j then (match onL r4 q fun cs => if j ≤ (cs.length : Int) ∧ small (cs.length + ws.length) = true then some (cs.take i.toNat ++ ws ++ cs.drop j.toNat) else none with
      | some r5 => .nx r5
      | none => .bad) else .bad
    | _, _, _ => .bad
  | .setf p ci f e, r => (e.sem Γ r).out fun (w, r1) => (p.sem Γ r1).out fun (q, r2) => match onF r2 q ci f w with
    | some r3 => .nx r3
    | none => .bad
  | .wlk q s, r => match lockW r q with
    | some r1 => match s.sem r1 with
      | .nx r2 => .nx (unlockW r r2 q)
      | .rt w r2 => .rt w (unlockW r r2 q)
      | .bk r2 => .bk (unlockW r r2 q)
      | .ct r2 => .ct (unlockW r r2 q)
      | _ => .bad
    | none => .bad
  | .popi p i, r => (p.sem Γ r).out fun (q, r1) => if isL r1 q then (i.sem Γ r1).out fun (k, r2) => match (eget r2 q).bind fun x => stepIx x k with
    | some j => match onL r2 q fun cs => some (cs.eraseIdx j) with
      | some r3 => .nx r3
      | none => .bad
    | none => .bad
    else .bad
  | .ex e, r => (e.sem Γ r).out fun (_, r1) => .nx r1
  | .iff c a b, r => ((c.sem Γ r).bind bool?).out fun (k, r1) => if k then S.sems a r1 else S.sems b r1
  | .forr g it b, r => (it.sem Γ r).out fun (ws, r1) => forFold g.bind (fun r => S.sems b r) ws r1
  | .whl c b, r => whlFold (fun r => (c.sem Γ r).bind bool?) (fun r => S.sems b r) fuel r
  | .ret e, r => (e.sem Γ r).out fun (w, r1) => .rt w r1
  | .retN, r => .rt (.fl .non) r
  | .pass, r => .nx r
  | .nev, _ => .bad
  | .brk, r => .bk r
  | .cnt, r => .ct r
  | .rais c _, r => .ex c .non r
  | .hold is ms b, r => match S.sems b (frzE r is) with
    | .nx r2 => .nx (thawE r (wipeE r2 ms) is)
    | .rt (.fl d) r2 => if d.flat then .rt (.fl d) (thawE r (wipeE r2 ms) is) else .bad
    | _ => .bad
def S.sems : List S → Env → Out
  | [], r => .nx r
  | s :: ss, r => (s.sem r).andThen fun r1 => S.sems ss r1
end
end
/-- a def's run: its names, the in-outs' places among the parameters -/
def ioBack (io : List Nat) (r : Env) : Option (List W) := io.mapM fun i => match r[i]? with
  | some (some w) => if w.isFl then none else some w
  | _ => none
def runF (Γ : Den) (n : Nat) (io : List Nat) (b : List S) (ws : List W) : Rf := match S.sems Γ b (ws.map some ++ List.replicate (n - ws.length) none) with
  | .rt w r => match ioBack io r with
    | some us => .ok w us
    | none => .bad
  | .nx r => match ioBack io r with
    | some us => .ok (.fl .non) us
    | none => .bad
  | .ex c p r => match ioBack io r with
    | some us => .ex c p us
    | none => .bad
  | _ => .bad
end Vx
end

section
set_option maxHeartbeats 4000000
/-! sorted by a def of the program: the calls run under the layer's invariant. -/
namespace Vx
open PySem L2 PyProof.Rows PySem.W
/-- what the keys come to, item by item -/
def rKeys (sp : Sp) : List V → Hp → (List Int → Hp → Prop) → Prop
  | [], H, Q => Q [] H
  | x :: r, H, Q => sp [x] H (fun v H' => ∃ n, v = .int n ∧ rKeys sp r H' fun ns => Q (n :: ns)) (fun _ _ _ => False)
def rSortF (K : PySem.W.Frag) (g : Addr) (sp : Sp) : List V → List V → Hp → VK → Prop := fun vs zs H Q => ∃ (a : Addr) (xs : List V), vs = [.ref a] ∧ zs = [.ref g] ∧ SqL K H a xs ∧
  rKeys sp xs H fun ns H' => ∀ p, H' p = none → Q (.ref p) (upd H' p (.lst (sortBy ns xs)))
theorem ints_snoc {n : Int} {t : Tok} {vs : List Value} {ns : List Int} (h : IntsAre vs ns) : IntsAre (vs ++ [.int n t]) (ns ++ [n]) := ksk_snoc h
theorem ints_reads {h : Heap} : ∀ {vs : List Value} {ns : List Int}, IntsAre vs ns → EachIs (fun v k => ∃ as, Reads h v k as) vs (ns.map PyData.int)
  | _, _, .nil => .nil
  | _, _, .cons n t r => .cons ⟨[], .int n t⟩ (ints_reads r)
theorem ints_len : ∀ {vs : List Value} {ns : List Int}, IntsAre vs ns → vs.length = ns.length
  | _, _, .nil => rfl
  | _, _, .cons n t r => by simp [ints_len r]
section
variable {X : Cx} {pins : List (Addr × Obj)} {σ : L2.St} {H : Hp} {k : Nat} {g a kS : Addr} {sp : Sp} {xs : List V} {A : Around} {E : Value → Shared → Prop} {P : PySem.Fin → Shared → Prop} {fin : List Int → Hp → Prop} {e1 : Nat}
/-- an untracked object of ours becomes a tracked one, another may have turned -/
theorem promote {h' : Heap} {t' : Nat} {ob : HO} {s : Shared} (I : L2.Inv X pins σ H s) (ra : FbM.Rec X pins a) (rk : FbM.Rec X pins kS) (ha : H a = none) (hk : H kS = none) (kp : ∀ b o, b ≠ a → b ≠ kS → s.heap.get? b = some o → h'.get? b = some o)
    (new : ObjOk X.prog X.w (upd H a ob) h' a ob) : L2.Inv X pins σ (upd H a ob) { s with heap := h', toks := t' } := by
  have nch : ∀ b u, H b = some u → b ≠ a ∧ b ≠ kS := fun b u e => ⟨fun z => (by rw [z, ha] at e; cases e), fun z => (by rw [z, hk] at e; cases e)⟩
  have two : ∀ b, b ∉ [a, kS] → b ≠ a ∧ b ≠ kS := fun b hb => ⟨fun z => hb (by rw [z]; exact List.mem_cons_self), fun z => hb (by rw [z]; exact List.mem_cons_of_mem _ List.mem_cons_self)⟩
  refine I.step (g' := s.gens) (d' := s.drawn) (ch := [a, kS]) (fun b hb => ?_) (fun b o _ _ hc e _ => kp b o (two b hc).1 (two b hc).2 e) (fun b o _ _ hc e _ => ⟨o.slots, kp b o (two b hc).1 (two b hc).2 e⟩)
    (fun b o hc e n => by rw [upd_ne (two b hc).1]; exact n) (fun b o hc e => ⟨o, kp b o (two b hc).1 (two b hc).2 e⟩) (fun b ys e => by rw [upd_ne (nch b _ e).1]; exact e) (fun b o u e => by rw [upd_ne (nch b _ e).1]; exact e)
    (fun b ps e => ⟨#[], by rw [upd_ne (nch b _ e).1, e]; simp⟩) (fun m hm => ?_) (fun b u e => ?_) I.bare
  · rcases List.mem_cons.mp hb with z | z
    · rw [z]
      exact ⟨.inr ra.ge, ra.nl, ra.ce, ra.pn⟩
    · rw [List.mem_singleton.mp z]
      exact ⟨.inr rk.ge, rk.nl, rk.ce, rk.pn⟩
  · obtain ⟨o, es, ep, ho, r⟩ := hm
    exact ⟨o, es, ep, kp _ o (fun z => ra.nl z.symm) (fun z => rk.nl z.symm) ho, r⟩
  · by_cases hb : b = a
    · subst hb
      rw [upd_same] at e
      cases e
      exact new
    · rw [upd_ne hb] at e
      refine (I.hok b u e).stay (fun c v hc q => ?_) (fun c q => by rw [upd_ne (nch c _ q).1]; exact q) fun c ys q => by rw [upd_ne (nch c _ q).1]; exact q
      rcases hc with z | z
      · rw [z] at q ⊢
        exact kp b v (nch b u e).1 (nch b u e).2 q
      · exact kp c v (nch c _ z).1 (nch c _ z).2 q
theorem keyI_rest {b : Bool} {its : List Value} (hh : A.handled = none) (hr : Room k A) (hA : A.frames = some X.stack) (Fn : FnR X.prog X.w X.K X.mg X.base (L2.CX X.prog X.w) k g sp) (ra : FbM.Rec X pins a) (rk : FbM.Rec X pins kS) (hka : kS ≠ a)
    (hz : xs.length ≤ sizeLine) (rv : Vals xs its) {s : Shared} (I : L2.Inv X pins σ H s) (ha : H a = none) (hk : H kS = none) (nk : s.heap.get? kS = some (seqObj "list" #[] 0)) (na : s.heap.get? a = some (seqObj "list" #[] e1)) (hb : b = false)
    (D : rKeys sp xs H fin)
    (h : ∀ ns H' s', fin ns H' → H' a = none → ns.length = xs.length → L2.Inv X pins σ (upd H' a (.lst (sortBy ns xs))) s' → P (.done (.ret .none)) s') :
    wpAny (model X.prog X.w) A (ksk_rest a (.ref g) b its.toArray e1 (.ref kS)) P E s := by
  subst hb
  have hl : its.length = xs.length := rv.length.symm
  unfold ksk_rest
  refine wpAny_bind (wpAny_rule ?_)
  rw [List.forIn_toArray]
  refine wpAny_bind (ksk_fold (fun i s' => ∃ H' kA e ns, L2.Inv X pins σ H' s' ∧ H' a = none ∧ H' kS = none ∧ s'.heap.get? kS = some (seqObj "list" kA e) ∧ s'.heap.get? a = some (seqObj "list" #[] e1) ∧ IntsAre kA.toList ns ∧ ns.length = i ∧
    rKeys sp (xs.drop i) H' fun ns2 => fin (ns ++ ns2)) its 0 s ⟨H, #[], 0, [], I, ha, hk, nk, na, .nil, rfl, D⟩ ?step ?done)
  case step =>
    rintro j u s' hu ⟨H', kA, e, ns, I', ha', hk', nk', na', hi, hn, D'⟩
    simp only [Nat.zero_add] at hn D' ⊢
    have hj : j < xs.length := by
      have := (List.getElem?_eq_some_iff.mp hu).1
      omega
    have hx : xs[j]? = some xs[j] := List.getElem?_eq_getElem hj
    obtain ⟨u2, hu2, rx⟩ := rv.get hx
    have eu : u2 = u := Option.some.inj (hu2.symm.trans hu)
    subst eu
    have hd : xs.drop j = xs[j] :: xs.drop (j + 1) := List.drop_eq_getElem_cons hj
    rw [hd] at D'
    have e0 := I'.env0
    have e2 : Env0 X.prog X.w X.K X.mg X.base A X.stack s' H' := ⟨hA, e0.mod, e0.bs, e0.bsz, e0.funs, e0.frf, e0.hok, e0.bare⟩
    have hsz : kA.size = j := by
      have := ints_len hi
      rw [Array.length_toList] at this
      omega
    refine wpAny_bind (wpAny_attempt (wpAny_call (codeAny_mono (Fn A X.stack s' H' [u2] [xs[j]] _ _ hr e2 (.cons rx .nil) D') fun rr s2 hrr => ?_)))
    cases rr with
    | error e =>
      obtain ⟨_, _, _, _, _, _, _, _, _, _, _, _, z⟩ := (show L2.CX X.prog X.w X.stack H' s' _ e s2 from hrr)
      exact z.elim
    | ok fl =>
      cases fl with
      | next => exact False.elim hrr
      | brk => exact False.elim hrr
      | cont => exact False.elim hrr
      | ret v =>
        obtain ⟨v', H2, os, bare, un, hok, rv', n, ev, D2⟩ := (show CE X.stack X.prog X.w H' s' _ v s2 from hrr)
        subst ev
        obtain ⟨t, rfl⟩ := rv'
        have I2 : L2.Inv X pins σ H2 s2 := I'.call' os un hok bare (fun b y => absurd y List.not_mem_nil)
        have nk2 : s2.heap.get? kS = some (seqObj "list" kA e) := un.keep _ _ nk' hk' rk.fr List.not_mem_nil
        have na2 : s2.heap.get? a = some (seqObj "list" #[] e1) := un.keep _ _ na' ha' ra.fr List.not_mem_nil
        have hk2 : H2 kS = none := un.free _ _ nk' hk' List.not_mem_nil
        have ha2 : H2 a = none := un.free _ _ na' ha' List.not_mem_nil
        have sb := Heap.SameBut.update s2.heap kS (Obj.mapSeq (·.push (Value.int n t)))
        obtain ⟨c2, hc2⟩ : ∃ c2, (s2.heap.update kS (Obj.mapSeq (·.push (Value.int n t)))).get? kS = some (seqObj "list" (kA.push (Value.int n t)) c2) := ⟨_, get?_update_seq nk2 (·.push (Value.int n t))⟩
        have ea : (kA.push (Value.int n t)).toList = kA.toList ++ [Value.int n t] := by simp
        refine wpAny_bind (listUpdate_at nk2 rfl ?_ (by omega) (by rw [Array.size_push]; omega))
        refine wpAny_pure ⟨rfl, H2, kA.push (Value.int n t), c2, ns ++ [n], rk.turn (t' := s2.toks) I2 hk2 fun c o hc e => sb.extBut c o hc e, ha2, hk2, hc2, (sb.2 a hka.symm).trans na2, by rw [ea]; exact ints_snoc hi, by simp [hn], ?_⟩
        have ef : (fun ns2 => fin (ns ++ [n] ++ ns2)) = fun ns2 => fin (ns ++ n :: ns2) := by
          funext ns2
          rw [List.append_assoc]
          rfl
        rw [ef]
        exact D2
  case done =>
    rintro s' ⟨H', kA, e, ns, I', ha', hk', nk', na', hi, hn, D'⟩
    rw [Nat.zero_add, hl] at hn
    have hd : xs.drop (0 + its.length) = [] := List.drop_eq_nil_of_le (by omega)
    rw [hd] at D'
    have D' : fin (ns ++ []) H' := D'
    rw [List.append_nil] at D'
    have hsz : kA.size = its.length := by
      have := ints_len hi
      rw [Array.length_toList] at this
      omega
    try dsimp only
    refine wpAny_bind (listItems_at nk' rfl ?_)
    obtain ⟨G, g1, g2⟩ := L2.restrict s'.heap fun b => b != kS
    have hal : AllAlike (ns.map PyData.int) := fun d hd d' hd' => by
      obtain ⟨i, _, rfl⟩ := List.mem_map.mp hd
      obtain ⟨i', _, rfl⟩ := List.mem_map.mp hd'
      rfl
    have hsk : Sortable (ns.map PyData.int) := .inr fun d hd => by
      obtain ⟨i, _, rfl⟩ := List.mem_map.mp hd
      exact ⟨fun z => (by cases z), fun ys z => (by cases z)⟩
    have hu : ∀ d, d ∈ ns.map PyData.int → A.units + d.depth < cLine := fun d hd => by
      obtain ⟨i, _, rfl⟩ := List.mem_map.mp hd
      have := hr.un
      show A.units + 0 < _
      omega
    have hR : EachIs (fun v k => ∃ as, Reads s'.heap v k as) kA.toList (ns.map PyData.int) := ints_reads hi
    refine keyH_end (κ := dataKind s'.heap (ns.map PyData.int)) (h₁ := G) (fun b o hb q => ?_) (g2 kS (by simp)) nk' na' hka (SortsAt.data (s := s') hR hal hsk hu) hsz (by omega) fun h' tk c kp' n3 => ?_
    · by_cases z : b = kS
      · rw [z, g2 kS (by simp)] at q
        cases q
      · rw [g1 b (by simpa using z)] at q
        exact q
    have hko : KeyedOut false ((ns.zip xs).map fun p => PyData.int p.1) its (sortVals (dataKind s'.heap (ns.map PyData.int)) false kA.toList its) := by
      have em : (ns.zip xs).map (fun p => PyData.int p.1) = ns.map PyData.int := by
        have e1 : (ns.zip xs).map (fun p => PyData.int p.1) = ((ns.zip xs).map Prod.fst).map PyData.int := by rw [List.map_map]; rfl
        rw [e1, List.map_fst_zip (by omega)]
      rw [em]
      exact ⟨s'.heap, kA.toList, hal, rfl, hR⟩
    have hev : EachIs (fun (u : Value) (p : Int × V) => RelV p.2 u) its (ns.zip xs) := by
      refine EachIs.of_zip (by rw [List.length_zip, hn, Nat.min_self, hl]) fun p hp => ?_
      obtain ⟨i, hi2, ei⟩ := List.mem_iff_getElem.mp hp
      have h1 : i < its.length := by simp at hi2; omega
      have h2 : i < xs.length := by omega
      rw [← ei]
      simp only [List.getElem_zip]
      obtain ⟨u, q1, q2⟩ := rv.get (List.getElem?_eq_getElem h2)
      rw [List.getElem?_eq_getElem h1] at q1
      cases q1
      exact q2
    have eo := keyedOut_each (fun p : Int × V => PyData.int p.1) hko hev
    have el : dataLe false (fun p : Int × V => PyData.int p.1) = fun p q => decide (p.1 ≤ q.1) := dataLe_int (β := Int × V) fun p => p.1
    rw [el] at eo
    have ov : Vals (sortBy ns xs) (sortVals (dataKind s'.heap (ns.map PyData.int)) false kA.toList its) := by
      unfold sortBy
      revert eo
      generalize (ns.zip xs).mergeSort (fun p q => decide (p.1 ≤ q.1)) = l1
      generalize sortVals (dataKind s'.heap (ns.map PyData.int)) false kA.toList its = l2
      intro eo
      clear n3 hko
      induction eo with
      | nil => exact .nil
      | cons hab _ ih => exact .cons hab ih
    have hlen : (sortBy ns xs).length ≤ sizeLine := by
      unfold sortBy
      rw [List.length_map, List.length_mergeSort, List.length_zip, hn, Nat.min_self]
      exact hz
    refine h ns H' _ D' ha' hn (promote (t' := tk) I' ra rk ha' hk' (fun b o h1 h2 q => kp' b o h1 (by rw [g1 b (by simpa using h2)]; exact q)) ?_)
    exact ⟨hlen, _, c, ov, n3⟩
/-- sorted(xs, key=f) -/
theorem cr_sortF (hr : Room (k + 2) X.A) (hc : X.calm = true) (Fn : FnR X.prog X.w X.K X.mg X.base (L2.CX X.prog X.w) k g sp) : CallRK X (.builtin "sorted") [Str.ofString "key"] (rSortF X.K g sp) := by
  intro pins s σ H vs zs us ws Q I r rz h
  obtain ⟨l, xs, rfl, rfl, hq, D⟩ := h
  obtain rfl := Vals.ref1 r
  obtain ⟨w1, rfl, e1⟩ := vals1 rz
  obtain rfl : w1 = Value.ref g := e1
  obtain ⟨its, rv, hl, hz⟩ := I.list hq
  have hzl : its.length ≤ sizeLine := by rw [← rv.length]; exact hz
  refine sorted_of_sort hl.isList hzl (ksk_s1 _ _) (fun _ => ksk_l1 _ _) fun E' => ?_
  show wpAny _ _ (Builtin.«list.sort» ⟨[.ref (s.heap.objs.size + 1)], [(Str.ofString "key", .ref g)]⟩) _ _ _
  rw [ksk_t1]
  have ho := copyHeap_at s.heap its
  obtain ⟨e1, ho1⟩ : ∃ e1, ((copyHeap s.heap its).update (s.heap.objs.size + 1) (Obj.mapSeq fun _ => (#[] : Array Value))).get? (s.heap.objs.size + 1) = some (seqObj "list" #[] e1) := ⟨_, get?_update_seq ho fun _ => #[]⟩
  have hcs : (copyHeap s.heap its).objs.size = s.heap.objs.size + 2 := by
    unfold copyHeap
    rw [size_push', Heap.size_update, size_push']
  have hkS : (((copyHeap s.heap its).update (s.heap.objs.size + 1) (Obj.mapSeq fun _ => (#[] : Array Value))).push (seqObj "tuple" its.toArray 0)).objs.size = s.heap.objs.size + 3 := by rw [size_push', Heap.size_update, hcs]
  unfold ksk_tree
  refine wpAny_bind (listItems_at ho rfl ?_)
  refine wpAny_bind (listUpdate_at ho rfl ?_ (by rw [List.size_toArray]; exact hzl) (Nat.zero_le _))
  refine wpAny_bind (seqEpoch_at ho1 rfl ?_)
  refine wpAny_bind (wpAny_newTuple ?_ (by show its.length ≤ _; exact hzl))
  refine wpAny_bind (wpAny_newList ?_ (Nat.zero_le _))
  refine wpAny_holding ?_
  have hhd : X.A.in1.in1.handled = none := I.ok.hd hc
  have hA : X.A.in1.in1.frames = some X.stack := I.ok.frames
  have hr2 : Room k X.A.in1.in1 := (show Room (k + 1) X.A.in1 from Room.in1 hr).in1
  have kp : ∀ b o, s.heap.get? b = some o → (sortingHeap (copyHeap s.heap its) (s.heap.objs.size + 1) its).get? b = some o := fun b o q => sorting_copy_old q
  have I1 : L2.Inv X pins σ H { s with heap := sortingHeap (copyHeap s.heap its) (s.heap.objs.size + 1) its } := I.kept (t' := s.toks) kp
  have hkf : ∀ c, s.heap.objs.size ≤ c → H c = none := fun c hc => I.hok.fresh hc
  have hge : s.heap.objs.size ≤ (((copyHeap s.heap its).update (s.heap.objs.size + 1) (Obj.mapSeq fun _ => (#[] : Array Value))).push (seqObj "tuple" its.toArray 0)).objs.size := by omega
  have hne : (((copyHeap s.heap its).update (s.heap.objs.size + 1) (Obj.mapSeq fun _ => (#[] : Array Value))).push (seqObj "tuple" its.toArray 0)).objs.size ≠ s.heap.objs.size + 1 := by omega
  refine keyI_rest (fin := fun ns H' => ∀ p, H' p = none → Q (.ref p) (upd H' p (.lst (sortBy ns xs)))) (a := s.heap.objs.size + 1) (kS := (((copyHeap s.heap its).update (s.heap.objs.size + 1) (Obj.mapSeq fun _ => (#[] : Array Value))).push (seqObj "tuple" its.toArray 0)).objs.size) hhd hr2 hA Fn (FbM.rec_new I (by omega)) (FbM.rec_new I hge) hne hz rv I1 (hkf _ (by omega)) (hkf _ hge) ?_ ?_ rfl D
    fun ns H' s' hf ha' _ I' => ⟨rfl, .ref (s.heap.objs.size + 1), _, I', rfl, hf _ ha'⟩
  · exact Heap.get?_push_size _ rfl
  · exact Heap.get?_push_of_some _ (Heap.get?_push_of_some _ ho1)
end
end Vx
end

section
set_option maxHeartbeats 4000000
/-! zip of a tuple and a text, walked. -/
namespace Vx
open PySem L2 PyProof.Rows
/-- the tuple at a as it stands at each turn, the text's signs beside it, in new pairs -/
def ItzS (K : PySem.W.Frag) (a : Addr) (z : Str) : L2.It :=
  ⟨fun i H => ∃ (xs : List V) (x : V) (c : Nat), SqT K H a xs ∧ xs[i]? = some x ∧ z.cps[i]? = some c,
    fun i H v H' => ∃ T x c, v = .ref T ∧ H T = none ∧ H' = upd H T (.tup [x, .str ⟨#[c]⟩]) ∧ (∀ xs, SqT K H a xs → xs[i]? = some x) ∧ z.cps[i]? = some c,
    fun i H => ∃ xs : List V, SqT K H a xs ∧ i ≤ xs.length ∧ i ≤ z.cps.size ∧ (xs.length ≤ i ∨ z.cps.size ≤ i)⟩
structure Apart (z TI TO i1 i2 a : Addr) : Prop where
  sep : ZipSep2 z TI TO i1 i2 [i1, a] [i2]
  ai : a ≠ i1
section
variable {P : Program} {w : World} {K : PySem.W.Frag} {elts : List Expr} {kk : Nat} {tpos : Pos} {a z TI TO i1 i2 : Addr} {y : Str} {t : Tok}
def zsSt (y : Str) (t : Tok) (a z TI TO i1 i2 : Addr) (i : Nat) (h : Heap) : Prop := IsZip h z TI TO .none ∧ IsTupOf2 h TI (.ref i1) (.ref i2) ∧ (∃ u v, IsTupOf2 h TO u v) ∧ h.IsTupleIter i1 a i ∧ h.IsStrIter i2 (strIterType y) y t i
theorem five {c z TI TO i1 i2 : Addr} (h : c ∈ [z, TI, TO, i1, i2]) : c = z ∨ c = TI ∨ c = TO ∨ c = i1 ∨ c = i2 := by simpa using h
theorem turn_zipS (D : Apart z TI TO i1 i2 a) : Turn P w K (.Tuple elts kk tpos) (ItzS K a y) [z, TI, TO, i1, i2] z (zsSt y t a z TI TO i1 i2) where
  mem := by simp
  obj := fun i h st c hc => by
    obtain ⟨hz, hTI, ⟨x, x', hTO⟩, ⟨o1, q1, _, d1⟩, ⟨o2, q2, _, d2⟩⟩ := st
    rcases five hc with q | q | q | q | q <;> rw [q]
    · exact ⟨_, hz, fun v q => nomatch q⟩
    · exact ⟨_, hTI, fun v q => nomatch q⟩
    · exact ⟨_, hTO, fun v q => nomatch q⟩
    · exact ⟨o1, q1, fun v q => by rw [d1] at q; cases q⟩
    · exact ⟨o2, q2, fun v q => by rw [d2] at q; cases q⟩
  keep := fun i h h' st k => by
    obtain ⟨hz, hTI, ⟨x, x', hTO⟩, h1, ⟨o2, q2, r2⟩⟩ := st
    exact ⟨k z (by simp) _ hz, k TI (by simp) _ hTI, ⟨x, x', k TO (by simp) _ hTO⟩, h1.at fun o q => k i1 (by simp) o q, o2, k i2 (by simp) o2 q2, r2⟩
  item := by
    intro X hP hw hK hc i pins s σ H E I hf st hg
    subst hP hw hK
    obtain ⟨hz, hTI, ⟨x0, y0, hTO⟩, h1, h2⟩ := st
    obtain ⟨xs, x, c, hqx, hx, hy⟩ := hg
    obtain ⟨its, rv, p, _⟩ := I.tuple hqx
    obtain ⟨u, hu, ru⟩ := rv.get hx
    have hzl : z < s.heap.objs.size := Heap.lt_size hz
    have hh : X.A.in1.handled = none := I.ok.hd hc
    have hi1 : i < its.toArray.size := by
      rw [List.size_toArray]
      exact (List.getElem?_eq_some_iff.mp hu).1
    have hi2 : i < y.cps.size := (Array.getElem?_eq_some_iff.mp hy).1
    refine wpAny_pyNext_zipD2_item D.sep (Draws.tuple hh i1 a D.ai its.toArray) (Draws.text hh i2 y t) hz hTI hTO ⟨h1, p⟩ h2 hi1 hi2 fun x1 x2 h' tk p1 p2 z' TO' h1' h2' hT hsz hk => ?_
    have e1 : x1 = u := by
      have q : its.toArray[i]? = some x1 := p1
      have q2 : its[i]? = some x1 := by simpa using q
      rw [hu] at q2
      exact (Option.some.inj q2).symm
    subst e1
    obtain ⟨c', t', hc', e2⟩ := p2
    have ec : c' = c := Option.some.inj (hc'.symm.trans hy)
    subst ec
    subst e2
    refine ⟨_, rfl, wpAny_letOwnedTupleGo_zip (s := { s with heap := h', toks := tk }) z' fun h'' z'' sb => ?_⟩
    have hT2 : h''.get? s.heap.objs.size = some { cls := .type "tuple", data := .seq #[x1, .str ⟨#[c']⟩ t'] } := (sb.2 _ (Nat.ne_of_gt hzl)).trans hT
    have new : ObjOk X.prog X.w (upd H s.heap.objs.size (.tup [x, .str ⟨#[c']⟩])) h'' s.heap.objs.size (.tup [x, .str ⟨#[c']⟩]) :=
      ⟨by show 2 ≤ sizeLine; decide, [x1, .str ⟨#[c']⟩ t'], .cons ru (.cons ⟨t', rfl⟩ .nil), ⟨_, hT2, rfl, _, rfl⟩⟩
    have I1 : L2.Inv X pins σ (upd H s.heap.objs.size (.tup [x, .str ⟨#[c']⟩])) { s with heap := h'', toks := tk } :=
      I.turnedNew (t' := tk) (ch := [z, TI, TO, i1, i2]) (fun d o hb q => (sb.2 d (fun q' => hb (by simp [q']))).trans (hk d o (fun q' => hb (by simp [q'])) (fun q' => hb (by simp [q'])) (fun q' => hb (by simp [q'])) (fun q' => hb (by simp [q'])) q)) hf (Nat.le_refl _) new
    refine ⟨.ref s.heap.objs.size, _, I1, rfl, ⟨_, x, c', rfl, I.hok.fresh (Nat.le_refl _), rfl, fun l hl => by rw [I.tuple_inj hl hqx]; exact hx, hy⟩, ⟨z'', ?_, ⟨x1, .str ⟨#[c']⟩ t', ?_⟩, ?_, ?_⟩, fun d hcm => ?_⟩
    · exact (sb.2 _ D.sep.TIz).trans (hk _ _ D.sep.TIz D.sep.TITO D.sep.TIi1 D.sep.TIi2 hTI)
    · exact (sb.2 _ D.sep.TOz).trans TO'
    · exact h1'.1.at fun o q => (sb.2 _ D.sep.zi1.symm).trans q
    · obtain ⟨o2, q2, r2⟩ := h2'
      exact ⟨o2, (sb.2 _ D.sep.zi2.symm).trans q2, r2⟩
    · have hlt : d < s.heap.objs.size := by
        rcases five hcm with q | q | q | q | q <;> rw [q]
        · exact hzl
        · exact Heap.lt_size hTI
        · exact Heap.lt_size hTO
        · obtain ⟨_, e1, _⟩ := h1; exact Heap.lt_size e1
        · obtain ⟨_, e2, _⟩ := h2; exact Heap.lt_size e2
      rw [upd_ne (Nat.ne_of_lt hlt)]
      exact (hf d hcm).1
  done := by
    intro X hP hw hK hc i pins s σ H E I hf st hg
    subst hP hw hK
    obtain ⟨hz, hTI, ⟨x0, y0, hTO⟩, h1, h2⟩ := st
    obtain ⟨xs, hqx, le1, le2, hend⟩ := hg
    obtain ⟨its, rv, p, _⟩ := I.tuple hqx
    have l1 := rv.length
    have hh : X.A.in1.handled = none := I.ok.hd hc
    -- both iterators stand at the turn i: only an end at i counts
    have hsz : its.toArray.size = its.length := List.size_toArray
    exact wpAny_pyNext_zipD2_end D.sep (Draws.tuple hh i1 a D.ai its.toArray) (Draws.text hh i2 y t) hz hTI hTO ⟨h1, p⟩ h2 (by omega) le2 (by omega) fun h' tk hk => ⟨rfl, I.turnedL (t' := tk) (ch := [z, TI, TO, i1, i2]) (fun c o hb q =>
      hk c o (fun q' => hb (by simp [q'])) (fun q' => hb (by simp [q'])) (fun q' => hb (by simp [q'])) (fun q' => hb (by simp [q'])) q) hf⟩
  self := fun A i s Q E st h => wpAny_pyIter_zip st.1 h
end
section
def iZipS (K : PySem.W.Frag) (ta : TA) : TI := fun σ H R => ta σ H fun vs H1 => ∃ a y xs, vs = [.ref a, .str y] ∧ SqT K H1 a xs ∧ R (ItzS K a y) H1
theorem pi_zipS {X : Cx} {e e2 : Expr} {ta : TA} {p pos tpos : Pos} {elts : List Expr} {kk : Nat} (hg : Gl X "zip") (hm : X.mg "zip" = none) (ha : PA X [e, e2] ta)
    (hs : starEach [e, e2] X.env = (false, eval e X.env) :: starEach [e2] X.env) (hpl : (backTo pos (starEach [e2] X.env)).any (·.1) = false) :
    PI X (.Tuple elts kk tpos) (.Call (.Name "zip" p) [e, e2] [] pos) (iZipS X.K ta) := by
  refine ⟨fun pins s σ H R I h => Call_ (ld_blt I hg hm PyProof.Rows.boot_zip (PyProof.Rows.callWith_type1 (thn (ha.run pos pins s σ H _ I h) fun us s1 ⟨vs, H1, I1, r1, q1⟩ => ?_) hs hpl))⟩
  obtain ⟨a, y, xs, ex, hqx, q⟩ := q1
  subst ex
  obtain ⟨u1, u2, eu, w1, w2⟩ := vals2 r1
  subst eu
  obtain rfl : u1 = Value.ref a := w1
  obtain ⟨t, rfl⟩ := w2
  obtain ⟨its, rv, p1, _⟩ := I1.tuple hqx
  have hla : a < s1.heap.objs.size := by
    obtain ⟨o, ho, _⟩ := id p1
    exact Heap.lt_size ho
  refine zip_begins2 (begins_tuple a its.toArray) (begins_text y t) p1 trivial fun h' hz hTI hTO h1 h2 hsz hk => wpAny_pyIter_zip hz ?_
  have I2 : L2.Inv X pins σ H1 { s1 with heap := h' } := I1.kept (t' := s1.toks) hk
  have ne : ∀ {i j : Nat}, i ≠ j → s1.heap.objs.size + i ≠ s1.heap.objs.size + j := fun h z => h (Nat.add_left_cancel z)
  have D : Apart (s1.heap.objs.size + 4) (s1.heap.objs.size + 2) (s1.heap.objs.size + 3) s1.heap.objs.size (s1.heap.objs.size + 1) a := by
    refine ⟨⟨ne (by decide), ne (by decide), ne (by decide), ?_, by simp, ?_, ?_, ne (by decide), by simp, ?_, ?_, ?_, ?_⟩, Nat.ne_of_lt hla⟩
    · exact ne (i := 2) (j := 0) (by decide)
    all_goals
      simp only [List.mem_cons, List.not_mem_nil, or_false, not_or]
      have hla' : (a : Nat) < s1.heap.objs.size := hla
    · exact ⟨ne (i := 4) (j := 0) (by decide), fun z => absurd hla' (by rw [← z]; exact Nat.not_lt.mpr (Nat.le_add_right _ _))⟩
    · exact ⟨ne (i := 3) (j := 0) (by decide), fun z => absurd hla' (by rw [← z]; exact Nat.not_lt.mpr (Nat.le_add_right _ _))⟩
    · exact ne (by decide)
    · exact ne (by decide)
    · exact ne (i := 0) (j := 1) (by decide)
    · exact ⟨ne (i := 1) (j := 0) (by decide), fun z => absurd hla' (by rw [← z]; exact Nat.not_lt.mpr (Nat.le_add_right _ _))⟩
  refine ⟨s1.heap.objs.size + 4, [s1.heap.objs.size + 4, s1.heap.objs.size + 2, s1.heap.objs.size + 3, s1.heap.objs.size, s1.heap.objs.size + 1], _, _, H1, rfl, I2, turn_zipS (y := y) (t := t) D, ⟨hz, hTI, ⟨_, _, hTO⟩, ⟨_, h1, rfl, rfl⟩, ⟨_, h2, rfl, rfl⟩⟩, fun c hcm => ?_, q⟩
  have hle : s1.heap.objs.size ≤ c := by
    rcases five hcm with z | z | z | z | z <;> rw [z]
    · exact Nat.le_add_right _ _
    · exact Nat.le_add_right _ _
    · exact Nat.le_add_right _ _
    · exact Nat.le_refl _
    · exact Nat.le_add_right _ _
  exact I1.fpOk hle (I1.hok.fresh hle)
end
end Vx
end

section
set_option maxHeartbeats 1000000
/-! max(xs, default=d), min(xs, default=d) of a list of ints -/
namespace L2
open PySem PySem.Spec PyProof.Rows PySem.W
section
variable {prog : Program} {w : World} {A : Around} {E : Value → Shared → Prop} {s : Shared} {l : Addr} {its : List Value} {ns : List Int} {Q : Value → Shared → Prop} {d : Value}
theorem maxD_raw (hh : A.handled = none) (hl : s.heap.IsList l its.toArray) (hi : IntsAre its ns)
    (h0 : ns = [] → ∀ h' tk, (∀ b o, s.heap.get? b = some o → h'.get? b = some o) → Q d { s with heap := h', toks := tk })
    (h : ∀ h' tk M t', (∀ b o, s.heap.get? b = some o → h'.get? b = some o) → M ∈ ns → (∀ a, a ∈ ns → a ≤ M) → Q (.int M t') { s with heap := h', toks := tk }) : wpAny (model prog w) A (call (.builtin "max") [.ref l] [(Str.ofString "default", d)]) Q E s := by
  obtain ⟨xs, e⟩ := hi.allInts.items
  have hn : numsOf (intItems xs).toList = ns := by rw [← e]; exact hi.numsOf
  rw [nums_intItems] at hn
  subst hn
  rw [e] at hl
  refine call_max_walkD (iter_listW (A := A.in1) hh hl fun s₂ e W st hfp hw hk => ?_)
  refine ⟨_, _, _, _, _, _, _, s.heap, (fun i j => decide (numAt xs i > numAt xs j)), rfl, W, st, hfp, hw, hk, fun hz s' m => ?_, fun hp => ⟨fun i j vi vj s1 Q1 E1 _ a b c => CmpOf.ints_gt (numAt xs) (fun _ _ => intItems_at) i j vi vj s1 Q1 E1 a b c, fun v s' hP m => ?_⟩⟩
  · obtain ⟨h', tk, rfl, hk'⟩ := moved_old e rfl m
    refine h0 ?_ h' tk hk'
    have hz' : xs.size = 0 := by simpa [intItems] using hz
    have : xs = #[] := Array.eq_empty_of_size_eq_zero hz'
    rw [this]
    rfl
  · obtain ⟨h', tk, rfl, hk'⟩ := moved_old e rfl m
    have hsz : 0 < xs.size := by simpa [intItems] using hp
    have hP2 : (intItems xs)[argBest (fun i j => decide (numAt xs i > numAt xs j)) (xs.size - 1)]? = some v := by simpa [intItems] using hP
    obtain ⟨t, rfl⟩ := intItems_at hP2
    obtain ⟨h1, h2⟩ := argBest_gt (numAt xs) (xs.size - 1)
    refine h h' tk _ t hk' ?_ fun a ha => ?_
    · rw [numAt_eq]; exact PySem.getD_mem (by rw [List.length_map, Array.length_toList]; omega)
    · obtain ⟨j, hj, rfl⟩ := mem_getD ha
      rw [List.length_map, Array.length_toList] at hj
      rw [← numAt_eq]; exact h2 j (by omega)
theorem minD_raw (hh : A.handled = none) (hl : s.heap.IsList l its.toArray) (hi : IntsAre its ns)
    (h0 : ns = [] → ∀ h' tk, (∀ b o, s.heap.get? b = some o → h'.get? b = some o) → Q d { s with heap := h', toks := tk })
    (h : ∀ h' tk M t', (∀ b o, s.heap.get? b = some o → h'.get? b = some o) → M ∈ ns → (∀ a, a ∈ ns → M ≤ a) → Q (.int M t') { s with heap := h', toks := tk }) : wpAny (model prog w) A (call (.builtin "min") [.ref l] [(Str.ofString "default", d)]) Q E s := by
  obtain ⟨xs, e⟩ := hi.allInts.items
  have hn : numsOf (intItems xs).toList = ns := by rw [← e]; exact hi.numsOf
  rw [nums_intItems] at hn
  subst hn
  rw [e] at hl
  refine call_min_walkD (iter_listW (A := A.in1) hh hl fun s₂ e W st hfp hw hk => ?_)
  refine ⟨_, _, _, _, _, _, _, s.heap, (fun i j => decide (numAt xs i < numAt xs j)), rfl, W, st, hfp, hw, hk, fun hz s' m => ?_, fun hp => ⟨fun i j vi vj s1 Q1 E1 _ a b c => CmpOf.ints_lt (numAt xs) (fun _ _ => intItems_at) i j vi vj s1 Q1 E1 a b c, fun v s' hP m => ?_⟩⟩
  · obtain ⟨h', tk, rfl, hk'⟩ := moved_old e rfl m
    refine h0 ?_ h' tk hk'
    have hz' : xs.size = 0 := by simpa [intItems] using hz
    have : xs = #[] := Array.eq_empty_of_size_eq_zero hz'
    rw [this]
    rfl
  · obtain ⟨h', tk, rfl, hk'⟩ := moved_old e rfl m
    have hsz : 0 < xs.size := by simpa [intItems] using hp
    have hP2 : (intItems xs)[argBest (fun i j => decide (numAt xs i < numAt xs j)) (xs.size - 1)]? = some v := by simpa [intItems] using hP
    obtain ⟨t, rfl⟩ := intItems_at hP2
    obtain ⟨h1, h2⟩ := argBest_lt (numAt xs) (xs.size - 1)
    refine h h' tk _ t hk' ?_ fun a ha => ?_
    · rw [numAt_eq]; exact PySem.getD_mem (by rw [List.length_map, Array.length_toList]; omega)
    · obtain ⟨j, hj, rfl⟩ := mem_getD ha
      rw [List.length_map, Array.length_toList] at hj
      rw [← numAt_eq]; exact h2 j (by omega)
end
section
variable {X : Cx}
def rMaxD (K : PySem.W.Frag) : List V → List V → Hp → VK → Prop := fun vs zs H Q => ∃ (a : Addr) (ns : List Int) (d : Int), vs = [V.ref a] ∧ zs = [V.int d] ∧ SqL K H a (ns.map V.int) ∧ (ns = [] → Q (.int d) H) ∧ ∀ m, m ∈ ns → (∀ y, y ∈ ns → y ≤ m) → Q (.int m) H
def rMinD (K : PySem.W.Frag) : List V → List V → Hp → VK → Prop := fun vs zs H Q => ∃ (a : Addr) (ns : List Int) (d : Int), vs = [V.ref a] ∧ zs = [V.int d] ∧ SqL K H a (ns.map V.int) ∧ (ns = [] → Q (.int d) H) ∧ ∀ m, m ∈ ns → (∀ y, y ∈ ns → m ≤ y) → Q (.int m) H
theorem cr_maxD (hc : X.calm = true) : CallRK X (.builtin "max") [Str.ofString "default"] (rMaxD X.K) := by
  intro pins s σ H vs zs us ws Q I r rz h
  obtain ⟨a, ns, d, rfl, rfl, hs, q0, q⟩ := h
  obtain ⟨its, rv, hl, _⟩ := I.list hs
  obtain rfl := Vals.ref1 r
  obtain ⟨w1, rfl, e1⟩ := vals1 rz
  exact maxD_raw (I.ok.hd hc) hl.isList rv.ints (fun hz h' tk hk => ⟨.int d, H, I.kept hk, e1, q0 hz⟩) fun h' tk m t' hk h1 h2 => ⟨.int _, H, I.kept hk, ⟨_, rfl⟩, q m h1 h2⟩
theorem cr_minD (hc : X.calm = true) : CallRK X (.builtin "min") [Str.ofString "default"] (rMinD X.K) := by
  intro pins s σ H vs zs us ws Q I r rz h
  obtain ⟨a, ns, d, rfl, rfl, hs, q0, q⟩ := h
  obtain ⟨its, rv, hl, _⟩ := I.list hs
  obtain rfl := Vals.ref1 r
  obtain ⟨w1, rfl, e1⟩ := vals1 rz
  exact minD_raw (I.ok.hd hc) hl.isList rv.ints (fun hz h' tk hk => ⟨.int d, H, I.kept hk, e1, q0 hz⟩) fun h' tk m t' hk h1 h2 => ⟨.int _, H, I.kept hk, ⟨_, rfl⟩, q m h1 h2⟩
end
end L2
end

section
set_option maxHeartbeats 1000000
/-! xs[a:b] = another list, as a statement's target -/
namespace L2
open PySem PySem.Spec PyProof.Rows PySem.W
section
variable {X : Cx} {o lo hi : Expr} {to tl th : TE} {pos p2 : Pos}
def gSlc (to tl th : TE) : TG := fun v σ H Q => to σ H fun x H1 => tl σ H1 fun a H2 => th σ H2 fun c H3 => ∃ l b xs ys i j, x = .ref l ∧ v = .ref b ∧ a = .int i ∧ c = .int j ∧ H3 l = some (.lst xs) ∧ H3 b = some (.lst ys) ∧ l ≠ b ∧ 0 ≤ i ∧ i ≤ j ∧ j ≤ (xs.length : Int) ∧ xs.length + ys.length ≤ sizeLine ∧ Q σ (upd H3 l (.lst (xs.take i.toNat ++ ys ++ xs.drop j.toNat)))
theorem pg_slc (ho : PE X o to) (hl : PE X lo tl) (hu : PE X hi th) : PG X (.Subscript o (.Slice (some lo) (some hi) none p2) pos) (gSlc to tl th) := by
  refine ⟨fun pins s σ H v u Q I r h => ?_⟩
  have ha : assign (.Subscript o (.Slice (some lo) (some hi) none p2) pos) X.env u = (do
      let ov ← holding [u] (eval o X.env)
      let iv ← holding [u, ov] (eval (.Slice (some lo) (some hi) none p2) X.env)
      standAt pos
      holding [u, ov, iv] (setItem ov iv u)
      release [iv, u, ov] []) := rfl
  rw [ha]
  refine wpAny_bind (wpAny_holding (thn (ho.run pins s σ H _ I h) fun ov s1 ⟨x, H1, I1, r1, q1⟩ => ?_))
  refine wpAny_bind (wpAny_holding (wpAny_Slice ?_))
  rw [evalPart_some]
  refine thn (hl.run pins s1 σ H1 _ I1 q1) fun vl s2 ⟨a, H2, I2, ra, q2⟩ => ?_
  rw [evalPart_some]
  refine thn (hu.run pins s2 σ H2 _ I2 q2) fun vu s3 ⟨c, H3, I3, rc, q3⟩ => ?_
  rw [evalPart_none]
  refine wpAny_pure ?_
  obtain ⟨l, b, xs, ys, i, j, rfl, rfl, rfl, rfl, hx, hy, hne, h0, hij, hj, hz, q⟩ := q3
  have I4 : Inv X pins σ H3 { s3 with heap := s3.heap.push { cls := .type "slice", data := .fields #[vl, vu, .none] } } := I3.kept (t' := s3.toks) fun b ob q => Heap.get?_push_of_some _ q
  have e1 : ov = Value.ref l := r1
  have e2 : u = Value.ref b := r
  subst e1
  subst e2
  refine wpAny_bind (wpAny_standAt (wpAny_bind (wpAny_holding (set_slice I4 hx hy hne (Heap.IsSliceOf.new ..) ra rc h0 hij hj hz fun s' I' => ?_))))
  exact wpAny_release ⟨σ, _, I', q⟩
end
end L2
end

section
set_option maxHeartbeats 4000000
/-! sorted(set(xs)) of a list of ints, of any size below the table's bound -/
namespace L2
open PySem PySem.Spec PyProof.Rows PySem.W
section
variable {P : Program} {w : World} {A : Around} {E : Value → Shared → Prop} {s : Shared}
/-- the empty set that a call of set makes first -/
abbrev emptySet (w : World) : Obj := { cls := .type "set", dict := none, data := .set #[] 0 (.fresh 0 0 (!w.params.followText "set-order")) }
/-- behind the filling: a set of what the list holds, all older objects as they were -/
def Filled (w : World) (s : Shared) (ns : List Int) : Value → Shared → Prop := fun r s₂ => r = .none ∧ ∃ h' tk c, s₂ = { s with heap := h', toks := tk } ∧ SetR w h' s.heap.objs.size (fun j => decide (j ∈ ns)) c ∧ c ≤ ns.length ∧ ∀ b o, s.heap.get? b = some o → h'.get? b = some o
theorem set_of_list {l : Addr} {its : Array Value} {ns : List Int} {Q : Value → Shared → Prop} (hh : A.handled = none) (hl : s.heap.IsList l its) (hi : IntsAre its.toList ns) (hb : ns.length + 1 < scanBound)
    (h : ∀ h' tk c, SetR w h' s.heap.objs.size (fun j => decide (j ∈ ns)) c → c ≤ ns.length → (∀ b o, s.heap.get? b = some o → h'.get? b = some o) → Q (.ref s.heap.objs.size) { s with heap := h', toks := tk }) :
    wpAny (model P w) A (call (.type "set") [.ref l]) Q E s := by
  have lt : l < s.heap.objs.size := by obtain ⟨_, e, _⟩ := hl; exact Heap.lt_size e
  have hS : (s.heap.push (emptySet w)).get? s.heap.objs.size = some (emptySet w) := Heap.get?_push_size _ rfl
  have hT : Shared.TypeIs { s with heap := s.heap.push (emptySet w) } (.ref s.heap.objs.size) "set" := ⟨_, hS, rfl⟩
  have fill : codeAny (model P w) A.in1 (.call (.builtin "set.__init__") ⟨[.ref s.heap.objs.size, .ref l], []⟩) (wants (Filled w s ns) E) { s with heap := s.heap.push (emptySet w) } := by
    refine codeAny_call_builtin F.called_set.init.plain F.entry_set_init (check_set_init_1 hT ?_)
    obtain ⟨⟨cls, dict, data, slots⟩, hol, hcl, nl, hdl⟩ := id hl
    simp only at hcl hdl
    subst hcl
    subst hdl
    have hol1 : (s.heap.push (emptySet w)).get? l = some { cls := .type "list", dict := dict, data := .seq its nl, slots := slots } := Heap.get?_push_of_some _ hol
    have hL : (s.heap.push (emptySet w)).IsList l its := hl.push _
    have no1 := F.sub_list_set
    have no2 := F.sub_list_frozenset
    have no3 : (Value.type "list" == Value.type "dict") = false := by decide
    unfold Builtin.«set.__init__» noKeywords Builtin.Frozenset.updateFrom
    generalize hPI : pyIter = PI
    wp_walk
    subst hPI
    refine wpAny_pyIter_list hL ?_
    refine wpAny_bind (wpAny_runValue ?_)
    have sz : its.size = ns.length := by
      have := IntsAre.length hi
      rwa [Array.length_toList] at this
    have s1 : (s.heap.push (emptySet w)).objs.size = s.heap.objs.size + 1 := Heap.size_push ..
    have ne1 : l ≠ (s.heap.push (emptySet w)).objs.size := by
      rw [s1]
      exact Nat.ne_of_lt (Nat.lt_succ_of_lt lt)
    have out : s.heap.objs.size ∉ [(s.heap.push (emptySet w)).objs.size, l] := by
      simp only [List.mem_cons, List.not_mem_nil, or_false, not_or]
      exact ⟨by rw [s1]; exact Nat.ne_of_lt (Nat.lt_succ_self _), Nat.ne_of_gt lt⟩
    have at_ : ∀ (i : Nat) (v : Value), its[i]? = some v → ∃ k t, ns[i]? = some k ∧ v = .int k t := fun i v hv => by
      obtain ⟨t, e⟩ := PyProof.Rows.IntsAre.int_at hi i v (by rw [Array.getElem?_toList]; exact hv)
      have hi' : i < ns.length := by
        rw [← sz]
        exact (Array.getElem?_eq_some_iff.mp hv).1
      exact ⟨ns[i], t, List.getElem?_eq_getElem hi', by rw [e, List.getD_eq_getElem?_getD, List.getElem?_eq_getElem hi']; rfl⟩
    refine set_update_ints ((Walks.list (A := A.in1.in1.in1) (by simp [hh]) _ l ne1 its).toS) s.heap.objs.size out ns sz hb at_ its.size 0 _ (by omega) (Nat.zero_le _) ⟨⟨_, Heap.get?_push_size _ rfl, rfl, rfl⟩, hL.push _⟩ ⟨0, Nat.le_refl 0, setR_new_at (Heap.get?_push_of_some _ hS)⟩ ?_
    intro s' c m hc hR
    obtain ⟨h2, g2, d2, t2, o2⟩ := s'
    have eg : g2 = s.gens := m.gens
    have ed : d2 = s.drawn := m.drawn
    have eo : o2 = s.os := m.os
    subst eg
    subst ed
    subst eo
    refine wpAny_pure (wpAny_pure ?_)
    refine ⟨rfl, h2, t2, c, rfl, hR, by omega, fun b o e => ?_⟩
    have lb := Heap.lt_size e
    exact m.heap b o (by simp only [List.mem_cons, List.not_mem_nil, or_false, not_or]; exact ⟨Nat.ne_of_lt lb, by rw [s1]; exact Nat.ne_of_lt (Nat.lt_succ_of_lt lb)⟩) (Heap.get?_push_of_some _ (Heap.get?_push_of_some _ e))
  obtain ⟨c0, tl, mro⟩ := F.called_set.mro
  have made := F.called_set.made
  have subs := F.called_set.sub
  have nty := F.called_set.notType
  have can := F.called_set.canCreate
  have cty := F.typeCall_set_1 (.ref l)
  have ilk := F.called_set.init.lookup
  have ibd := F.called_set.init.bind (.ref s.heap.objs.size)
  refine wpAny_call (codeAny_of_tree ?_)
  show wpAny _ _ (callAny (.type "set") _) _ _ _
  refine wpAny_pure ⟨Code.quiet_builtin _ (by decide +kernel), codeAny_builtin F.entry_type_call ?_⟩
  rw [Around.under_plain (weight_type_call_type "set" [.ref l] []) rfl]
  wp_walk
  refine codeAny_mono (code_set_led1 (.ref l) (E := E) (Q₁ := fun v s1 => v = .ref s.heap.objs.size ∧ s1 = { s with heap := s.heap.push (emptySet w) }) ⟨rfl, rfl⟩) fun r s1 hr => ?_
  match r, hr with
  | .error e, hr => exact hr
  | .ok (.ret v), hr =>
    obtain ⟨rfl, rfl⟩ := hr
    wp_walk
    refine codeAny_mono fill fun r2 s2 hr2 => ?_
    match r2, hr2 with
    | .error e, hr2 => exact hr2
    | .ok (.ret v), hr2 =>
      obtain ⟨rfl, h', tk, c, rfl, a1, a2, a3⟩ := hr2
      wp_walk
      exact h _ _ _ a1 a2 a3
/-- sorted of a set of ints, of any size -/
theorem sorted_any {a : Addr} {S : Int → Bool} {n : Nat} {Q : Value → Shared → Prop} (R : SetR w s.heap a S n) (hh : A.handled = none) (hz : n ≤ sizeLine)
    (hQ : ∀ s' p (out : Array Value) (c : Nat) (ns : List Int), (∀ b o, s.heap.get? b = some o → s'.heap.get? b = some o) → s'.gens = s.gens → s'.os = s.os → s.heap.objs.size ≤ p →
      s'.heap.get? p = some (seqObj "list" out c) → IntsAre out.toList ns → ns.Pairwise (· < ·) → (∀ k, k ∈ ns ↔ S k = true) → ns.length = n → Q (.ref p) s') :
    wpAny (model P w) A (call (.builtin "sorted") [.ref a]) Q E s := by
  obtain ⟨o, es, ep, t, ho, hex, hd, good, nd, mem, room, fits, sz, ris, led⟩ := R
  refine Calls.call_function_entry kind_sorted plain_sorted entry_sorted (args_sorted1 _) ?_
  unfold Builtin.«sorted»
  refine wpAny_bind (m := checkCount "sorted" 1 1 _) (wpAny_pure ?_)
  refine wpAny_bind (collect_set (A := A.in1) hh ⟨o, ho, hex.1, hd⟩ fits room ris led fun s1 vs k1 big g1 o1 pm => ?_)
  have len : vs.length = n := by rw [pm.length_eq, List.length_map, Array.length_toList]; exact sz
  have hI : IntsAre vs (vs.map Builtin.Re.reRawOf) := ints_of vs fun v hv => by
    obtain ⟨e, he, q⟩ := List.mem_map.mp (pm.mem_iff.mp hv)
    obtain ⟨k, tk, h1, _⟩ := good e he
    exact ⟨k, tk, by rw [← q]; exact h1⟩
  have keys : (vs.map Builtin.Re.reRawOf).Perm (es.toList.map keyOf) := by
    have q := pm.map Builtin.Re.reRawOf
    rw [List.map_map] at q
    exact q
  refine wpAny_bind (wpAny_newList ?_ (by rw [len]; exact hz))
  have hoL : (s1.heap.push (seqObj "list" vs.toArray 0)).get? s1.heap.objs.size = some (seqObj "list" vs.toArray 0) := Heap.get?_push_size _ rfl
  refine wpAny_bind (wpAny_holding (wpAny_call_entry slot_list_sort ⟨_, hoL, rfl⟩ entry_list_sort (SrtO.list_sort_ord SrtO.swo_int hoL (by rw [len]; exact hz) (fun h2 => SrtO.ints_sortable hI h2) fun out h1 h2 => ⟨_, rfl, ?_⟩) (args_list_sort _)))
  obtain ⟨b1, b2, b3⟩ := SrtO.ints_out hI h1 h2
  obtain ⟨c, hc⟩ := sortedHeap_at (vs := vs) (out := out.toArray) hoL
  have all := b2.trans keys
  refine wpAny_pure ⟨_, rfl, hQ _ s1.heap.objs.size out.toArray c (out.map SrtO.iv) (fun b u e => ?_) g1 o1 big hc b1 (lt_of_le_nodup _ b3 (all.nodup_iff.mpr nd)) (fun k => by rw [all.mem_iff, ← mem k]) ?_⟩
  · have q := k1 b u e
    have ql := Heap.lt_size q
    show (sortedHeap (s1.heap.push (seqObj "list" vs.toArray 0)) s1.heap.objs.size vs out.toArray).get? b = some u
    rw [sortedHeap_old (Nat.ne_of_lt ql) (by rw [size_push']; exact Nat.lt_succ_of_lt ql)]
    exact Heap.get?_push_of_some _ q
  · rw [all.length_eq, List.length_map, Array.length_toList]
    exact sz
end
section
variable {X : Cx} {e : Expr} {te : TE} {p1 p2 p3 p4 : Pos}
/-- sorted(set(xs)) of a list of ints -/
def tSrtSet (K : PySem.W.Frag) (te : TE) : TE := fun σ H Q => te σ H fun x H1 => ∃ (l : Addr) (ns : List Int), x = V.ref l ∧ SqL K H1 l (ns.map V.int) ∧ ns.length + 1 < scanBound ∧
  ∀ (ms : List Int) (p : Addr), ms.Pairwise (· < ·) → (∀ k, k ∈ ms ↔ k ∈ ns) → H1 p = none → Q (.ref p) (upd H1 p (.lst (ms.map V.int)))
theorem pe_srtSet (hc : X.calm = true) (g1 : Gl X "sorted") (m1 : X.mg "sorted" = none) (g2 : Gl X "set") (m2 : X.mg "set" = none) (he : PE X e te) (hs : starEach [e] X.env = [(false, eval e X.env)]) :
    PE X (.Call (.Name "sorted" p1) [.Call (.Name "set" p2) [e] [] p3] [] p4) (tSrtSet X.K te) := by
  refine ⟨fun pins s σ H Q I h => ?_⟩
  refine wpAny_Call_Name_kw (ld_blt I g1 m1 (by decide +kernel : bootBuiltins "sorted" = some (.builtin "sorted")) ?_ (by decide) (by decide))
  refine PyProof.Rows.callWith_builtin1 (e := .Call (.Name "set" p2) [e] [] p3) (rest := []) ?_ rfl rfl
  show wpAny _ _ (spliced ((false, eval (.Call (.Name "set" p2) [e] [] p3) X.env) :: backTo p4 (starEach [] X.env))) _ _ s
  refine Calls.spliced_cons ?_
  refine wpAny_Call_Name_kw (ld_blt I g2 m2 (by decide +kernel : bootBuiltins "set" = some (.type "set")) ?_ (by decide) (by decide))
  refine PyProof.Rows.callWith_type1 (e := e) (rest := []) ?_ (by rw [hs]; rfl) rfl
  rw [hs]
  show wpAny _ _ (spliced ((false, eval e X.env) :: backTo p3 (starEach [] X.env))) _ _ s
  refine Calls.spliced_cons (thn (he.run pins s σ H _ I h) fun u s1 ⟨x, H1, I1, r1, q1⟩ => ?_)
  obtain ⟨l, ns, rfl, hx, hb, q⟩ := q1
  obtain ⟨its, rv, hl, _⟩ := I1.list hx
  have eu : u = Value.ref l := r1
  subst eu
  refine Calls.spliced_nil ?_
  refine set_of_list (I1.ok.hd hc) hl.isList rv.ints hb fun h' tk c R hc' hk => ?_
  refine Calls.spliced_nil ?_
  have cz : c ≤ sizeLine := by
    have : scanBound ≤ sizeLine := by decide
    omega
  refine sorted_any R (I1.ok.hd hc) cz fun s' p out c2 ms k g o hp hg hi hs' hm hl' => ?_
  have hp1 : s1.heap.objs.size ≤ p := Nat.le_trans (Nat.le_of_lt R.lt) hp
  have kk : ∀ b ob, s1.heap.get? b = some ob → s'.heap.get? b = some ob := fun b ob e => k b ob (hk b ob e)
  have hlen : (ms.map V.int).length ≤ sizeLine := by rw [List.length_map, hl']; exact cz
  have hn : H1 p = none := I1.hok.fresh hp1
  have J : Inv X pins σ (upd H1 p (.lst (ms.map V.int))) { s1 with heap := s'.heap, gens := s'.gens, drawn := s'.drawn, toks := s'.toks } :=
    I1.call (ch := []) (Un.laid kk hp1 hn) (I1.hok.laid kk hp1 ⟨hlen, out.toList, c2, vals_of_ints hi, hg⟩) (by rw [g]; exact I1.bare) (fun _ z => nomatch z)
  have e2 : s' = { s1 with heap := s'.heap, gens := s'.gens, drawn := s'.drawn, toks := s'.toks } := by
    cases s'
    cases s1
    cases o
    rfl
  rw [e2]
  exact ⟨.ref p, _, J, rfl, q ms p hs' (fun j => by rw [hm j]; simp) hn⟩
end
end L2
end

section
set_option maxHeartbeats 1000000
/-! a < b of alike data -/
namespace L2
open PySem PySem.Spec PyProof.Rows PySem.W
section
variable {X : Cx}
def rLtDat (K : PySem.W.Frag) : R2 := fun x y H Q => ∃ p q, Dp K H x p ∧ Dp K H y q ∧ alike p q = true ∧ p ≠ .none ∧ p.depth ≤ 60 ∧ Q (.bl (dataLt p q)) H
theorem op_ltDat (hu : X.A.units + 64 < cLine) : OpR X (compareOp .Lt) (rLtDat X.K) := by
  intro pins s σ H x y v u Q I rx ry h
  obtain ⟨p, q, hp, hq, ha, hn, hd, k⟩ := h
  obtain ⟨as, r1⟩ := Dp.reads I p x v hp rx
  obtain ⟨bs, r2⟩ := Dp.reads I q y u hq ry
  refine lt_data r1 r2 ha hn ?_ ⟨.bl _, H, I, rfl, k⟩
  have := Nat.min_le_left p.depth q.depth
  omega
end
end L2
end

section
set_option maxHeartbeats 4000000
/-! K7: dict(d) of a dict whose keys are tuples, of one key at most; len, list of such dicts, locked or not. -/
namespace PySem
section
variable {prog : Program} {w : World} {K : Type} [DecidableEq K] {knd : HeapKind prog w K} {A : Around} {E : Value → Shared → Prop} {s : Shared}
theorem kt_call_dictH {o : Addr} {more : List (K × Addr × Value)} {Q : Value → Shared → Prop} (hu : knd.room A.in1.in1) (hoS : (o == sysModules) = false) (hlt : o < s.heap.objs.size) (hsz : more.length ≤ sizeLine)
    (hpush : (s.heap.push { cls := .type "dict", data := .dict #[] }).DictOfH knd o more) (hty : ∀ x ∈ more, s.TypeIs (.ref x.2.1) "tuple") (hap : (more.map fun x => knd.hash x.1).Nodup)
    (h : ∀ h', h'.DictOfH knd s.heap.objs.size more → Heap.SameBut s.heap.objs.size (s.heap.push { cls := .type "dict", data := .dict #[] }) h' → Q (.ref s.heap.objs.size) { s with heap := h' }) :
    wpAny (model prog w) A (call (.type "dict") [.ref o]) Q E s := by
  refine callType_codes (Q₁ := fun obj s₁ => obj = .ref s.heap.objs.size ∧ s₁ = { s with heap := s.heap.push { cls := .type "dict", data := .dict #[] } }) F.kt_called_dict (F.kt_typeCall_dict_1 _) F.entry_dict_init (kt_code_dict_new _ ⟨rfl, rfl⟩) ?_
  rintro obj s₁ ⟨rfl, rfl⟩
  have hnew : (s.heap.push { cls := .type "dict", data := .dict #[] }).DictOfH knd s.heap.objs.size [] := Heap.DictOfH.new s.heap
  have hdo : s.heap.objs.size ≠ o := Nat.ne_of_gt hlt
  refine ⟨hnew.typeIs, F.args_dict_init_2 _ _, ?_⟩
  unfold Builtin.«dict.__init__»
  refine wpAny_bind ?_
  unfold Builtin.Dict.selfAndRest
  refine wpAny_bind (wpAny_notOrdered_dict hnew.typeIs ?_)
  show wpAny _ _ (pure (s.heap.objs.size, [Value.ref o])) _ _ _
  refine wpAny_pure ?_
  show wpAny _ _ (Builtin.Dict.updateFrom "dict.__init__" s.heap.objs.size (.ref o) [] .none) _ _ _
  have hty' : ∀ x ∈ more, (⟨s.heap.push { cls := .type "dict", data := .dict #[] }, s.gens, s.drawn, s.toks, s.os⟩ : Shared).TypeIs (.ref x.2.1) "tuple" := fun x hx => by
    obtain ⟨ob, h1, h2⟩ := hty x hx
    exact ⟨ob, Heap.get?_push_of_some _ h1, h2⟩
  exact updateFrom_dictH (s := { s with heap := s.heap.push { cls := .type "dict", data := .dict #[] } }) (nm := "dict.__init__") (R := wants (fun r s₂ => r = .none ∧ Q (.ref s.heap.objs.size) s₂) E) .none hu hdo hoS hnew hpush (.inr ⟨hty', hap⟩) (by simpa using hsz) fun h' hd' _ hs' => ⟨rfl, h h' (by rw [storedAllH_nil_of_nodup more hpush.nodup] at hd'; exact hd') hs'⟩
end
end PySem
namespace L2
open PySem PySem.Spec PyProof.Rows
section
variable {X : Cx}
theorem call_dictT (hu : X.A.units + 8 < cLine) : CallR X (.type "dict") (fun xs H Q => ∃ (a : Addr) (kvs : List (List Key × V)), xs = [.ref a] ∧ Rd H a (.dT kvs) ∧ kvs.length ≤ 1 ∧ ∀ p, H p = none → Q (.ref p) (upd H p (.dT kvs))) := by
  intro pins s σ H xs us Q I r q
  obtain ⟨a, kvs, ex, hd, hl, q⟩ := q
  subst ex
  obtain ⟨u, eu, rx⟩ := vals1 r
  subst eu
  cases rx
  obtain ⟨z, lo, ys0, _, dd0⟩ := dt_rd I.hok hd
  have hlt : a < s.heap.objs.size := by
    obtain ⟨_, _, _, hg, _⟩ := dd0
    exact Heap.lt_size hg
  have k1 : ∀ b u, s.heap.get? b = some u → (s.heap.push { cls := .type "dict", data := .dict #[] }).get? b = some u := fun b u e => Heap.get?_push_of_some _ e
  have hok1 : HOk X.prog X.w H (s.heap.push { cls := .type "dict", data := .dict #[] }) := I.hok.kept k1
  obtain ⟨_, _, ys, rel, dd⟩ := dt_rd hok1 hd
  have l2 : kvs.length = ys.length := Paired.length rel
  have tys : ∀ x ∈ ys, s.TypeIs (.ref x.2.1) "tuple" := by
    have aux : ∀ {l : List (List Key × V)} {m : List (List Key × Addr × Value)}, KT H l m → ∀ x ∈ m, s.TypeIs (.ref x.2.1) "tuple" := by
      intro l m q
      induction q with
      | nil => intro x hx; exact nomatch hx
      | @cons p q ps qs hq t ih =>
        intro x hx
        rcases List.mem_cons.mp hx with e | hx
        · subst e
          obtain ⟨_, its, _, o, h1, h2, n, h3⟩ := (show ObjOk X.prog X.w H s.heap x.2.1 (.tup (p.1.map kV)) from I.hok _ _ hq.2.1)
          exact ⟨o, h1, h2⟩
        · exact ih x hx
    exact aux rel
  refine kt_call_dictH (knd := tupleKind (mixKind X.prog X.w)) (by show X.A.in1.in1.units < cLine; show X.A.units + 1 + 1 < cLine; omega) lo hlt (by omega) dd tys ?_ fun h' d' hs => ?_
  · match ys, l2 with
    | [], _ => simp
    | [y], _ => simp
    | _ :: _ :: _, e => simp at e; omega
  · have hm : (s.heap.objs.size == sysModules) = false := beq_eq_false_iff_ne.mpr (Nat.ne_of_gt I.big)
    have kp : ∀ b u, s.heap.get? b = some u → h'.get? b = some u := fun b u e => (hs.2 b (Nat.ne_of_lt (Heap.lt_size e))).trans (k1 b u e)
    have hn : H s.heap.objs.size = none := I.hok.fresh (Nat.le_refl _)
    refine ⟨.ref s.heap.objs.size, upd H s.heap.objs.size (.dT kvs), I.laid (t' := s.toks) kp (Nat.le_refl _) ?_, rfl, q _ hn⟩
    obtain ⟨o, es, ep, g1, g2, g3, g4, g5, g6⟩ := d'
    exact ⟨z, hm, ys, KT.keeps rel fun b ys e => by rw [upd_ne (ne_of_none e hn)]; exact e, o, es, ep, g1, g2, g3, g4, g6⟩
/-- len of a dict with tuple keys, locked or not -/
theorem call_len_dTR : CallR X (.builtin "len") (fun xs H Q => ∃ (p : Addr) (kvs : List (List Key × V)), xs = [.ref p] ∧ Rd H p (.dT kvs) ∧ Q (.int ((kvs.length : Nat) : Int)) H) := by
  intro pins s σ H xs us Q I r h
  obtain ⟨p, kvs, rfl, hp, q⟩ := h
  obtain ⟨u, rfl, rx⟩ := vals1 r
  obtain rfl : u = .ref p := rx
  obtain ⟨z, hd, ys, rel, dd⟩ := dt_rd I.hok hp
  have hl : kvs.length = ys.length := Paired.length rel
  refine call_len_dictH hd dd (by rw [← hl]; rw [sizeLine_eq] at z; omega) ?_
  rw [← hl]
  exact ⟨.int ((kvs.length : Nat) : Int), H, I.tok _, ⟨_, rfl⟩, q⟩
end
end L2
end

section
set_option maxHeartbeats 4000000
/-! K8: o.m(e, ..) where what is raised is wished for at the caller's slots. -/
namespace L2
open PySem PySem.Spec PyProof.Rows
section
variable {X : Cx} {CX : CXT} {k : Nat} {f C : Addr} {fd : FuncData} {ps : List Str} {sp : Sp} {E : St → XK} {m : Str} {pos apos : Pos} {o e : Expr} {es : List Expr} {ta : TE} {t : TA}
def tMethZ (C : Addr) (m : Str) (sp : Sp) (E : St → XK) (ta : TE) (t : TA) : TE := fun σ H Q => ta σ H fun x H1 => ∃ a dx fs, x = .ref a ∧ H1 a = some (.ins C dx fs) ∧ fs.lookup m = none ∧ t σ H1 fun vs H2 => sp (x :: vs) H2 Q (E σ)
theorem pe_methZ {pl : Sem Bool} (he : PE X o ta) (c : Cls X.K C) (hm : Meth X.K C m f) (F : FnOk X.prog X.w X.K X.mg X.base CX k f fd ps sp) (hr : Room k X.A) (hb : Binds X.K fd ps []) (hx : ∀ σ, PassesAt CX X σ (E σ)) (ha : PA X (e :: es) t)
    (hst : starEach (e :: es) X.env = (false, eval e X.env) :: starEach es X.env) (hpl : (backTo pos (starEach es X.env)).any (·.1) = false)
    (ht : eval (.Call (.Attribute o m apos) (e :: es) [] pos) X.env = (do
      let ov ← eval o X.env
      standAt apos.atName
      let (f, first) ← holding [ov] (getMethod ov m pl)
      callWith pos f first (backTo pos (starEach (e :: es) X.env)) (backToKw pos (keywordEach [] X.env)))) :
    PE X (.Call (.Attribute o m apos) (e :: es) [] pos) (tMethZ C m sp E ta t) := by
  refine ⟨fun pins s σ H Q I h => ?_⟩
  refine PySem.W.methodCall_KW (pl := pl) (thn (he.run pins s σ H _ I h) fun u s1 ⟨x, H1, I1, rx, a, dx, fs, ex, ea, l, q⟩ => ?_) ht
  subst ex
  obtain rfl : u = Value.ref a := rx
  refine getmeth_ok I1 ea c hm l ?_
  refine PySem.W.callWith_K (first := [.ref a]) (h₀ := X.base) I.ok.mod.kin hm.kp (thn (ha.run pos pins s1 σ H1 _ I1 q) fun us s2 ⟨vs, H2, I2, r, q2⟩ => ⟨I2.kIn, ?_⟩) hst hpl
  exact run_fnSD (ds := []) (dvs := []) (us := .ref a :: us) (vs := .ref a :: vs) F hr hb .nil (hx σ) I2 (.cons rfl r) (by rw [List.append_nil]; exact q2)
theorem pe_methZ0 {pl : Sem Bool} (he : PE X o ta) (c : Cls X.K C) (hm : Meth X.K C m f) (F : FnOk X.prog X.w X.K X.mg X.base CX k f fd ps sp) (hr : Room k X.A) (hb : Binds X.K fd ps []) (hx : ∀ σ, PassesAt CX X σ (E σ))
    (ht : eval (.Call (.Attribute o m apos) [] [] pos) X.env = (do
      let ov ← eval o X.env
      standAt apos.atName
      let (f, first) ← holding [ov] (getMethod ov m pl)
      callWith pos f first (backTo pos (starEach [] X.env)) (backToKw pos (keywordEach [] X.env)))) :
    PE X (.Call (.Attribute o m apos) [] [] pos) (tMethZ C m sp E ta tNil) := by
  refine ⟨fun pins s σ H Q I h => ?_⟩
  refine PySem.W.methodCall_KW (pl := pl) (thn (he.run pins s σ H _ I h) fun u s1 ⟨x, H1, I1, rx, a, dx, fs, ex, ea, l, q⟩ => ?_) ht
  subst ex
  obtain rfl : u = Value.ref a := rx
  refine getmeth_ok I1 ea c hm l ?_
  exact PySem.W.callWith_K0 (first := [.ref a]) I1.kIn hm.kp (run_fnSD (ds := []) (dvs := []) (us := [.ref a]) (vs := [.ref a]) F hr hb .nil (hx σ) I1 (.cons rfl .nil) (by rw [List.append_nil]; exact q))
end
end L2
end

section

/-! list(range(a, b, -1)) -/
namespace L2
open PySem PySem.Spec PyProof.Rows
/-- the ints a, a - 1, .. b + 1 -/
def rgD (a b : Int) : List V := (List.range (a - b).toNat).map fun i => V.int (a - (i : Nat))
theorem rgD_length (a b : Int) : (rgD a b).length = (a - b).toNat := by unfold rgD; rw [List.length_map, List.length_range]
theorem vals_rgD {a b : Int} {acc : Array Value} (h : ItemsOf (fun i v => ∃ t, v = .int (a + i * -1) t) acc (a - b).toNat) : Vals (rgD a b) acc.toList := by
  have e : acc.toList.length = (a - b).toNat := by rw [Array.length_toList]; exact h.1
  unfold rgD
  rw [← e]
  refine vals_of_get acc.toList _ fun j u hj => ?_
  obtain ⟨t, rfl⟩ := h.2 j u (by rw [← hj, Array.getElem?_toList])
  refine ⟨t, ?_⟩
  have : a + (j : Int) * -1 = a - j := by omega
  rw [this]
def tLstRgD (ta : TA) : TE := fun σ H Q => ta σ H fun vs H3 => ∃ i j, vs = [.int i, .int j, .int (-1)] ∧ RgOk j i ∧ ∀ q, H3 q = none → Q (.ref q) (upd H3 q (.lst (rgD i j)))
section
variable {X : Cx} {a b c : Expr} {ta : TA}
theorem pe_listRgD {p p2 pos pos2 : Pos} (hc : X.calm = true) (hg : Gl X "list") (hm : X.mg "list" = none) (hg2 : Gl X "range") (hm2 : X.mg "range" = none) (ha : PA X [a, b, c] ta)
    (hs : starEach [a, b, c] X.env = (false, eval a X.env) :: starEach [b, c] X.env) (hpl : (backTo pos2 (starEach [b, c] X.env)).any (·.1) = false) :
    PE X (.Call (.Name "list" p) [.Call (.Name "range" p2) [a, b, c] [] pos2] [] pos) (tLstRgD ta) := by
  refine ⟨fun pins s σ H Q I h => ?_⟩
  have na : starEach [(.Call (.Name "range" p2) [a, b, c] [] pos2 : Expr)] X.env = (false, eval (.Call (.Name "range" p2) [a, b, c] [] pos2) X.env) :: starEach [] X.env := rfl
  refine Call_ (ld_blt I hg hm boot_list (PyProof.Rows.callWith_type1 (args_cons (Q := fun us s2 => wpAny (model X.prog X.w) X.A (call (.type "list") us) (EP X pins σ Q) X.xe s2) ?_ na) na))
  refine Call_ (ld_blt I hg2 hm2 boot_range (PyProof.Rows.callWith_type1 (thn (ha.run pos2 pins s σ H _ I h) fun us s1 ⟨vs, H1, I1, r1, q1⟩ => ?_) hs hpl))
  obtain ⟨i, j, e, ok, q⟩ := q1
  subst e
  cases r1 with
  | cons r rr =>
    cases rr with
    | cons r' rr =>
      cases rr with
      | cons r'' rr =>
        cases rr
        obtain ⟨t, rfl⟩ := r
        obtain ⟨t', rfl⟩ := r'
        obtain ⟨t'', rfl⟩ := r''
        obtain ⟨b1, b2, b3, b4, b5⟩ := ok
        refine call_range_3 (by decide) ?_ (.inl (PyProof.noPylong_small (by decide)))
        refine args_nil ?_
        have I2 : Inv X pins σ H1 { s1 with heap := s1.heap.push { cls := .type "range", data := .fields #[.int i t, .int j t', .int (-1) t''] } } := I1.kept (t' := s1.toks) fun b o e => Heap.get?_push_of_some _ e
        refine call_list_range (n := (i - j).toNat) (I2.ok.hd hc) (IsRange.new ..) (PySem.W.small_down b3 b4 b1 b2) (PySem.W.rangeSize_downNat i j) (by omega) fun h' tk acc c' hk e' hi => ?_
        refine ⟨.ref _, upd H1 _ (.lst (rgD i j)), I2.laid hk (Nat.le_refl _) (show ObjOk X.prog X.w _ _ _ (.lst (rgD i j)) from ⟨?_, acc.toList, c', vals_rgD hi, ?_⟩), rfl, q _ (I2.hok.fresh (Nat.le_refl _))⟩
        · rw [rgD_length, sizeLine_eq]; omega
        · rw [Array.toArray_toList]; exact e'
end
end L2
end

section
set_option maxHeartbeats 4000000
/-! Vx 4: the state's moves. -/
namespace Vx
open PySem L2
section
variable {c : Gx} {H0 B0 B H : Hp} {A0 : List Addr} {L L' : List A} {n : En}

/-- a subtree is frozen in place: L holds it, L' has its place known for good -/
theorem Gd.freezeG2 {y : A} {R : List (Addr × HO)} (g : Gd c H0 B0 A0 B H L) (hy : y.ok c B) (p1 : (objsL c L).Perm (y.objs c ++ R)) (p2 : (objsL c L').Perm R)
    (lf : ∀ B', Same B B' → RepD c B' y.er.dat y.val → ∀ x ∈ L', x.ok c B') : ∃ B', Same B B' ∧ Gd c H0 B0 A0 B' H L' ∧ RepD c B' y.er.dat y.val ∧ ∀ p ∈ y.objs c, B' p.1 = some p.2 := by
  have nd1 : (ads (y.objs c ++ R)).Nodup := (p1.map Prod.fst).nodup_iff.mp g.nd
  rw [ads_append] at nd1
  have disj := (List.nodup_append.mp nd1).2.2
  have inY : ∀ q ∈ y.objs c, q ∈ objsL c L := fun q hq => p1.mem_iff.mpr (List.mem_append_left _ hq)
  have inR : ∀ q ∈ R, q ∈ objsL c L := fun q hq => p1.mem_iff.mpr (List.mem_append_right _ hq)
  have adL : ∀ b, b ∈ ads (y.objs c) ∨ b ∈ ads R → b ∈ ads (objsL c L) := fun b hb => by
    refine ((p1.map Prod.fst).mem_iff).mpr ?_
    show b ∈ ads (y.objs c ++ R)
    rw [ads_append]
    exact List.mem_append.mpr hb
  have s1 : Same B fun b => if b ∈ ads (y.objs c) then H b else B b := fun b o e => by
    show (if b ∈ ads (y.objs c) then H b else B b) = some o
    by_cases hb : b ∈ ads (y.objs c)
    · rw [if_pos hb]
      exact g.sub b o e
    · rw [if_neg hb]
      exact e
  have r1 : RepD c (fun b => if b ∈ ads (y.objs c) then H b else B b) y.er.dat y.val := A.view hy s1 fun p hp => by
    show (if p.1 ∈ ads (y.objs c) then H p.1 else B p.1) = some p.2
    rw [if_pos (List.mem_map_of_mem (f := Prod.fst) hp)]
    exact (g.hold p (inY p hp)).1
  refine ⟨fun b => if b ∈ ads (y.objs c) then H b else B b, s1, ?_, r1, fun p hp => by
    show (if p.1 ∈ ads (y.objs c) then H p.1 else B p.1) = some p.2
    rw [if_pos (List.mem_map_of_mem (f := Prod.fst) hp)]
    exact (g.hold p (inY p hp)).1⟩
  refine ⟨fun b o e => s1 b o (g.b0 b o e), fun b o e => ?_, fun p hp => ?_, ?_, lf _ s1 r1, g.fr, fun b hb => ?_⟩
  · have e' : (if b ∈ ads (y.objs c) then H b else B b) = some o := e
    by_cases hb : b ∈ ads (y.objs c)
    · rw [if_pos hb] at e'
      exact e'
    · rw [if_neg hb] at e'
      exact g.sub b o e'
  · have hp' : p ∈ R := p2.mem_iff.mp hp
    obtain ⟨q1, q2⟩ := g.hold p (inR p hp')
    refine ⟨q1, ?_⟩
    show (if p.1 ∈ ads (y.objs c) then H p.1 else B p.1) = none
    rw [if_neg (fun z => disj _ z _ (List.mem_map_of_mem (f := Prod.fst) hp') rfl)]
    exact q2
  · exact ((p2.map Prod.fst).nodup_iff).mpr (List.nodup_append.mp nd1).2.1
  · refine g.nw b ?_
    rcases hb with hb | hb
    · have hb' : (if b ∈ ads (y.objs c) then H b else B b) ≠ none := hb
      by_cases hm : b ∈ ads (y.objs c)
      · exact Or.inr (adL b (Or.inl hm))
      · rw [if_neg hm] at hb'
        exact Or.inl hb'
    · exact Or.inr (adL b (Or.inr (((p2.map Prod.fst).mem_iff).mp hb)))

theorem Gd.freezeG {y : A} {R : List (Addr × HO)} (g : Gd c H0 B0 A0 B H L) (hy : y.ok c B) (p1 : (objsL c L).Perm (y.objs c ++ R)) (p2 : (objsL c L').Perm R)
    (lf : ∀ B', Same B B' → RepD c B' y.er.dat y.val → ∀ x ∈ L', x.ok c B') : ∃ B', Same B B' ∧ Gd c H0 B0 A0 B' H L' ∧ RepD c B' y.er.dat y.val := by
  obtain ⟨B', h1, h2, h3, _⟩ := Gd.freezeG2 g hy p1 p2 lf
  exact ⟨B', h1, h2, h3⟩

/-- into a call: the trees handed in -/
theorem Gd.enter {xs R : List A} (g : Gd c H0 B0 A0 B H (xs ++ R)) : G c ⟨H, B, ads (objsL c xs)⟩ B H xs where
  b0 := Same.refl _
  sub := g.sub
  hold := fun p hp => g.hold p (by rw [objsL_append]; exact List.mem_append_left _ hp)
  nd := by
    have h := g.nd
    rw [objsL_append, ads_append] at h
    exact (List.nodup_append.mp h).1
  lf := fun x hx => g.lf x (List.mem_append_left _ hx)
  fr := fun b o h _ => h
  nw := fun b hb => hb.elim Or.inl fun z => Or.inr (Or.inr z)
/-- out of a call -/
theorem Gd.leave {xs ys R : List A} {B' H' : Hp} (g : Gd c H0 B0 A0 B H (xs ++ R)) (k : G c ⟨H, B, ads (objsL c xs)⟩ B' H' ys) : Gd c H0 B0 A0 B' H' (ys ++ R) := by
  have nd0 := g.nd
  rw [objsL_append, ads_append] at nd0
  have disj := (List.nodup_append.mp nd0).2.2
  have inR : ∀ p ∈ objsL c R, p ∈ objsL c (xs ++ R) := fun p hp => by
    rw [objsL_append]
    exact List.mem_append_right _ hp
  have RX : ∀ b ∈ ads (objsL c R), b ∉ ads (objsL c xs) := fun b hb hx => disj b hx b hb rfl
  have Rn : ∀ b ∈ ads (objsL c R), ¬ (B' b ≠ none ∨ b ∈ ads (objsL c ys)) := fun b hb hz => by
    obtain ⟨q, hq, e⟩ := List.mem_map.mp hb
    obtain ⟨q1, q2⟩ := g.hold q (inR q hq)
    rw [e] at q1 q2
    rcases k.nw b hz with z | z | z
    · exact z q2
    · have z' : H b = none := z
      rw [z'] at q1
      cases q1
    · exact RX b hb z
  have out : ∀ b, (B' b ≠ none ∨ b ∈ ads (objsL c ys)) → B0 b ≠ none ∨ H0 b = none ∨ b ∈ A0 := fun b hb => by
    rcases k.nw b hb with z | z | z
    · exact g.nw b (Or.inl z)
    · exact Or.inr (g.new_ok z)
    · refine g.nw b (Or.inr ?_)
      rw [objsL_append, ads_append]
      exact List.mem_append_left _ z
  refine ⟨fun b o h => k.b0 b o (g.b0 b o h), k.sub, fun p hp => ?_, ?_, fun x hx => ?_, fun b o h hA => ?_, fun b hb => ?_⟩
  · rw [objsL_append] at hp
    rcases List.mem_append.mp hp with hp | hp
    · exact k.hold p hp
    · have ha : p.1 ∈ ads (objsL c R) := List.mem_map_of_mem (f := Prod.fst) hp
      refine ⟨k.fr p.1 p.2 (g.hold p (inR p hp)).1 (RX _ ha), ?_⟩
      cases e : B' p.1 with
      | none => rfl
      | some o => exact (Rn _ ha (Or.inl (by rw [e]; exact fun z => by cases z))).elim
  · rw [objsL_append, ads_append]
    exact List.nodup_append.mpr ⟨k.nd, (List.nodup_append.mp nd0).2.1, fun a ha b hb e => Rn b hb (Or.inr (e ▸ ha))⟩
  · rcases List.mem_append.mp hx with hx | hx
    · exact k.lf x hx
    · exact A.ok.mono k.b0 (g.lf x (List.mem_append_right _ hx))
  · by_cases hx : b ∈ ads (objsL c xs)
    · have hm : b ∈ ads (objsL c (xs ++ R)) := by
        rw [objsL_append, ads_append]
        exact List.mem_append_left _ hx
      obtain ⟨q, hq, e⟩ := List.mem_map.mp hm
      obtain ⟨q1, q2⟩ := g.hold q hq
      rw [e] at q2
      rcases g.nw b (Or.inr hm) with z | z | z
      · cases e2 : B0 b with
        | none => exact (z e2).elim
        | some w =>
          have := g.b0 b w e2
          rw [q2] at this
          cases this
      · rw [z] at h
        cases h
      · exact (hA z).elim
    · exact k.fr b o (g.fr b o h hA) hx
  · rw [objsL_append, ads_append] at hb
    rcases hb with hb | hb
    · exact out b (Or.inl hb)
    · rcases List.mem_append.mp hb with hb | hb
      · exact out b (Or.inr hb)
      · refine g.nw b (Or.inr ?_)
        rw [objsL_append, ads_append]
        exact List.mem_append_right _ hb
end

section
variable {c : Gx} {n : En} {B H : Hp} {T : List A} {as : Sl} {σ : St}
theorem G.perm {L L' : List A} (g : G c n B H L) (p : L.Perm L') : G c n B H L' := Gd.perm g p
/-- a slot's tree is taken out -/
theorem G.take {i : Nat} {x : A} (g : G c n B H (live as ++ T)) (h : as[i]? = some (some x)) : G c n B H (live (as.set i none) ++ x :: T) :=
  g.perm ((List.Perm.append_right T (live_get h)).trans (List.perm_middle (a := x) (l₁ := live (as.set i none)) (l₂ := T)).symm)
theorem G.give {i : Nat} {x : A} (g : G c n B H (live (as.set i none) ++ x :: T)) (h : i < as.length) : G c n B H (live (as.set i (some x)) ++ T) :=
  g.perm ((List.perm_middle (a := x) (l₁ := live (as.set i none)) (l₂ := T)).trans (List.Perm.append_right T (live_set h).symm))
theorem G.forget {i : Nat} (g : G c n B H (live as ++ T)) : G c n B H (live (as.set i none) ++ T) := by
  obtain ⟨M, h⟩ := live_drop (as := as) (i := i)
  have g2 := g.perm ((List.Perm.append_right T h).trans (by rw [List.append_assoc]))
  exact Gd.drop g2
theorem SR.take {i : Nat} (s : SR σ as) : SR σ (as.set i none) := ⟨by rw [List.length_set]; exact s.1, fun j x h => by
  rw [List.getElem?_set] at h
  split at h
  · split at h
    · cases h
    · cases h
  · exact s.2 j x h⟩
theorem SR.put {i : Nat} {x : A} (s : SR σ as) : SR (σ.set i (some x.val)) (as.set i (some x)) := ⟨by rw [List.length_set, List.length_set]; exact s.1, fun j y h => by
  rw [List.getElem?_set] at h ⊢
  split at h
  · rename_i e
    rw [if_pos e]
    split at h
    · rename_i hl
      have e2 : x = y := by simpa using h
      rw [if_pos (by rw [← s.1]; exact hl), e2]
    · cases h
  · rename_i e
    rw [if_neg e]
    exact s.2 j y h⟩
/-- a slot's tree changed, its value the same -/
theorem SR.chg {i : Nat} {x y : A} (s : SR σ as) (h : as[i]? = some (some x)) (e : y.val = x.val) : SR σ (as.set i (some y)) := ⟨by rw [List.length_set]; exact s.1, fun j z hz => by
  rw [List.getElem?_set] at hz
  split at hz
  · rename_i e1
    subst e1
    split at hz
    · have e2 : y = z := by simpa using hz
      rw [← e2, e]
      exact s.2 _ x h
    · cases hz
  · exact s.2 j z hz⟩
theorem SR.lt {i : Nat} {x : A} (h : as[i]? = some (some x)) : i < as.length := (List.getElem?_eq_some_iff.mp h).1

/-- a subtree of a slot is frozen in place -/
theorem G.freezeAt {i : Nat} {x y : A} {p : List Nat} (g : G c n B H (live as ++ T)) (h : as[i]? = some (some x)) (hp : x.sub p = some y) :
    ∃ B', Same B B' ∧ G c n B' H (live (as.set i (some (x.put p (.fl y.val y.er.dat)))) ++ .fl y.val y.er.dat :: T) ∧ RepD c B' y.er.dat y.val := by
  obtain ⟨R, p1, p2⟩ := A.put_at (c := c) hp
  obtain ⟨q1, q2⟩ := p2 (.fl y.val y.er.dat) rfl
  have hx := g.lf x (List.mem_append_left _ ((live_get h).mem_iff.mpr List.mem_cons_self))
  have perm1 : (objsL c (live as ++ T)).Perm (y.objs c ++ (R ++ objsL c (live (as.set i none) ++ T))) := by
    have z := objsL_perm (c := c) (List.Perm.append_right T (live_get h))
    refine z.trans ?_
    show (x.objs c ++ objsL c (live (as.set i none) ++ T)).Perm _
    refine (List.Perm.append_right _ p1).trans ?_
    rw [List.append_assoc]
  have perm2 : (objsL c (live (as.set i (some (x.put p (.fl y.val y.er.dat)))) ++ .fl y.val y.er.dat :: T)).Perm (R ++ objsL c (live (as.set i none) ++ T)) := by
    have z := objsL_perm (c := c) ((List.perm_middle (a := A.fl y.val y.er.dat) (l₁ := live (as.set i (some (x.put p (.fl y.val y.er.dat))))) (l₂ := T)).trans (List.Perm.cons _ (List.Perm.append_right T (live_set (SR.lt h)))))
    refine z.trans ?_
    show (((A.fl y.val y.er.dat).objs c) ++ ((x.put p (.fl y.val y.er.dat)).objs c ++ objsL c (live (as.set i none) ++ T))).Perm _
    exact List.Perm.append_right _ q2
  refine Gd.freezeG g (A.sub_ok hx hp) perm1 perm2 fun B' s r z hz => ?_
  rcases List.mem_append.mp hz with hz | hz
  · rcases List.mem_cons.mp ((live_set (SR.lt h)).mem_iff.mp hz) with e | hz
    · rw [e]
      exact A.put_ok (A.ok.mono s hx) r
    · exact A.ok.mono s (g.lf z (List.mem_append_left _ ((live_get h).mem_iff.mpr (List.mem_cons_of_mem _ hz))))
  · rcases List.mem_cons.mp hz with e | hz
    · rw [e]
      exact r
    · exact A.ok.mono s (g.lf z (List.mem_append_right _ hz))
/-- a whole slot is made known for good -/
theorem G.freezeS {i : Nat} {x : A} (g : G c n B H (live as ++ T)) (h : as[i]? = some (some x)) :
    ∃ B', Same B B' ∧ G c n B' H (live (as.set i (some (.fl x.val x.er.dat))) ++ T) ∧ ∀ p ∈ x.objs c, B' p.1 = some p.2 := by
  have hx := g.lf x (List.mem_append_left _ ((live_get h).mem_iff.mpr List.mem_cons_self))
  have perm1 : (objsL c (live as ++ T)).Perm (x.objs c ++ objsL c (live (as.set i none) ++ T)) := objsL_perm (c := c) (List.Perm.append_right T (live_get h))
  have perm2 : (objsL c (live (as.set i (some (.fl x.val x.er.dat))) ++ T)).Perm (objsL c (live (as.set i none) ++ T)) := by
    have z := objsL_perm (c := c) (List.Perm.append_right T (live_set (x := .fl x.val x.er.dat) (SR.lt h)))
    exact z
  obtain ⟨B', s1, g1, _, o1⟩ := Gd.freezeG2 g hx perm1 perm2 fun B' s r z hz => by
    rcases List.mem_append.mp hz with hz | hz
    · rcases List.mem_cons.mp ((live_set (SR.lt h)).mem_iff.mp hz) with e | hz
      · rw [e]
        exact r
      · exact A.ok.mono s (g.lf z (List.mem_append_left _ ((live_get h).mem_iff.mpr (List.mem_cons_of_mem _ hz))))
    · exact A.ok.mono s (g.lf z (List.mem_append_right _ hz))
  exact ⟨B', s1, g1, o1⟩
/-- an owned container at a place is written: its children from cs to cs', the extra trees M used up -/
theorem G.writeAt {i : Nat} {x : A} {p : List Nat} {a : Addr} {dx dx' : Gh} {k k' : Kd} {cs cs' : List A} {M : List A} {X : List (Addr × HO)} (g : G c n B H (live as ++ (M ++ T))) (h : as[i]? = some (some x)) (hp : x.sub p = some (.nd a dx k cs))
    (hx : k.xtr a dx = k'.xtr a dx') (hf : k'.fits cs'.length) (hc : (objsL c (cs ++ M)).Perm (objsL c cs' ++ X)) (hok : (∀ z ∈ cs ++ M, z.ok c B) → ∀ z ∈ cs', z.ok c B) :
    G c n B (upd H a (k'.ho c dx' (vals cs'))) (live (as.set i (some (x.put p (.nd a dx' k' cs')))) ++ T) := by
  obtain ⟨R, p1, p2⟩ := A.put_at (c := c) hp
  obtain ⟨q1, q2⟩ := p2 (.nd a dx' k' cs') rfl
  have hxo := g.lf x (List.mem_append_left _ ((live_get h).mem_iff.mpr List.mem_cons_self))
  have hno := A.sub_ok hxo hp
  have sw : ∀ u v w : List (Addr × HO), (u ++ (v ++ w)).Perm (v ++ (u ++ w)) := fun u v w => by
    rw [← List.append_assoc, ← List.append_assoc]
    exact List.Perm.append_right _ List.perm_append_comm
  have perm1 : (objsL c (live as ++ (M ++ T))).Perm ((a, k.ho c dx (vals cs)) :: (k.xtr a dx ++ (objsL c cs' ++ (R ++ objsL c (live (as.set i none) ++ T)))) ++ X) := by
    have z := objsL_perm (c := c) (List.Perm.append_right (M ++ T) (live_get h))
    refine z.trans ?_
    show (x.objs c ++ objsL c (live (as.set i none) ++ (M ++ T))).Perm _
    refine (List.Perm.append_right _ p1).trans ?_
    have e1 : objsL c (live (as.set i none) ++ (M ++ T)) = objsL c (live (as.set i none)) ++ (objsL c M ++ objsL c T) := by rw [objsL_append, objsL_append]
    rw [e1]
    have e2 : objsL c (live (as.set i none) ++ T) = objsL c (live (as.set i none)) ++ objsL c T := objsL_append _ _ _
    rw [e2]
    show (((a, k.ho c dx (vals cs)) :: (k.xtr a dx ++ objsL c cs)) ++ R ++ (objsL c (live (as.set i none)) ++ (objsL c M ++ objsL c T))).Perm _
    rw [objsL_append] at hc
    simp only [List.cons_append, List.append_assoc]
    refine List.Perm.cons _ (List.Perm.append_left _ ?_)
    -- cs ++ R ++ (l ++ (M ++ T))  ~  cs' ++ (R ++ (l ++ (T ++ X)))
    have s1 : (objsL c cs ++ (R ++ (objsL c (live (as.set i none)) ++ (objsL c M ++ objsL c T)))).Perm ((objsL c cs ++ objsL c M) ++ (R ++ (objsL c (live (as.set i none)) ++ objsL c T))) := by
      rw [List.append_assoc]
      refine List.Perm.append_left _ ?_
      refine ((List.Perm.append_left R (sw _ _ _)).trans (sw _ _ _))
    refine s1.trans ((List.Perm.append_right _ hc).trans ?_)
    rw [List.append_assoc]
    refine List.Perm.append_left _ ?_
    refine List.perm_append_comm.trans ?_
    simp only [List.append_assoc]
    exact List.Perm.refl _
  have perm2 : (objsL c (live (as.set i (some (x.put p (.nd a dx' k' cs')))) ++ T)).Perm ((a, k'.ho c dx' (vals cs')) :: (k.xtr a dx ++ (objsL c cs' ++ (R ++ objsL c (live (as.set i none) ++ T))))) := by
    have z := objsL_perm (c := c) (List.Perm.append_right T (live_set (x := x.put p (.nd a dx' k' cs')) (SR.lt h)))
    refine z.trans ?_
    show ((x.put p (.nd a dx' k' cs')).objs c ++ objsL c (live (as.set i none) ++ T)).Perm _
    refine (List.Perm.append_right _ q2).trans ?_
    show (((a, k'.ho c dx' (vals cs')) :: (k'.xtr a dx' ++ objsL c cs')) ++ R ++ objsL c (live (as.set i none) ++ T)).Perm _
    rw [← hx]
    simp only [List.cons_append, List.append_assoc]
    exact List.Perm.refl _
  refine Gd.write g perm1 perm2 fun z hz => ?_
  rcases List.mem_append.mp hz with hz | hz
  · rcases List.mem_cons.mp ((live_set (SR.lt h)).mem_iff.mp hz) with e | hz
    · rw [e]
      refine A.put_ok hxo ⟨hf, okL_iff.mpr (hok fun z hz => ?_)⟩
      rcases List.mem_append.mp hz with hz | hz
      · exact okL_iff.mp hno.2 z hz
      · exact g.lf z (List.mem_append_right _ (List.mem_append_left _ hz))
    · exact g.lf z (List.mem_append_left _ ((live_get h).mem_iff.mpr (List.mem_cons_of_mem _ hz)))
  · exact g.lf z (List.mem_append_right _ (List.mem_append_right _ hz))
end
end Vx
end

section
set_option maxHeartbeats 4000000
/-! Vx 5: what stands at a place. -/
namespace Vx
open PySem L2
def AtD (c : Gx) (B : Hp) : List Nat → D → V → V → D → Prop
  | [], d, v, v', d' => v' = v ∧ d' = d
  | j :: p, d, v, v', d' => ∃ k ds a vs dj vj, d = .nd k ds ∧ v = .ref a ∧ k.fits ds.length ∧ k.rd c B a vs ∧ RepDs c B ds vs ∧ ds[j]? = some dj ∧ vs[j]? = some vj ∧ AtD c B p dj vj v' d'
def A.at (c : Gx) (B : Hp) : List Nat → A → V → W → Prop
  | [], x, v, w => v = x.val ∧ w = x.er
  | j :: p, x, v, w => (∃ a dx k cs y, x = .nd a dx k cs ∧ cs[j]? = some y ∧ A.at c B p y v w) ∨ (∃ v0 d d', x = .fl v0 d ∧ w = .fl d' ∧ AtD c B (j :: p) d v0 v d')
section
variable {c : Gx} {n : En} {B B' H : Hp} {T : List A} {as : Sl} {σ : St}
theorem RepDs.at {ds : List D} {vs : List V} {j : Nat} {d : D} {v : V} (h : RepDs c B ds vs) (e1 : ds[j]? = some d) (e2 : vs[j]? = some v) : RepD c B d v := by
  obtain ⟨u, q1, q2⟩ := RepDs.get h e1
  rw [e2] at q1
  cases q1
  exact q2
theorem AtD.rep : ∀ {p : List Nat} {d : D} {v v' : V} {d' : D}, RepD c B d v → AtD c B p d v v' d' → RepD c B d' v'
  | [], d, v, v', d', h, ⟨e1, e2⟩ => by
    rw [e1, e2]
    exact h
  | j :: p, d, v, v', d', h, ⟨k, ds, a, vs, dj, vj, e0, e1, h2, h3, h4, h5, h6, h7⟩ => AtD.rep (RepDs.at h4 h5 h6) h7
theorem D.get_nil {d : D} : d.get [] = some d := by
  cases d <;> rfl
theorem AtD.get : ∀ {p : List Nat} {d : D} {v v' : V} {d' : D}, AtD c B p d v v' d' → d.get p = some d'
  | [], d, v, v', d', ⟨e1, e2⟩ => by
    rw [e2]
    exact D.get_nil
  | j :: p, d, v, v', d', ⟨k, ds, a, vs, dj, vj, e0, e1, h2, h3, h4, h5, h6, h7⟩ => by
    subst e0
    show (ds[j]?).bind _ = _
    rw [h5]
    exact AtD.get h7
theorem AtD.mono (s : Same B B') : ∀ {p : List Nat} {d : D} {v v' : V} {d' : D}, AtD c B p d v v' d' → AtD c B' p d v v' d'
  | [], d, v, v', d', q => q
  | j :: p, d, v, v', d', ⟨k, ds, a, vs, dj, vj, e0, e1, h2, h3, h4, h5, h6, h7⟩ => ⟨k, ds, a, vs, dj, vj, e0, e1, h2, Kd.rd_mono s h3, RepDs.mono s h4, h5, h6, AtD.mono s h7⟩
theorem AtD.snoc {v' u : V} {k : Kd} {ds : List D} {a : Addr} {vs : List V} {j : Nat} {e : D} (e1 : v' = .ref a) (h2 : k.fits ds.length) (h3 : k.rd c B a vs) (h4 : RepDs c B ds vs) (h5 : ds[j]? = some e) (h6 : vs[j]? = some u) :
    ∀ {p : List Nat} {d : D} {v : V}, AtD c B p d v v' (.nd k ds) → AtD c B (p ++ [j]) d v u e
  | [], d, v, ⟨q1, q2⟩ => by
    subst q1
    subst q2
    exact ⟨k, ds, a, vs, e, u, rfl, e1, h2, h3, h4, h5, h6, rfl, rfl⟩
  | i :: p, d, v, ⟨k0, ds0, a0, vs0, dj, vj, g0, g1, g2, g3, g4, g5, g6, g7⟩ => by
    have ih := AtD.snoc e1 h2 h3 h4 h5 h6 g7
    exact ⟨k0, ds0, a0, vs0, dj, vj, g0, g1, g2, g3, g4, g5, g6, ih⟩

theorem A.at_nil {x : A} : A.at c B [] x x.val x.er := ⟨rfl, rfl⟩
theorem W.get_nil {w : W} : w.get [] = some w := by
  cases w <;> rfl
theorem A.at_get : ∀ {p : List Nat} {x : A} {v : V} {w : W}, A.at c B p x v w → x.er.get p = some w
  | [], x, v, w, ⟨e1, e2⟩ => by
    rw [e2]
    exact W.get_nil
  | j :: p, x, v, w, .inr ⟨v0, d, d', e0, e, q⟩ => by
    subst e0
    show (d.get (j :: p)).map W.fl = some w
    rw [AtD.get q, e]
    rfl
  | j :: p, x, v, w, .inl ⟨a, dx, k, cs, y, e0, e, q⟩ => by
    subst e0
    rw [A.er_nd]
    show ((cs.map A.er)[j]?).bind _ = _
    rw [List.getElem?_map, e]
    exact A.at_get q
theorem A.at_mono (s : Same B B') : ∀ {p : List Nat} {x : A} {v : V} {w : W}, A.at c B p x v w → A.at c B' p x v w
  | [], x, v, w, q => q
  | j :: p, x, v, w, .inr ⟨v0, d, d', e0, e, q⟩ => .inr ⟨v0, d, d', e0, e, AtD.mono s q⟩
  | j :: p, x, v, w, .inl ⟨a, dx, k, cs, y, e0, e, q⟩ => .inl ⟨a, dx, k, cs, y, e0, e, A.at_mono s q⟩
/-- an owned node -/
theorem A.at_sub {k : Kd} {ws : List W} : ∀ {p : List Nat} {x : A} {v : V}, A.at c B p x v (.nd k ws) → ∃ a dx cs, x.sub p = some (.nd a dx k cs) ∧ cs.map A.er = ws ∧ v = .ref a
  | [], x, v, ⟨e1, e2⟩ => by
    cases x with
    | fl v0 d => cases e2
    | nd a dx k' cs =>
      rw [A.er_nd] at e2
      injection e2 with e3 e4
      subst e3
      exact ⟨a, dx, cs, rfl, e4.symm, e1⟩
  | j :: p, x, v, .inr ⟨v0, d, d', e0, e, q⟩ => by cases e
  | j :: p, x, v, .inl ⟨a, dx, k0, cs, y, e0, e, q⟩ => by
    obtain ⟨a', dx', cs', h1, h2, h3⟩ := A.at_sub q
    subst e0
    refine ⟨a', dx', cs', ?_, h2, h3⟩
    show (cs[j]?).bind _ = _
    rw [e]
    exact h1
/-- known data -/
theorem A.at_rep {d : D} : ∀ {p : List Nat} {x : A} {v : V}, x.ok c B → A.at c B p x v (.fl d) → RepD c B d v
  | [], x, v, h, ⟨e1, e2⟩ => by
    cases x with
    | fl v0 d0 =>
      have e3 : d = d0 := W.fl.inj e2
      rw [e1, e3]
      exact h
    | nd a dx k cs =>
      rw [A.er_nd] at e2
      cases e2
  | j :: p, x, v, h, .inr ⟨v0, d0, d', e0, e, q⟩ => by
    subst e0
    have e3 : d = d' := W.fl.inj e
    rw [e3]
    exact AtD.rep (show RepD c B d0 v0 from h) q
  | j :: p, x, v, h, .inl ⟨a, dx, k, cs, y, e0, e, q⟩ => by
    subst e0
    exact A.at_rep (okL_get h.2 e) q
theorem A.at_snoc_nd {a : Addr} {dx : Gh} {k : Kd} {cs : List A} {j : Nat} {y : A} (e : cs[j]? = some y) : ∀ {p : List Nat} {x : A}, x.sub p = some (.nd a dx k cs) → A.at c B (p ++ [j]) x y.val y.er
  | [], x, h => by
    have e1 : x = .nd a dx k cs := by simpa [A.sub] using h
    exact .inl ⟨a, dx, k, cs, y, e1, e, rfl, rfl⟩
  | i :: p, .fl v0 d, h => by simp [A.sub] at h
  | i :: p, .nd a0 dx0 k0 cs0, h => by
    cases e0 : cs0[i]? with
    | none => simp [A.sub, e0] at h
    | some z =>
      have ih := A.at_snoc_nd e (p := p) (x := z) (by simpa [A.sub, e0] using h)
      exact .inl ⟨a0, dx0, k0, cs0, z, rfl, e0, ih⟩
theorem A.at_snoc_fl {v u : V} {k : Kd} {ds : List D} {a : Addr} {vs : List V} {j : Nat} {e : D} (e1 : v = .ref a) (h2 : k.fits ds.length) (h3 : k.rd c B a vs) (h4 : RepDs c B ds vs) (h5 : ds[j]? = some e) (h6 : vs[j]? = some u) :
    ∀ {p : List Nat} {x : A}, A.at c B p x v (.fl (.nd k ds)) → A.at c B (p ++ [j]) x u (.fl e)
  | [], x, ⟨q1, q2⟩ => by
    cases x with
    | fl v0 d0 =>
      have e3 : D.nd k ds = d0 := W.fl.inj q2
      have e4 : v = v0 := q1
      exact .inr ⟨v0, d0, e, rfl, rfl, k, ds, a, vs, e, u, e3.symm, e4.symm.trans e1, h2, h3, h4, h5, h6, rfl, rfl⟩
    | nd a0 dx k0 cs =>
      rw [A.er_nd] at q2
      cases q2
  | i :: p, x, .inr ⟨v0, d0, d', e0, g, q⟩ => by
    have g' : D.nd k ds = d' := W.fl.inj g
    subst g'
    have ih := AtD.snoc e1 h2 h3 h4 h5 h6 q
    exact .inr ⟨v0, d0, e, e0, rfl, ih⟩
  | i :: p, x, .inl ⟨a0, dx0, k0, cs0, y, e0, g, q⟩ => by
    have ih := A.at_snoc_fl e1 h2 h3 h4 h5 h6 q
    exact .inl ⟨a0, dx0, k0, cs0, y, e0, g, ih⟩

/-- a place in the slots -/
def PAt (c : Gx) (B : Hp) (as : Sl) (q : Nat × List Nat) (v : V) (w : W) : Prop := ∃ x, as[q.1]? = some (some x) ∧ A.at c B q.2 x v w
theorem PAt.get {q : Nat × List Nat} {v : V} {w : W} (h : PAt c B as q v w) : eget (ers as) q = some w := by
  obtain ⟨x, h1, h2⟩ := h
  unfold eget
  rw [ers_get, h1]
  exact A.at_get h2
theorem PAt.mono {q : Nat × List Nat} {v : V} {w : W} (h : PAt c B as q v w) (s : Same B B') {as' : Sl} (e : as'[q.1]? = as[q.1]?) : PAt c B' as' q v w := by
  obtain ⟨x, h1, h2⟩ := h
  exact ⟨x, e.trans h1, A.at_mono s h2⟩
theorem live_mem {i : Nat} {x : A} (h : as[i]? = some (some x)) : x ∈ live as := (live_get h).mem_iff.mpr List.mem_cons_self
theorem sub_objs : ∀ {p : List Nat} {x y : A}, x.sub p = some y → ∀ q ∈ y.objs c, q ∈ x.objs c := fun {p x y} h q hq => by
  obtain ⟨R, h1, _⟩ := A.put_at (c := c) h
  exact h1.mem_iff.mpr (List.mem_append_left _ hq)
theorem mem_objsL {x : A} {L : List A} (hx : x ∈ L) {q : Addr × HO} (hq : q ∈ x.objs c) : q ∈ objsL c L := by
  induction L with
  | nil => cases hx
  | cons y L ih =>
    rcases List.mem_cons.mp hx with rfl | hx
    · exact List.mem_append_left _ hq
    · exact List.mem_append_right _ (ih hx)
/-- what the container at a place holds -/
theorem PAt.kids {q : Nat × List Nat} {v : V} {w : W} {k : Kd} {m : Nat} (g : G c n B H (live as ++ T)) (h : PAt c B as q v w) (hk : w.kids = some (k, m)) :
    ∃ a vs, v = .ref a ∧ k.rd c H a vs ∧ vs.length = m ∧ k.fits m ∧ ∀ j, j < m → ∃ u z, vs[j]? = some u ∧ PAt c B as (q.1, q.2 ++ [j]) u z := by
  obtain ⟨x, h1, h2⟩ := h
  have hxm : x ∈ live as ++ T := List.mem_append_left _ (live_mem h1)
  cases w with
  | fl d =>
    cases d with
    | nd k' ds =>
      have e : k' = k ∧ ds.length = m := by
        have e0 : (some (k', ds.length) : Option (Kd × Nat)) = some (k, m) := hk
        injection e0 with e0
        injection e0 with e1 e2
        exact ⟨e1, e2⟩
      obtain ⟨rfl, rfl⟩ := e
      obtain ⟨a, vs, e1, e2, e3, e4⟩ := A.at_rep (g.lf x hxm) h2
      refine ⟨a, vs, e1, Kd.rd_mono g.sub e3, (RepDs.len e4).symm, e2, fun j hj => ?_⟩
      have hj2 : j < vs.length := by rw [← RepDs.len e4]; exact hj
      exact ⟨vs[j], .fl ds[j], by simp [hj2], x, h1, A.at_snoc_fl e1 e2 e3 e4 (by simp [hj]) (by simp [hj2]) h2⟩
    | _ => cases hk
  | nd k' ws =>
    obtain ⟨a, dx, cs, s1, s2, s3⟩ := A.at_sub h2
    have e : k' = k ∧ ws.length = m := by
      have e0 : (some (k', ws.length) : Option (Kd × Nat)) = some (k, m) := hk
      injection e0 with e0
      injection e0 with e1 e2
      exact ⟨e1, e2⟩
    obtain ⟨rfl, rfl⟩ := e
    have hl : cs.length = ws.length := by rw [← s2, List.length_map]
    have hno := A.sub_ok (g.lf x hxm) s1
    refine ⟨a, vals cs, s3, Kd.rd_of (dx := dx) (g.hold (a, k'.ho c dx (vals cs)) (mem_objsL hxm (sub_objs s1 _ List.mem_cons_self))).1, by simp [hl], by rw [← hl]; exact hno.1, fun j hj => ?_⟩
    have hj2 : j < cs.length := by rw [hl]; exact hj
    exact ⟨cs[j].val, cs[j].er, by simp [hj2], x, h1, A.at_snoc_nd (by simp [hj2]) s1⟩

/-- an operand as it is to be used: known data, or an owned container of known things -/
def OV (c : Gx) (B H : Hp) (w : W) (v : V) : Prop := RepD c H w.dat v ∧ (∀ d, w = .fl d → RepD c B d v) ∧ (∀ k ds, w.shal = some (k, ds) → ∃ a vs, v = .ref a ∧ k.fits ds.length ∧ k.rd c H a vs ∧ RepDs c B ds vs)
theorem OV.fl {d : D} {v : V} (s : Same B H) (r : RepD c B d v) : OV c B H (.fl d) v := by
  refine ⟨RepD.mono s r, fun d' e => ?_, fun k ds e => ?_⟩
  · rw [← W.fl.inj e]
    exact r
  · cases d with
    | nd k' cs =>
      have e' : (some (k', cs) : Option (Kd × List D)) = some (k, ds) := e
      injection e' with e'
      injection e' with e1 e2
      subst e1
      subst e2
      obtain ⟨a, vs, h1, h2, h3, h4⟩ := r
      exact ⟨a, vs, h1, h2, Kd.rd_mono s h3, h4⟩
    | _ => cases e
theorem fl_reps : ∀ {cs : List A}, okL c B cs → (cs.map A.er).all W.isFl = true → RepDs c B ((cs.map A.er).map W.unfl) (vals cs)
  | [], _, _ => rfl
  | x :: cs, ⟨h1, h2⟩, h => by
    have h' : (x.er.isFl && (cs.map A.er).all W.isFl) = true := h
    obtain ⟨a1, a2⟩ := Bool.and_eq_true_iff.mp h'
    cases x with
    | fl v d => exact ⟨v, vals cs, rfl, h1, fl_reps h2 a2⟩
    | nd a dx k ys =>
      rw [A.er_nd] at a1
      cases a1
theorem PAt.ov {q : Nat × List Nat} {v : V} {w : W} (g : G c n B H (live as ++ T)) (h : PAt c B as q v w) : OV c B H w v := by
  obtain ⟨x, h1, h2⟩ := h
  have hxm : x ∈ live as ++ T := List.mem_append_left _ (live_mem h1)
  cases w with
  | fl d => exact OV.fl g.sub (A.at_rep (g.lf x hxm) h2)
  | nd k ws =>
    obtain ⟨a, dx, cs, s1, s2, s3⟩ := A.at_sub h2
    have hno := A.sub_ok (g.lf x hxm) s1
    have hh : ∀ p ∈ (A.nd a dx k cs).objs c, H p.1 = some p.2 := fun p hp => (g.hold p (mem_objsL hxm (sub_objs s1 p hp))).1
    have vw := A.view (x := .nd a dx k cs) hno g.sub hh
    have e1 : (A.nd a dx k cs).er = .nd k ws := by rw [A.er_nd, s2]
    rw [e1] at vw
    have vw2 : RepD c H (W.nd k ws).dat v := by
      rw [s3]
      exact vw
    have nofl : ∀ d : D, W.nd k ws = W.fl d → RepD c B d v := fun d e => W.noConfusion e
    refine And.intro vw2 (And.intro nofl fun k' ds e => ?_)
    have e' : (if ws.all W.isFl then some (k, ws.map W.unfl) else none) = some (k', ds) := e
    by_cases ha : ws.all W.isFl = true
    · rw [if_pos ha] at e'
      injection e' with e'
      injection e' with e2 e3
      subst e2
      subst e3
      refine ⟨a, vals cs, s3, ?_, Kd.rd_of (dx := dx) (hh (a, k.ho c dx (vals cs)) List.mem_cons_self), ?_⟩
      · rw [← s2, List.length_map, List.length_map]
        exact hno.1
      · rw [← s2]
        exact fl_reps hno.2 (by rw [s2]; exact ha)
    · rw [if_neg ha] at e'
      cases e'
end
end Vx
end

section
set_option maxHeartbeats 4000000
/-! Vx 6: operators: what the rules of the hand layer give. -/
namespace Vx
open PySem L2 PyProof.Rows
def OVs (c : Gx) (B H : Hp) : List W → List V → Prop
  | [], vs => vs = []
  | w :: ws, vs => ∃ v vr, vs = v :: vr ∧ OV c B H w v ∧ OVs c B H ws vr
/-- what follows a result -/
def Fin (c : Gx) (B H : Hp) (w : W) (Q : VK) : Prop := match w with
  | .fl d => ∀ v, RepD c B d v → Q v H
  | .nd k cs => ∀ p vs, H p = none → (k = .lst ∨ k = .tup ∨ (∃ ks, k = .dK ks) ∨ ∃ ks, k = .dT ks) → cs.all W.isFl = true → k.fits vs.length → RepDs c B (cs.map W.unfl) vs → Q (.ref p) (upd H p (k.ho c 0 vs))
/-- the reading of an operator -/
def rS (c : Gx) (o : Rop) : List V → Hp → VK → Prop := fun vs H Q => ∃ ws w B, Same B H ∧ OVs c B H ws vs ∧ o.run ws = some w ∧ Fin c B H w Q

section
variable {c : Gx} {B H : Hp} {vs : List V} {ws : List W} {w : W}
theorem OV.int {i : Int} {v : V} (h : OV c B H (.fl (.int i)) v) : v = .int i := h.1
theorem OV.str {i : Str} {v : V} (h : OV c B H (.fl (.str i)) v) : v = .str i := h.1
theorem OV.bl {i : Bool} {v : V} (h : OV c B H (.fl (.bl i)) v) : v = .bl i := h.1
theorem int?_inv {x : W} {i : Int} (h : x.int? = some i) : x = .fl (.int i) := by
  cases x with
  | fl d => cases d with
    | int j =>
      have e : j = i := Option.some.inj h
      rw [e]
    | _ => cases h
  | nd k cs => cases h
theorem str?_inv {x : W} {i : Str} (h : x.str? = some i) : x = .fl (.str i) := by
  cases x with
  | fl d => cases d with
    | str j =>
      have e : j = i := Option.some.inj h
      rw [e]
    | _ => cases h
  | nd k cs => cases h
theorem bl?_inv {x : W} {i : Bool} (h : x.bl? = some i) : x = .fl (.bl i) := by
  cases x with
  | fl d => cases d with
    | bl j =>
      have e : j = i := Option.some.inj h
      rw [e]
    | _ => cases h
  | nd k cs => cases h
theorem on1_inv {f : W → Option W} (h : on1 f ws = some w) : ∃ x, ws = [x] ∧ f x = some w := by
  match ws, h with
  | [x], h => exact ⟨x, rfl, h⟩
theorem on2_inv {f : W → W → Option W} (h : on2 f ws = some w) : ∃ x y, ws = [x, y] ∧ f x y = some w := by
  match ws, h with
  | [x, y], h => exact ⟨x, y, rfl, h⟩
theorem on3_inv {f : W → W → W → Option W} (h : on3 f ws = some w) : ∃ x y z, ws = [x, y, z] ∧ f x y z = some w := by
  match ws, h with
  | [x, y, z], h => exact ⟨x, y, z, rfl, h⟩
theorem on2I_inv {f : Int → Int → Option W} (h : on2I f ws = some w) : ∃ i j, ws = [.fl (.int i), .fl (.int j)] ∧ f i j = some w := by
  unfold on2I at h
  split at h
  · exact ⟨_, _, rfl, h⟩
  · cases h
theorem OVs.one {x : W} (h : OVs c B H [x] vs) : ∃ v, vs = [v] ∧ OV c B H x v := by
  obtain ⟨v, vr, e, h1, h2⟩ := h
  have e2 : vr = [] := h2
  subst e2
  exact ⟨v, e, h1⟩
theorem OVs.two {x y : W} (h : OVs c B H [x, y] vs) : ∃ v u, vs = [v, u] ∧ OV c B H x v ∧ OV c B H y u := by
  obtain ⟨v, vr, e, h1, h2⟩ := h
  obtain ⟨u, e2, h3⟩ := OVs.one h2
  subst e2
  exact ⟨v, u, e, h1, h3⟩
theorem OVs.three {x y z : W} (h : OVs c B H [x, y, z] vs) : ∃ v u t, vs = [v, u, t] ∧ OV c B H x v ∧ OV c B H y u ∧ OV c B H z t := by
  obtain ⟨v, vr, e, h1, h2⟩ := h
  obtain ⟨u, t, e2, h3, h4⟩ := OVs.two h2
  subst e2
  exact ⟨v, u, t, e, h1, h3, h4⟩
theorem pI_fin {i : Int} {Q : VK} (e : pI i = some w) (q : Fin c B H w Q) : Q (.int i) H := by
  have e' : W.fl (.int i) = w := Option.some.inj e
  subst e'
  exact q _ rfl
theorem pB_fin {i : Bool} {Q : VK} (e : pB i = some w) (q : Fin c B H w Q) : Q (.bl i) H := by
  have e' : W.fl (.bl i) = w := Option.some.inj e
  subst e'
  exact q _ rfl
theorem map_fl (ds : List D) : (ds.map W.fl).all W.isFl = true ∧ (ds.map W.fl).map W.unfl = ds := by
  constructor
  · simp [W.isFl]
  · rw [List.map_map]
    refine (List.map_congr_left (g := id) fun d _ => rfl).trans (List.map_id _)
theorem newL_fin {ds : List D} {us : List V} {Q : VK} (e : some (newL ds) = some w) (q : Fin c B H w Q) (r : RepDs c B ds us) {p : Addr} (hp : H p = none) : Q (.ref p) (upd H p (.lst us)) := by
  have e' : newL ds = w := Option.some.inj e
  subst e'
  have q' : ∀ p vs, H p = none → (Kd.lst = .lst ∨ Kd.lst = .tup ∨ (∃ ks, Kd.lst = .dK ks) ∨ ∃ ks, Kd.lst = .dT ks) → (ds.map W.fl).all W.isFl = true → Kd.fits vs.length .lst → RepDs c B ((ds.map W.fl).map W.unfl) vs → Q (.ref p) (upd H p (.lst vs)) := q
  exact q' p us hp (.inl rfl) (map_fl ds).1 trivial (by rw [(map_fl ds).2]; exact r)
theorem newT_fin {ds : List D} {us : List V} {Q : VK} (e : some (newT ds) = some w) (q : Fin c B H w Q) (r : RepDs c B ds us) {p : Addr} (hp : H p = none) : Q (.ref p) (upd H p (.tup us)) := by
  have e' : newT ds = w := Option.some.inj e
  subst e'
  have q' : ∀ p vs, H p = none → (Kd.tup = .lst ∨ Kd.tup = .tup ∨ (∃ ks, Kd.tup = .dK ks) ∨ ∃ ks, Kd.tup = .dT ks) → (ds.map W.fl).all W.isFl = true → Kd.fits vs.length .tup → RepDs c B ((ds.map W.fl).map W.unfl) vs → Q (.ref p) (upd H p (.tup vs)) := q
  exact q' p us hp (.inr (.inl rfl)) (map_fl ds).1 trivial (by rw [(map_fl ds).2]; exact r)
theorem newD_fin {kvs : List (Key × D)} {us : List V} {Q : VK} (e : some (newD kvs) = some w) (q : Fin c B H w Q) (r : RepDs c B (kvs.map (·.2)) us) {p : Addr} (hp : H p = none) : Q (.ref p) (upd H p (.dK ((kvs.map (·.1)).zip us))) := by
  have e' : newD kvs = w := Option.some.inj e
  subst e'
  have em : (kvs.map fun p => W.fl p.2) = (kvs.map (·.2)).map W.fl := by rw [List.map_map]; rfl
  have q' : ∀ p vs, H p = none → (Kd.dK (kvs.map (·.1)) = .lst ∨ Kd.dK (kvs.map (·.1)) = .tup ∨ (∃ ks, Kd.dK (kvs.map (·.1)) = .dK ks) ∨ ∃ ks, Kd.dK (kvs.map (·.1)) = .dT ks) → (kvs.map fun p => W.fl p.2).all W.isFl = true → Kd.fits vs.length (.dK (kvs.map (·.1))) → RepDs c B ((kvs.map fun p => W.fl p.2).map W.unfl) vs → Q (.ref p) (upd H p (.dK ((kvs.map (·.1)).zip vs))) := q
  refine q' p us hp (.inr (.inr (.inl ⟨_, rfl⟩))) (by rw [em]; exact (map_fl _).1) ?_ (by rw [em, (map_fl _).2]; exact r)
  show (kvs.map (·.1)).length = us.length
  rw [← r.len, List.length_map, List.length_map]
/-- a copy of a dict's items under the same keys -/
theorem newC_fin {k : Kd} {ds : List D} {us : List V} {Q : VK} (e : some (W.nd k (ds.map .fl)) = some w) (hk : (∃ ks, k = .dK ks) ∨ ∃ ks, k = .dT ks) (hf : k.fits us.length) (q : Fin c B H w Q) (r : RepDs c B ds us) {p : Addr} (hp : H p = none) : Q (.ref p) (upd H p (k.ho c 0 us)) := by
  have e' := Option.some.inj e
  subst e'
  have q' : ∀ p vs, H p = none → (k = .lst ∨ k = .tup ∨ (∃ ks, k = .dK ks) ∨ ∃ ks, k = .dT ks) → (ds.map W.fl).all W.isFl = true → k.fits vs.length → RepDs c B ((ds.map W.fl).map W.unfl) vs → Q (.ref p) (upd H p (k.ho c 0 vs)) := q
  exact q' p us hp (.inr (.inr hk)) (map_fl ds).1 hf (by rw [(map_fl ds).2]; exact r)
theorem pairs_rep : ∀ {ds : List D} {kvs : List (Key × D)} {us : List V}, pairsD ds = some kvs → RepDs c B ds us → ∃ (ps : List Addr) (vs : List V), us = ps.map V.ref ∧ RepDs c B (kvs.map (·.2)) vs ∧ Paired (fun p (kv : Key × V) => B p = some (.tup [kV kv.1, kv.2])) ps ((kvs.map (·.1)).zip vs)
  | [], kvs, us, h, r => by
    have h' := Option.some.inj h
    subst h'
    have r' : us = [] := r
    subst r'
    exact ⟨[], [], rfl, rfl, .nil⟩
  | .nd .tup [k, v] :: ds, kvs, us, h, r => by
    obtain ⟨u, ur, e1, r1, r2⟩ := r
    subst e1
    have h' : (match k.key, pairsD ds with
      | some x, some l => some ((x, v) :: l)
      | _, _ => none) = some kvs := h
    split at h'
    · rename_i x l ek el
      have h' := Option.some.inj h'
      subst h'
      obtain ⟨ps, vs, a1, a2, a3⟩ := pairs_rep el r2
      obtain ⟨a, ws, b1, b2, b3, b4⟩ := r1
      obtain ⟨kv, wr, c1, c2, c3⟩ := b4
      obtain ⟨vv, wr2, d1, d2, d3⟩ := c3
      have d3' : wr2 = [] := d3
      subst d3' d1 c1 b1 a1
      have ekv : kv = kV x := by
        cases k with
        | int i =>
          have : (Sum.inl i : Key) = x := Option.some.inj ek
          rw [← this]
          exact c2
        | str i =>
          have : (Sum.inr i : Key) = x := Option.some.inj ek
          rw [← this]
          exact c2
        | non => cases ek
        | bl _ => cases ek
        | nd _ _ => cases ek
      refine ⟨a :: ps, vv :: vs, rfl, ⟨vv, vs, rfl, d2, a2⟩, .cons ?_ a3⟩
      have b3' : B a = some (.tup [kv, vv]) := b3
      rw [ekv] at b3'
      exact b3'
    · cases h'
  | .non :: _, _, _, h, _ => by cases h
  | .bl _ :: _, _, _, h, _ => by cases h
  | .int _ :: _, _, _, h, _ => by cases h
  | .str _ :: _, _, _, h, _ => by cases h
  | .nd .tup [] :: _, _, _, h, _ => by cases h
  | .nd .tup [_] :: _, _, _, h, _ => by cases h
  | .nd .tup (_ :: _ :: _ :: _) :: _, _, _, h, _ => by cases h
  | .nd .lst _ :: _, _, _, h, _ => by cases h
  | .nd (.dK _) _ :: _, _, _, h, _ => by cases h
  | .nd (.dT _) _ :: _, _, _, h, _ => by cases h
  | .nd (.ins _ _) _ :: _, _, _, h, _ => by cases h
theorem prd_mono {α β : Type} {P Q : α → β → Prop} (h : ∀ a b, P a b → Q a b) : ∀ {as : List α} {bs : List β}, Paired P as bs → Paired Q as bs
  | _, _, .nil => .nil
  | _, _, .cons a b => .cons (h _ _ a) (prd_mono h b)

theorem mergeK_nd : ∀ {kvs acc : List (Key × V)}, ((acc ++ kvs).map Prod.fst).Nodup → mergeK acc kvs = acc ++ kvs
  | [], acc, _ => by
    show acc = acc ++ []
    rw [List.append_nil]
  | p :: kvs, acc, h => by
    show mergeK (putK acc p.1 p.2) kvs = _
    have hn : valV acc p.1 = none := by
      cases e : valV acc p.1 with
      | none => rfl
      | some v =>
        have := valV_in e
        rw [List.map_append, List.map_cons] at h
        exact ((List.nodup_append.mp h).2.2 _ this _ List.mem_cons_self rfl).elim
    rw [putK_new _ hn, mergeK_nd (by simpa using h)]
    simp
theorem lstD_inv {x : W} {ds : List D} (h : x.lstD = some ds) : x.shal = some (.lst, ds) := by
  unfold W.lstD at h
  split at h
  · rename_i ds' e
    have : ds' = ds := Option.some.inj h
    rw [e, this]
  · cases h
theorem tupD_inv {x : W} {ds : List D} (h : x.tupD = some ds) : x.shal = some (.tup, ds) := by
  unfold W.tupD at h
  split at h
  · rename_i ds' e
    have : ds' = ds := Option.some.inj h
    rw [e, this]
  · cases h
theorem seqD_inv {x : W} {ds : List D} (h : x.seqD = some ds) : x.shal = some (.lst, ds) ∨ x.shal = some (.tup, ds) := by
  unfold W.seqD at h
  split at h
  · rename_i ds' e
    have : ds' = ds := Option.some.inj h
    rw [e, this]
    exact .inl rfl
  · rename_i ds' e
    have : ds' = ds := Option.some.inj h
    rw [e, this]
    exact .inr rfl
  · cases h
theorem OV.lst {x : W} {ds : List D} {v : V} (h : OV c B H x v) (e : x.lstD = some ds) : ∃ a us, v = .ref a ∧ H a = some (.lst us) ∧ RepDs c B ds us := by
  obtain ⟨a, us, e1, _, e2, e3⟩ := h.2.2 _ _ (lstD_inv e)
  exact ⟨a, us, e1, e2, e3⟩
theorem OV.tup {x : W} {ds : List D} {v : V} (h : OV c B H x v) (e : x.tupD = some ds) : ∃ a us, v = .ref a ∧ H a = some (.tup us) ∧ RepDs c B ds us := by
  obtain ⟨a, us, e1, _, e2, e3⟩ := h.2.2 _ _ (tupD_inv e)
  exact ⟨a, us, e1, e2, e3⟩
theorem OV.seq {x : W} {ds : List D} {v : V} (h : OV c B H x v) (e : x.seqD = some ds) : ∃ a us, v = .ref a ∧ (H a = some (.lst us) ∨ H a = some (.tup us)) ∧ RepDs c B ds us := by
  rcases seqD_inv e with e | e
  · obtain ⟨a, us, e1, _, e2, e3⟩ := h.2.2 _ _ e
    exact ⟨a, us, e1, .inl e2, e3⟩
  · obtain ⟨a, us, e1, _, e2, e3⟩ := h.2.2 _ _ e
    exact ⟨a, us, e1, .inr e2, e3⟩
theorem small_le {n : Nat} (h : small n = true) : n ≤ 100000 := of_decide_eq_true h
theorem small_sz {n : Nat} (h : small n = true) : n ≤ sizeLine := Nat.le_trans (small_le h) (by decide)
theorem small_lt {n : Nat} (h : small n = true) : n < sizeLine := Nat.lt_of_le_of_lt (small_le h) (by decide)
theorem bindI {α : Type} {x : Option α} {f : α → Option W} (h : x.bind f = some w) : ∃ a, x = some a ∧ f a = some w := Option.bind_eq_some_iff.mp h

/-! lists of ints, texts, bools -/
theorem reps_ints : ∀ {ds : List D} {ns : List Int} {us : List V}, dInts ds = some ns → RepDs c B ds us → us = ns.map V.int
  | [], ns, us, h, r => by
    have e : [] = ns := Option.some.inj h
    subst e
    exact r
  | .int i :: ds, ns, us, h, ⟨v, vr, e, r1, r2⟩ => by
    have h' : (dInts ds).map (i :: ·) = some ns := h
    obtain ⟨ms, e1, e2⟩ := Option.map_eq_some_iff.mp h'
    have e3 : v = .int i := r1
    rw [e, e3, ← e2, reps_ints e1 r2]
    rfl
  | .non :: _, _, _, h, _ => by cases h
  | .bl _ :: _, _, _, h, _ => by cases h
  | .str _ :: _, _, _, h, _ => by cases h
  | .nd _ _ :: _, _, _, h, _ => by cases h
theorem reps_strs : ∀ {ds : List D} {ns : List Str} {us : List V}, dStrs ds = some ns → RepDs c B ds us → us = ns.map V.str
  | [], ns, us, h, r => by
    have e : [] = ns := Option.some.inj h
    subst e
    exact r
  | .str i :: ds, ns, us, h, ⟨v, vr, e, r1, r2⟩ => by
    have h' : (dStrs ds).map (i :: ·) = some ns := h
    obtain ⟨ms, e1, e2⟩ := Option.map_eq_some_iff.mp h'
    have e3 : v = .str i := r1
    rw [e, e3, ← e2, reps_strs e1 r2]
    rfl
  | .non :: _, _, _, h, _ => by cases h
  | .bl _ :: _, _, _, h, _ => by cases h
  | .int _ :: _, _, _, h, _ => by cases h
  | .nd _ _ :: _, _, _, h, _ => by cases h
theorem reps_bls : ∀ {ds : List D} {ns : List Bool} {us : List V}, dBls ds = some ns → RepDs c B ds us → us = ns.map V.bl
  | [], ns, us, h, r => by
    have e : [] = ns := Option.some.inj h
    subst e
    exact r
  | .bl i :: ds, ns, us, h, ⟨v, vr, e, r1, r2⟩ => by
    have h' : (dBls ds).map (i :: ·) = some ns := h
    obtain ⟨ms, e1, e2⟩ := Option.map_eq_some_iff.mp h'
    have e3 : v = .bl i := r1
    rw [e, e3, ← e2, reps_bls e1 r2]
    rfl
  | .non :: _, _, _, h, _ => by cases h
  | .str _ :: _, _, _, h, _ => by cases h
  | .int _ :: _, _, _, h, _ => by cases h
  | .nd _ _ :: _, _, _, h, _ => by cases h
theorem foldl_min_le : ∀ (xs : List Int) (x : Int), xs.foldl min x ≤ x ∧ ∀ y ∈ xs, xs.foldl min x ≤ y
  | [], x => ⟨Int.le_refl _, fun y hy => by cases hy⟩
  | z :: xs, x => by
    obtain ⟨h1, h2⟩ := foldl_min_le xs (min x z)
    refine ⟨Int.le_trans h1 (Int.min_le_left _ _), fun y hy => ?_⟩
    rcases List.mem_cons.mp hy with e | hy
    · rw [e]
      exact Int.le_trans h1 (Int.min_le_right _ _)
    · exact h2 y hy
theorem foldl_min_mem : ∀ (xs : List Int) (x : Int), xs.foldl min x = x ∨ xs.foldl min x ∈ xs
  | [], x => .inl rfl
  | z :: xs, x => by
    rcases foldl_min_mem xs (min x z) with h | h
    · rcases (by omega : min x z = x ∨ min x z = z) with e | e
      · exact .inl (h.trans e)
      · exact .inr (List.mem_cons.mpr (.inl (h.trans e)))
    · exact .inr (List.mem_cons_of_mem _ h)
theorem foldl_max_le : ∀ (xs : List Int) (x : Int), x ≤ xs.foldl max x ∧ ∀ y ∈ xs, y ≤ xs.foldl max x
  | [], x => ⟨Int.le_refl _, fun y hy => by cases hy⟩
  | z :: xs, x => by
    obtain ⟨h1, h2⟩ := foldl_max_le xs (max x z)
    refine ⟨Int.le_trans (Int.le_max_left _ _) h1, fun y hy => ?_⟩
    rcases List.mem_cons.mp hy with e | hy
    · rw [e]
      exact Int.le_trans (Int.le_max_right _ _) h1
    · exact h2 y hy
theorem foldl_max_mem : ∀ (xs : List Int) (x : Int), xs.foldl max x = x ∨ xs.foldl max x ∈ xs
  | [], x => .inl rfl
  | z :: xs, x => by
    rcases foldl_max_mem xs (max x z) with h | h
    · rcases (by omega : max x z = x ∨ max x z = z) with e | e
      · exact .inl (h.trans e)
      · exact .inr (List.mem_cons.mpr (.inl (h.trans e)))
    · exact .inr (List.mem_cons_of_mem _ h)
theorem leastI_eq {ns : List Int} {n m : Int} (h : leastI ns = some n) (hm : m ∈ ns) (hl : ∀ y, y ∈ ns → m ≤ y) : m = n := by
  cases ns with
  | nil => cases h
  | cons x xs =>
    have e : xs.foldl min x = n := Option.some.inj h
    obtain ⟨h1, h2⟩ := foldl_min_le xs x
    have a : n ≤ m := by
      rcases List.mem_cons.mp hm with q | q
      · rw [q, ← e]
        exact h1
      · rw [← e]
        exact h2 m q
    have b : m ≤ n := by
      rcases foldl_min_mem xs x with q | q
      · rw [← e, q]
        exact hl x List.mem_cons_self
      · rw [← e]
        exact hl _ (List.mem_cons_of_mem _ q)
    omega
theorem mostI_eq {ns : List Int} {n m : Int} (h : mostI ns = some n) (hm : m ∈ ns) (hl : ∀ y, y ∈ ns → y ≤ m) : m = n := by
  cases ns with
  | nil => cases h
  | cons x xs =>
    have e : xs.foldl max x = n := Option.some.inj h
    obtain ⟨h1, h2⟩ := foldl_max_le xs x
    have a : m ≤ n := by
      rcases List.mem_cons.mp hm with q | q
      · rw [q, ← e]
        exact h1
      · rw [← e]
        exact h2 m q
    have b : n ≤ m := by
      rcases foldl_max_mem xs x with q | q
      · rw [← e, q]
        exact hl x List.mem_cons_self
      · rw [← e]
        exact hl _ (List.mem_cons_of_mem _ q)
    omega
/-! == of data -/
mutual
theorem RepD.dp : ∀ {d : D} {p : PyData} {v : V}, d.py = some p → RepD c H d v → Dp c.K H v p
  | .non, p, v, h, r => by
    have e : PyData.none = p := Option.some.inj h
    have e2 : v = .non := r
    rw [← e, e2]
    exact .non
  | .bl b, p, v, h, r => by
    have e : PyData.bool b = p := Option.some.inj h
    have e2 : v = .bl b := r
    rw [← e, e2]
    exact .bl b
  | .int b, p, v, h, r => by
    have e : PyData.int b = p := Option.some.inj h
    have e2 : v = .int b := r
    rw [← e, e2]
    exact .int b
  | .str b, p, v, h, r => by
    have e : PyData.str b = p := Option.some.inj h
    have e2 : v = .str b := r
    rw [← e, e2]
    exact .str b
  | .nd .lst cs, p, v, h, ⟨a, vs, e1, _, e2, e3⟩ => by
    have h' : (D.pys cs).map PyData.list = some p := h
    obtain ⟨ps, q1, q2⟩ := Option.map_eq_some_iff.mp h'
    rw [e1, ← q2]
    exact .lst (.inl (.inl e2)) (RepDs.dp q1 e3)
  | .nd .tup cs, p, v, h, ⟨a, vs, e1, _, e2, e3⟩ => by
    have h' : (D.pys cs).map PyData.tuple = some p := h
    obtain ⟨ps, q1, q2⟩ := Option.map_eq_some_iff.mp h'
    rw [e1, ← q2]
    exact .tup (.inl (.inl e2)) (RepDs.dp q1 e3)
  | .nd (.dK _) _, _, _, h, _ => by cases h
  | .nd (.dT _) _, _, _, h, _ => by cases h
  | .nd (.ins _ _) _, _, _, h, _ => by cases h
theorem RepDs.dp : ∀ {ds : List D} {ps : List PyData} {vs : List V}, D.pys ds = some ps → RepDs c H ds vs → DpAll c.K H vs ps
  | [], ps, vs, h, r => by
    have e : [] = ps := Option.some.inj h
    have e2 : vs = [] := r
    rw [← e, e2]
    exact .nil
  | d :: ds, ps, vs, h, ⟨v, vr, e, r1, r2⟩ => by
    have h' : (match d.py, D.pys ds with
      | some p, some q => some (p :: q)
      | _, _ => none) = some ps := h
    cases h1 : d.py with
    | none =>
      rw [h1] at h'
      cases h'
    | some p =>
      cases h2 : D.pys ds with
      | none =>
        rw [h1, h2] at h'
        cases h'
      | some q =>
        rw [h1, h2] at h'
        have e2 : p :: q = ps := Option.some.inj h'
        rw [e, ← e2]
        exact .cons (RepD.dp h1 r1) (RepDs.dp h2 r2)
end
theorem flat_rep {d : D} {v : V} (hf : d.flat = true) (r : RepD c H d v) : v = d.v := by
  cases d with
  | nd k cs => cases hf
  | _ => exact r
theorem flat?_inv {x : W} {d : D} (h : x.flat? = some d) : x = .fl d ∧ d.flat = true := by
  cases x with
  | fl e => cases e with
    | nd k cs => cases h
    | _ =>
      have e2 := Option.some.inj h
      subst e2
      exact ⟨rfl, rfl⟩
  | nd k cs => cases h
theorem OV.flat {x : W} {d : D} {v : V} (h : OV c B H x v) (e : x.flat? = some d) : v = d.v := by
  obtain ⟨e1, e2⟩ := flat?_inv e
  subst e1
  exact flat_rep e2 h.1
theorem OV.isNon {x : W} {v : V} (h : OV c B H x v) : decide (v = .non) = x.isNon := by
  cases x with
  | nd k cs =>
    obtain ⟨a, vs, e, _⟩ := h.1
    rw [e]
    rfl
  | fl d =>
    have r := h.1
    cases d with
    | non =>
      have e : v = .non := r
      rw [e]
      rfl
    | bl b =>
      have e : v = .bl b := r
      rw [e]
      rfl
    | int b =>
      have e : v = .int b := r
      rw [e]
      rfl
    | str b =>
      have e : v = .str b := r
      rw [e]
      rfl
    | nd k cs =>
      obtain ⟨a, vs, e, _⟩ := r
      rw [e]
      rfl
theorem reps_flat : ∀ {ds : List D} {us : List V}, (ds.all fun d => d.flat && flatV d.v) = true → RepDs c B ds us → us = ds.map D.v ∧ us.all flatV = true
  | [], us, _, r => by
    have e : us = [] := r
    rw [e]
    exact ⟨rfl, rfl⟩
  | d :: ds, us, h, ⟨v, vr, e, r1, r2⟩ => by
    have h' : ((d.flat && flatV d.v) && ds.all fun d => d.flat && flatV d.v) = true := h
    obtain ⟨a1, a2⟩ := Bool.and_eq_true_iff.mp h'
    obtain ⟨a3, a4⟩ := Bool.and_eq_true_iff.mp a1
    obtain ⟨q1, q2⟩ := reps_flat a2 r2
    have e2 := flat_rep a3 r1
    rw [e, e2]
    refine ⟨by rw [q1]; rfl, ?_⟩
    show (flatV d.v && vr.all flatV) = true
    rw [a4, q2]
    rfl
end
end Vx
end

section
set_option maxHeartbeats 4000000
/-! Vx 7: the operators' texts and their rules. -/
namespace Vx
open PySem L2 PyProof.Rows
/-- an expression of a form that may stand anywhere -/
def okE : Expr → Bool
  | .BoolOp _ _ _ => true
  | .BinOp _ _ _ _ => true
  | .UnaryOp _ _ _ => true
  | .IfExp _ _ _ _ => true
  | .Dict _ _ _ => true
  | .ListComp _ _ _ _ => true
  | .Compare _ _ _ _ => true
  | .Call _ _ _ _ => true
  | .Constant _ _ _ => true
  | .Attribute _ _ _ => true
  | .Subscript _ _ _ => true
  | .Name _ _ => true
  | .List _ _ => true
  | .Tuple _ _ _ => true
  | _ => false
/-- .. not a bare call f() (super()) -/
def okO : Expr → Bool
  | .Name _ _ => true
  | .Attribute _ _ _ => true
  | .Subscript _ _ _ => true
  | .Constant _ _ _ => true
  | _ => false
theorem star_ok {e : Expr} {es : List Expr} {env : PySem.Env} (h : okE e = true) : starEach (e :: es) env = (false, eval e env) :: starEach es env := by
  cases e <;> first | rfl | cases h
theorem star_any : ∀ {es : List Expr} {pos : Pos} {env : PySem.Env}, es.all okE = true → (backTo pos (starEach es env)).any (·.1) = false
  | [], _, _, _ => rfl
  | e :: es, pos, env, h => by
    have h' : (okE e && es.all okE) = true := h
    obtain ⟨h1, h2⟩ := Bool.and_eq_true_iff.mp h'
    rw [star_ok h1]
    show (false || (backTo pos (starEach es env)).any (·.1)) = false
    rw [star_any h2]
    rfl
theorem mark_ok {op : CmpOp} {e : Expr} (h : okE e = true) : behindInMarks op e = false := by
  cases e <;> first | rfl | cases h
theorem base_ok {o : Expr} {a : Str} {env : PySem.Env} (h : okO o = true) : attributeBase o a env (eval o env) = eval o env := by
  cases o <;> first | rfl | cases h
theorem fold_ok {e : Expr} {env : PySem.Env} (h : okE e = true) (x : Value) : foldedSetIterable e env x = pure x := by
  cases e <;> first | rfl | cases h
theorem ixT_ok {e : Expr} (h : okE e = true) : PlainIxT e := by
  cases e <;> first | (intro _ _; rfl) | cases h
theorem ix_ok {e : Expr} (h : okE e = true) : PlainIx e := by
  cases e <;> first | (intro _ _; rfl) | cases h
theorem noSl_ok {e : Expr} (h : okE e = true) : NoSl e := by
  cases e <;> first | (intro _ _; rfl) | cases h
/-- a plain value's test -/
def okT : Expr → Bool
  | .Call _ _ _ _ => true
  | .Constant _ _ _ => true
  | .Attribute _ _ _ => true
  | .Subscript _ _ _ => true
  | .Name _ _ => true
  | _ => false
theorem test_ok {e : Expr} {env : PySem.Env} (h : okT e = true) : ∀ whole, isTrue e env whole = (do let v ← whole; standAt e.pos; holding [v] (truthy v)) := by
  cases e <;> first | (intro _; rfl) | cases h
/-- no comprehension -/
def noLc : Expr → Bool
  | .ListComp _ _ _ _ => false
  | _ => true
theorem sw_ok {e : Expr} {t : Option Expr} {l : Nat} {env : PySem.Env} (h : okE e = true) (h2 : noLc e = true) : swapsWith e t l env = pure false := by
  cases e <;> first | rfl | (cases h; done) | (cases h2; done)
def noTup : Expr → Bool
  | .Tuple _ _ _ => false
  | _ => true
theorem sws_ok {e : Expr} {ts : List Expr} {env : PySem.Env} (h : noTup e = true) : swappedStores ts e env = pure none := by
  unfold swappedStores
  cases e <;> first | (cases h; done) | (cases ts with
    | nil => rfl
    | cons t r => cases r with
      | nil => cases t <;> rfl
      | cons t2 r2 => cases t <;> rfl)

/-- a global def: its name, its number, the places of its in-outs -/
structure Fn where
  name : Str
  id : Nat
  io : List Nat
  ar : Nat
  /-- read only: lent and handed back as they are -/
  ro : List Nat := []
  /-- a method of the class of that number -/
  cl : Option Nat := none
/-- an own class: its number, its name, the fields that its instances may have; may it be made -/
structure Kls where
  ci : Nat
  name : Str
  flds : List Str
  mkb : Bool
/-- what stands of a def's text -/
structure Ck where
  N : List Str
  sc : Scope
  fns : List Fn
  /-- the module's constants -/
  cons : List (Str × D)
  /-- the classes -/
  clss : List Kls := []
  /-- the module's tuples of texts -/
  tups : List (Str × List Str) := []
  /-- may cells be bound here -/
  cel : Str → Bool := fun _ => true
def Ck.bi (k : Ck) (x : Str) : Bool := decide (k.sc.names.lookup x = some .globalImplicit)

/-- built-in names that the text leaves alone -/
def bNames : List Str := ["len", "int", "min", "max", "sum", "all", "any", "list", "tuple", "sorted", "isinstance", "range", "zip", "enumerate", "str", "bool", "dict", "set"]

def call1 (k : Ck) (f : Str) : Expr → Option (List Expr)
  | .Call (.Name x _) [a] [] _ => if x = f ∧ k.bi f = true ∧ okE a = true then some [a] else none
  | _ => none
def call2 (k : Ck) (f : Str) : Expr → Option (List Expr)
  | .Call (.Name x _) [a, b] [] _ => if x = f ∧ k.bi f = true ∧ okE a = true ∧ okE b = true then some [a, b] else none
  | _ => none
def kwd2 (k : Ck) (f kw : Str) : Expr → Option (List Expr)
  | .Call (.Name x _) [a] [⟨some y, b, _⟩] _ => if x = f ∧ k.bi f = true ∧ y = kw ∧ okE a = true then some [a, b] else none
  | _ => none
def sset1 (k : Ck) : Expr → Option (List Expr)
  | .Call (.Name x _) [.Call (.Name y _) [a] [] _] [] _ => if x = "sorted" ∧ y = "set" ∧ k.bi "sorted" = true ∧ k.bi "set" = true ∧ okE a = true then some [a] else none
  | _ => none
def bin2 (o : Operator) : Expr → Option (List Expr)
  | .BinOp a p b _ => if p = o then some [a, b] else none
  | _ => none
def cmp2 (o : CmpOp) : Expr → Option (List Expr)
  | .Compare a [p] [b] _ => if p = o ∧ okE b = true then some [a, b] else none
  | _ => none
def sl1 (lo hi : Bool) : Expr → Option (List Expr)
  | .Subscript a (.Slice none none none _) _ => if lo = false ∧ hi = false then some [a] else none
  | .Subscript a (.Slice (some l) none none _) _ => if lo = true ∧ hi = false then some [a, l] else none
  | .Subscript a (.Slice none (some h) none _) _ => if lo = false ∧ hi = true then some [a, h] else none
  | _ => none
def neg1 : Expr → Option (List Expr)
  | .UnaryOp .USub a _ => some [a]
  | _ => none
def ix2 : Expr → Option (List Expr)
  | .Subscript a b _ => if okE b = true then some [a, b] else none
  | _ => none
def join1 (z : Str) : Expr → Option (List Expr)
  | .Call (.Attribute (.Constant (.str y) _ _) m apos) [a] [] pos => if y = z ∧ m = "join" ∧ okE a = true ∧ (apos.endLine == pos.line) = true then some [a] else none
  | _ => none
def isTy (t : String) : Bool := t == "int" || t == "bool" || t == "str" || t == "list" || t == "tuple" || t == "dict"
def isi1 (k : Ck) (t : String) : Expr → Option (List Expr)
  | .Call (.Name x _) [a, .Name y _] [] _ => if x = "isinstance" ∧ k.bi "isinstance" = true ∧ y = Str.ofString t ∧ k.bi y = true ∧ okE a = true ∧ isTy t = true then some [a] else none
  | _ => none
/-- the operands of an operator's text -/
def Rop.form (k : Ck) : Rop → Expr → Option (List Expr)
  | .add => bin2 .Add | .sub => bin2 .Sub | .mul => bin2 .Mult | .fdiv => bin2 .FloorDiv | .mod => bin2 .Mod | .pow => bin2 .Pow
  | .addS => bin2 .Add | .catL => bin2 .Add | .catT => bin2 .Add
  | .neg => neg1
  | .lt => cmp2 .Lt | .le => cmp2 .LtE | .gt => cmp2 .Gt | .ge => cmp2 .GtE | .eqF => cmp2 .Eq | .neF => cmp2 .NotEq | .eqD => cmp2 .Eq | .neD => cmp2 .NotEq
  | .isN => cmp2 .Is | .notN => cmp2 .IsNot | .ltD => cmp2 .Lt
  | .ltS => cmp2 .Lt | .leS => cmp2 .LtE | .gtS => cmp2 .Gt | .geS => cmp2 .GtE | .inD => cmp2 .In | .niD => cmp2 .NotIn | .isB => cmp2 .Is | .notB => cmp2 .IsNot
  | .inQ => cmp2 .In | .niQ => cmp2 .NotIn | .inS => cmp2 .In | .niS => cmp2 .NotIn | .inK => cmp2 .In | .niK => cmp2 .NotIn
  | .len => call1 k "len" | .intB => call1 k "int" | .min2 => call2 k "min" | .max2 => call2 k "max" | .sum => call1 k "sum" | .min1 => call1 k "min" | .max1 => call1 k "max"
  | .allB => call1 k "all" | .anyB => call1 k "any" | .listOf => call1 k "list" | .tupOf => call1 k "tuple" | .sorted => call1 k "sorted" | .dictOf => call1 k "dict" | .dcp => call1 k "dict" | .keys => call1 k "list" | .minD => kwd2 k "min" "default" | .maxD => kwd2 k "max" "default" | .srtSet => sset1 k
  | .slice lo hi => sl1 lo hi
  | .ixS => ix2
  | .join z => join1 z
  | .isI t => isi1 k t

/-- what a context must have -/
structure XOk (c : Gx) (k : Ck) (X : Cx) : Prop where
  hN : X.N = k.N
  nd : k.N.Nodup
  sc : X.env.scope = k.sc
  calm : X.calm = true
  K : X.K = c.K
  room : Room 0 X.A
  free : ∀ x ∈ bNames, X.mg x = none
  cel : ∀ y, k.cel y = true → X.fn y = true
theorem XOk.gl {c : Gx} {k : Ck} {X : Cx} (x : XOk c k X) {f : Str} (h : k.bi f = true) : Gl X f := by
  show X.env.scope.names.lookup f = _
  rw [x.sc]
  exact of_decide_eq_true h

def PEs (X : Cx) : List Expr → List TE → Prop
  | [], ts => ts = []
  | e :: es, ts => ∃ t tr, ts = t :: tr ∧ PE X e t ∧ PEs X es tr
def tN : List TE → TA
  | [] => tNil
  | t :: ts => tCons t (tN ts)
theorem PEs.one {X : Cx} {a : Expr} {ts : List TE} (h : PEs X [a] ts) : ∃ t, ts = [t] ∧ PE X a t := by
  obtain ⟨t, tr, e, h1, h2⟩ := h
  have e2 : tr = [] := h2
  subst e2
  exact ⟨t, e, h1⟩
theorem PEs.two {X : Cx} {a b : Expr} {ts : List TE} (h : PEs X [a, b] ts) : ∃ t u, ts = [t, u] ∧ PE X a t ∧ PE X b u := by
  obtain ⟨t, tr, e, h1, h2⟩ := h
  obtain ⟨u, e2, h3⟩ := PEs.one h2
  subst e2
  exact ⟨t, u, e, h1, h3⟩
theorem PEs.three {X : Cx} {a b d : Expr} {ts : List TE} (h : PEs X [a, b, d] ts) : ∃ t u v, ts = [t, u, v] ∧ PE X a t ∧ PE X b u ∧ PE X d v := by
  obtain ⟨t, tr, e, h1, h2⟩ := h
  obtain ⟨u, v, e2, h3, h4⟩ := PEs.two h2
  subst e2
  exact ⟨t, u, v, e, h1, h3, h4⟩
theorem PEs.pa {X : Cx} : ∀ {es : List Expr} {ts : List TE}, es.all okE = true → PEs X es ts → PA X es (tN ts)
  | [], ts, _, h => by
    have e : ts = [] := h
    subst e
    exact pa_nil
  | e :: es, ts, ha, ⟨t, tr, e1, h1, h2⟩ => by
    have ha' : (okE e && es.all okE) = true := ha
    obtain ⟨a1, a2⟩ := Bool.and_eq_true_iff.mp ha'
    subst e1
    exact pa_cons h1 (PEs.pa a2 h2) (star_ok a1)

def isCmp : Expr → Bool
  | .Compare _ _ _ _ => true
  | _ => false
/-- an operator's rule -/
def RopOk (c : Gx) (X : Cx) (o : Rop) (e : Expr) (ts : List TE) : Prop :=
  ∃ (t : TE) (r : List V → Hp → VK → Prop), PE X e t ∧ (isCmp e = true → PT X e (tTest t)) ∧ (∀ σ H Q, tN ts σ H (fun vs H1 => r vs H1 Q) → t σ H Q) ∧ ∀ vs H Q, rS c o vs H Q → r vs H Q

section
variable {c : Gx} {k : Ck} {X : Cx} {e : Expr} {es : List Expr} {ts : List TE} {o : Rop}
theorem bin_ok {op : Operator} {r0 : R2} (ho : OpR X (binaryOp op) r0) (hf : bin2 op e = some es) (h : PEs X es ts) (k : ∀ x y H Q, rS c o [x, y] H Q → r0 x y H Q) (hl : ∀ ws w, o.run ws = some w → ∃ x y, ws = [x, y]) : RopOk c X o e ts := by
  unfold bin2 at hf
  split at hf
  · rename_i a p b pos
    split at hf
    · rename_i hp
      subst hp
      have e1 : [a, b] = es := Option.some.inj hf
      subst e1
      obtain ⟨t, u, e2, h1, h2⟩ := h.two
      subst e2
      refine ⟨tOp r0 t u, fun vs H Q => match vs with
        | [x, y] => r0 x y H Q
        | _ => False, pe_op ho h1 h2, (fun z => by cases z), fun σ H Q q => q, fun vs H Q q => ?_⟩
      obtain ⟨ws, w, B, s, ov, run, f⟩ := id q
      obtain ⟨x, y, ew⟩ := hl ws w run
      subst ew
      obtain ⟨v, u, ev, _, _⟩ := ov.two
      subst ev
      exact k v u H Q q
    · cases hf
  · cases hf
theorem cmp_ok {op : CmpOp} {r0 : R2} (ho : OpR X (compareOp op) r0) (hf : cmp2 op e = some es) (h : PEs X es ts) (k : ∀ x y H Q, rS c o [x, y] H Q → r0 x y H Q) (hl : ∀ ws w, o.run ws = some w → ∃ x y, ws = [x, y]) : RopOk c X o e ts := by
  unfold cmp2 at hf
  split at hf
  · rename_i a p b pos
    split at hf
    · rename_i hp
      obtain ⟨hp, ok⟩ := hp
      subst hp
      have e1 : [a, b] = es := Option.some.inj hf
      subst e1
      obtain ⟨t, u, e2, h1, h2⟩ := h.two
      subst e2
      refine ⟨tOp r0 t u, fun vs H Q => match vs with
        | [x, y] => r0 x y H Q
        | _ => False, pe_cmpR ho h1 h2 (mark_ok ok), (fun _ => pt_cmpR ho h1 h2 (mark_ok ok)), fun σ H Q q => q, fun vs H Q q => ?_⟩
      obtain ⟨ws, w, B, s, ov, run, f⟩ := id q
      obtain ⟨x, y, ew⟩ := hl ws w run
      subst ew
      obtain ⟨v, u, ev, _, _⟩ := ov.two
      subst ev
      exact k v u H Q q
    · cases hf
  · cases hf
theorem dict_ok {op : CmpOp} {q0 : Option V → Bool} (ho : ∀ {i d : Expr} {ty td : TE}, PE X i ty → PE X d td → PC X op i d (fun σ H Q => ty σ H fun y H1 => td σ H1 fun x H2 => ∃ a o, x = .ref a ∧ DGet H2 a y o ∧ Q (.bl (q0 o)) H2))
    (hf : cmp2 op e = some es) (h : PEs X es ts) (k : ∀ y x H Q, rS c o [y, x] H Q → ∃ a o, x = .ref a ∧ DGet H a y o ∧ Q (.bl (q0 o)) H) (hl : ∀ ws w, o.run ws = some w → ∃ x y, ws = [x, y]) : RopOk c X o e ts := by
  unfold cmp2 at hf
  split at hf
  · rename_i a p b pos
    split at hf
    · rename_i hp
      obtain ⟨hp, ok⟩ := hp
      subst hp
      have e1 : [a, b] = es := Option.some.inj hf
      subst e1
      obtain ⟨t, u, e2, h1, h2⟩ := h.two
      subst e2
      refine ⟨_, fun vs H Q => match vs with
        | [y, x] => ∃ a o, x = .ref a ∧ DGet H a y o ∧ Q (.bl (q0 o)) H
        | _ => False, pe_cmp (ho h1 h2) (mark_ok ok), (fun _ => pt_cmp (ho h1 h2) (mark_ok ok)), fun σ H Q q => q, fun vs H Q q => ?_⟩
      obtain ⟨ws, w, B, s, ov, run, f⟩ := id q
      obtain ⟨x, y, ew⟩ := hl ws w run
      subst ew
      obtain ⟨v, u, ev, _, _⟩ := ov.two
      subst ev
      exact k v u H Q q
    · cases hf
  · cases hf
theorem callB_ok {f : Str} {id : String} {r0 : List V → Hp → VK → Prop} (x : XOk c k X) (hc : CallR X (.builtin id) r0) (hb : f ∈ bNames) (hv : bootBuiltins f = some (.builtin id)) (hn : f ≠ "__name__") (hdb : (f == ("__debug__" : Str)) = false)
    (hf : call1 k f e = some es) (h : PEs X es ts) (kk : ∀ vs H Q, rS c o vs H Q → r0 vs H Q) : RopOk c X o e ts := by
  unfold call1 at hf
  split at hf
  · rename_i y p a pos
    split at hf
    · rename_i hp
      obtain ⟨hp, hg, ok⟩ := hp
      subst hp
      have e1 : [a] = es := Option.some.inj hf
      subst e1
      obtain ⟨t, e2, h1⟩ := h.one
      subst e2
      exact ⟨tCB r0 (tCons t tNil), r0, pe_callB hc (x.gl hg) (x.free _ hb) hv (pa_cons h1 pa_nil (star_ok ok)) hn hdb (star_ok ok) (star_any (es := []) rfl), (fun z => by cases z), fun σ H Q q => q, kk⟩
    · cases hf
  · cases hf
theorem callB2_ok {f : Str} {id : String} {r0 : List V → Hp → VK → Prop} (x : XOk c k X) (hc : CallR X (.builtin id) r0) (hb : f ∈ bNames) (hv : bootBuiltins f = some (.builtin id)) (hn : f ≠ "__name__") (hdb : (f == ("__debug__" : Str)) = false)
    (hf : call2 k f e = some es) (h : PEs X es ts) (kk : ∀ vs H Q, rS c o vs H Q → r0 vs H Q) : RopOk c X o e ts := by
  unfold call2 at hf
  split at hf
  · rename_i y p a b pos
    split at hf
    · rename_i hp
      obtain ⟨hp, hg, ok1, ok2⟩ := hp
      subst hp
      have e1 : [a, b] = es := Option.some.inj hf
      subst e1
      obtain ⟨t, u, e2, h1, h2⟩ := h.two
      subst e2
      exact ⟨tCB r0 (tCons t (tCons u tNil)), r0, pe_callB hc (x.gl hg) (x.free _ hb) hv (pa_cons h1 (pa_cons h2 pa_nil (star_ok ok2)) (star_ok ok1)) hn hdb (star_ok ok1) (star_any (es := [b]) (by simp [ok2])), (fun z => by cases z), fun σ H Q q => q, kk⟩
    · cases hf
  · cases hf
theorem kwd_ok {f kw : Str} {id : String} {r0 : List V → List V → Hp → VK → Prop} (x : XOk c k X) (hc : CallRK X (.builtin id) [kw] r0) (hb : f ∈ bNames) (hv : bootBuiltins f = some (.builtin id)) (hn : f ≠ "__name__") (hdb : (f == ("__debug__" : Str)) = false)
    (hf : kwd2 k f kw e = some es) (h : PEs X es ts) (kk : ∀ x y H Q, rS c o [x, y] H Q → r0 [x] [y] H Q) (hl : ∀ ws w, o.run ws = some w → ∃ x y, ws = [x, y]) : RopOk c X o e ts := by
  unfold kwd2 at hf
  split at hf
  · rename_i z p a y b kpos pos
    split at hf
    · rename_i hp
      obtain ⟨hp, hg, hy, ok⟩ := hp
      subst hp
      subst hy
      have e1 : [a, b] = es := Option.some.inj hf
      subst e1
      obtain ⟨t, u, e2, h1, h2⟩ := h.two
      subst e2
      refine ⟨tCKw r0 (tCons t tNil) (tCons u tNil), fun vs H Q => match vs with
        | [x, y] => r0 [x] [y] H Q
        | _ => False, pe_callBK hc (x.gl hg) (x.free _ hb) hv (pa_cons h1 pa_nil (star_ok ok)) (pk_cons h2 pk_nil) hn hdb (by rw [star_ok ok]; rfl) (by rw [star_ok ok]; rfl) rfl rfl rfl, (fun z => by cases z), fun σ H Q q => q, fun vs H Q q => ?_⟩
      obtain ⟨ws, w, B, s, ov, run, f⟩ := _root_.id q
      obtain ⟨x, y, ew⟩ := hl ws w run
      subst ew
      obtain ⟨v, u, ev, _, _⟩ := ov.two
      subst ev
      exact kk v u H Q q
    · cases hf
  · cases hf
theorem callTy_ok {f : Str} {T : String} {r0 : List V → Hp → VK → Prop} (x : XOk c k X) (hc : CallR X (.type T) r0) (hb : f ∈ bNames) (hv : bootBuiltins f = some (.type T)) (hn : f ≠ "__name__") (hdb : (f == ("__debug__" : Str)) = false)
    (hf : call1 k f e = some es) (h : PEs X es ts) (kk : ∀ vs H Q, rS c o vs H Q → r0 vs H Q) : RopOk c X o e ts := by
  unfold call1 at hf
  split at hf
  · rename_i y p a pos
    split at hf
    · rename_i hp
      obtain ⟨hp, hg, ok⟩ := hp
      subst hp
      have e1 : [a] = es := Option.some.inj hf
      subst e1
      obtain ⟨t, e2, h1⟩ := h.one
      subst e2
      exact ⟨tCB r0 (tCons t tNil), r0, pe_callTy hc (x.gl hg) (x.free _ hb) hv (pa_cons h1 pa_nil (star_ok ok)) hn hdb (star_ok ok) (star_any (es := []) rfl), (fun z => by cases z), fun σ H Q q => q, kk⟩
    · cases hf
  · cases hf
end
end Vx
end

section
set_option maxHeartbeats 4000000
/-! Vx 8: each operator. -/
namespace Vx
open PySem L2
/-! ### sorted, of any data -/
theorem each_zip : ∀ {us : List Value} {vs : List V} {ds : List D}, Vals vs us → ds.length = vs.length → PySem.W.EachIs (fun (u : Value) (b : D × V) => RelV b.2 u) us (ds.zip vs)
  | [], [], [], .nil, _ => .nil
  | u :: us, v :: vs, d :: ds, .cons r t, l => .cons r (each_zip t (by simpa using l))
theorem each_reads {c : Gx} {X : Cx} {pins : List (Addr × Obj)} {σ : St} {H : Hp} {s : Shared} (hK : X.K = c.K) (I : Inv X pins σ H s) : ∀ {us : List Value} {vs : List V} {ds : List D}, Vals vs us → RepDs c H ds vs → (∀ d ∈ ds, d.py.isSome = true) →
    PySem.W.EachIs (fun (u : Value) (b : D × V) => ∃ as, Reads s.heap u (py0 b.1) as) us (ds.zip vs)
  | [], _, [], .nil, _, _ => .nil
  | [], _, _ :: _, .nil, ⟨_, _, e, _⟩, _ => by cases e
  | u :: us, v :: vs, [], _, r, _ => by
    have e : v :: vs = [] := r
    cases e
  | u :: us, v :: vs, d :: ds, .cons r t, ⟨v', vr, e, r1, r2⟩, h => by
    injection e with e1 e2
    subst e1
    subst e2
    obtain ⟨p, hp⟩ := Option.isSome_iff_exists.mp (h d List.mem_cons_self)
    have dp := RepD.dp hp r1
    rw [← hK] at dp
    have e3 : py0 d = p := by
      unfold py0
      rw [hp]
      rfl
    refine .cons ?_ (each_reads hK I t r2 fun d hd => h d (List.mem_cons_of_mem _ hd))
    show ∃ as, Reads s.heap u (py0 d) as
    rw [e3]
    exact dp.reads I _ _ _ r
theorem each_vals : ∀ {us : List Value} {bs : List (D × V)}, PySem.W.EachIs (fun (u : Value) (b : D × V) => RelV b.2 u) us bs → Vals (bs.map (·.2)) us
  | _, _, .nil => .nil
  | _, _, .cons r t => .cons r (each_vals t)
theorem zip_reps {c : Gx} {B : Hp} : ∀ {ds : List D} {vs : List V}, RepDs c B ds vs → ∀ b ∈ ds.zip vs, RepD c B b.1 b.2
  | [], vs, _, b, hb => by simp at hb
  | d :: ds, _, ⟨v, vr, e, r1, r2⟩, b, hb => by
    subst e
    rcases List.mem_cons.mp (show b ∈ (d, v) :: ds.zip vr from hb) with q | q
    · subst q
      exact r1
    · exact zip_reps r2 b q
theorem reps_of_zip {c : Gx} {B : Hp} : ∀ {bs : List (D × V)}, (∀ b ∈ bs, RepD c B b.1 b.2) → RepDs c B (bs.map (·.1)) (bs.map (·.2))
  | [], _ => rfl
  | b :: bs, h => ⟨b.2, _, rfl, h b List.mem_cons_self, reps_of_zip fun x hx => h x (List.mem_cons_of_mem _ hx)⟩
theorem zip_fst : ∀ {ds : List D} {vs : List V}, ds.length = vs.length → (ds.zip vs).map (·.1) = ds
  | [], [], _ => rfl
  | d :: ds, v :: vs, h => by
    show d :: (ds.zip vs).map (·.1) = d :: ds
    rw [zip_fst (by simpa using h)]
/-- sorted(xs): xs a list of ds that can be compared -/
def rSortD (c : Gx) : List V → Hp → VK → Prop := fun vs H Q => ∃ (a : Addr) (us : List V) (ds : List D) (B : Hp), vs = [.ref a] ∧ H a = some (.lst us) ∧ Same B H ∧ RepDs c B ds us ∧ canSort ds = true ∧
  ∀ p us', H p = none → RepDs c B (ds.mergeSort leD) us' → Q (.ref p) (upd H p (.lst us'))
theorem canSort_facts {ds : List D} (h : canSort ds = true) : (∀ d ∈ ds, d.py.isSome = true) ∧ (∀ d ∈ ds, (py0 d).depth ≤ 60) ∧ PySem.W.AllAlike (ds.map py0) ∧ PySem.W.Sortable (ds.map py0) := by
  unfold canSort at h
  obtain ⟨h12, h3⟩ := Bool.and_eq_true_iff.mp h
  obtain ⟨h1, h2⟩ := Bool.and_eq_true_iff.mp h12
  have a1 : ∀ d ∈ ds, d.py.isSome = true ∧ (py0 d).depth ≤ 60 := fun d hd => by
    have q := List.all_eq_true.mp h1 d hd
    obtain ⟨q1, q2⟩ := Bool.and_eq_true_iff.mp q
    exact ⟨q1, of_decide_eq_true q2⟩
  refine ⟨fun d hd => (a1 d hd).1, fun d hd => (a1 d hd).2, fun p hp q hq => ?_, ?_⟩
  · obtain ⟨d, hd, rfl⟩ := List.mem_map.mp hp
    obtain ⟨e, he, rfl⟩ := List.mem_map.mp hq
    exact List.all_eq_true.mp (List.all_eq_true.mp h2 d hd) e he
  · rcases Bool.or_eq_true_iff.mp h3 with h3 | h3
    · refine .inl fun p hp => ?_
      obtain ⟨d, hd, rfl⟩ := List.mem_map.mp hp
      have q := List.all_eq_true.mp h3 d hd
      obtain ⟨z, hz⟩ := Option.isSome_iff_exists.mp (a1 d hd).1
      have e0 : py0 d = z := by
        unfold py0
        rw [hz]
        rfl
      match d, q, hz with
      | .nd .tup (x :: r), _, hz =>
        have hz' : (D.pys (x :: r)).map PyData.tuple = some z := hz
        obtain ⟨ps, p1, p2⟩ := Option.map_eq_some_iff.mp hz'
        have p1' : (match x.py, D.pys r with
          | some p, some q => some (p :: q)
          | _, _ => none) = some ps := p1
        split at p1'
        · rename_i p q _ _
          have e1 : p :: q = ps := Option.some.inj p1'
          exact ⟨p, q, by rw [e0, ← p2, e1]⟩
        · cases p1'
    · refine .inr fun p hp => ?_
      obtain ⟨d, hd, rfl⟩ := List.mem_map.mp hp
      have q := List.all_eq_true.mp h3 d hd
      have s := (a1 d hd).1
      match d, q, s with
      | .bl b, _, _ => exact ⟨fun z => (by cases z), fun xs z => by cases z⟩
      | .int b, _, _ => exact ⟨fun z => (by cases z), fun xs z => by cases z⟩
      | .str b, _, _ => exact ⟨fun z => (by cases z), fun xs z => by cases z⟩
      | .nd .lst cs, _, s =>
        have s' : ((D.pys cs).map PyData.list).isSome = true := s
        obtain ⟨z, hz⟩ := Option.isSome_iff_exists.mp s'
        obtain ⟨ps, p1, p2⟩ := Option.map_eq_some_iff.mp hz
        have e0 : py0 (.nd .lst cs) = .list ps := by
          show (((D.pys cs).map PyData.list).getD PyData.none) = _
          rw [p1]
          rfl
        rw [e0]
        exact ⟨fun z => (by cases z), fun xs z => by cases z⟩
theorem call_sortD {c : Gx} {X : Cx} (hK : X.K = c.K) (hr : Room 0 X.A) : CallR X (.builtin "sorted") (rSortD c) := by
  intro pins s σ H xs us Q I r h
  obtain ⟨a, ys, ds, B, rfl, ha, sm, rp, cs, q⟩ := h
  obtain rfl := Vals.ref1 r
  obtain ⟨f1, f2, f3, f4⟩ := canSort_facts cs
  obtain ⟨hz, its, n, rv, ho⟩ : ys.length ≤ sizeLine ∧ ∃ (its : List Value) (n : Nat), Vals ys its ∧ s.heap.get? a = some { cls := .type "list", data := .seq its.toArray n } := I.hok a _ ha
  have ll : ds.length = ys.length := rp.len
  have e1 := each_zip rv ll
  have e2 := each_reads hK I rv (RepDs.mono sm rp) f1
  have em : (ds.zip ys).map (fun b : D × V => py0 b.1) = ds.map py0 := by
    rw [← zip_fst ll, List.map_map]
    rw [zip_fst ll]
    rfl
  refine PySem.W.sorted_data (vs := its) (bs := ds.zip ys) (enc := fun b : D × V => py0 b.1) (R := fun (u : Value) (b : D × V) => RelV b.2 u) ⟨_, ho, rfl, n, rfl⟩ e1 e2 (by rw [em]; exact f3) (by rw [em]; exact f4) (by rw [List.length_zip]; omega) (fun b hb => ?_) fun out hl ho2 => ?_
  · have hb1 : b.1 ∈ ds := (List.of_mem_zip (a := b.1) (b := b.2) hb).1
    have := f2 _ hb1
    have := hr.units
    show X.A.units + 2 + (py0 b.1).depth < cLine
    omega
  · have hv := each_vals ho2
    have hf := I.hok.fresh (Nat.le_succ s.heap.objs.size)
    have em2 : ((ds.zip ys).mergeSort (PySem.W.dataLe false fun b : D × V => py0 b.1)).map (·.1) = ds.mergeSort leD := by
      rw [PySem.W.sort_maps (r := PySem.W.dataLe false fun b : D × V => py0 b.1) (s := leD) (fun b : D × V => b.1) fun a _ b _ => rfl]
      rw [zip_fst ll]
    have rp2 : RepDs c B (ds.mergeSort leD) (((ds.zip ys).mergeSort (PySem.W.dataLe false fun b : D × V => py0 b.1)).map (·.2)) := by
      rw [← em2]
      exact reps_of_zip fun b hb => zip_reps rp b ((List.mergeSort_perm _ _).mem_iff.mp hb)
    refine ⟨.ref (s.heap.objs.size + 1), _, I.laid (t' := s.toks) (a := s.heap.objs.size + 1) (o := .lst (((ds.zip ys).mergeSort (PySem.W.dataLe false fun b : D × V => py0 b.1)).map (·.2))) (fun b u e => PyProof.Rows.sortedAll_old e) (Nat.le_succ _) ?_, rfl, q _ _ hf rp2⟩
    obtain ⟨e, he⟩ := PyProof.Rows.sortedAll_at s.heap its (List.toArray out)
    refine ⟨?_, out, e, hv, he⟩
    rw [List.length_map, List.length_mergeSort, List.length_zip]
    omega
end Vx
end

section
set_option maxHeartbeats 4000000
/-! Vx 9: each operator's rule. -/
namespace Vx
open PySem L2
section
variable {c : Gx} {k : Ck} {X : Cx} {e : Expr} {es : List Expr} {ts : List TE} {o : Rop}
theorem mem_insU {n z : Int} : ∀ {ms : List Int}, z ∈ insU n ms ↔ z = n ∨ z ∈ ms
  | [] => by simp [insU]
  | m :: ms => by
    unfold insU
    split
    · simp
    · split
      · rename_i e
        subst e
        simp
      · rw [List.mem_cons, mem_insU, List.mem_cons]
        constructor
        · rintro (h | h | h)
          · exact .inr (.inl h)
          · exact .inl h
          · exact .inr (.inr h)
        · rintro (h | h | h)
          · exact .inr (.inl h)
          · exact .inl h
          · exact .inr (.inr h)
theorem ris_insU {n : Int} : ∀ {ms : List Int}, ms.Pairwise (· < ·) → (insU n ms).Pairwise (· < ·)
  | [], _ => by simp [insU]
  | m :: ms, h => by
    obtain ⟨h1, h2⟩ := List.pairwise_cons.mp h
    unfold insU
    split
    · rename_i l
      refine List.pairwise_cons.mpr ⟨fun z hz => ?_, h⟩
      rcases List.mem_cons.mp hz with e | e
      · rw [e]
        exact l
      · have := h1 z e
        omega
    · split
      · exact h
      · rename_i l1 l2
        refine List.pairwise_cons.mpr ⟨fun z hz => ?_, ris_insU h2⟩
        rcases mem_insU.mp hz with e | e
        · omega
        · exact h1 z e
theorem mem_ssI {z : Int} : ∀ {ns : List Int}, z ∈ ssI ns ↔ z ∈ ns
  | [] => by simp [ssI]
  | n :: ns => by
    show z ∈ insU n (ssI ns) ↔ _
    rw [mem_insU, mem_ssI, List.mem_cons]
theorem ris_ssI : ∀ ns : List Int, (ssI ns).Pairwise (· < ·)
  | [] => List.Pairwise.nil
  | n :: ns => ris_insU (ris_ssI ns)
theorem ssI_uniq {ns ms : List Int} (hs : ms.Pairwise (· < ·)) (hm : ∀ k, k ∈ ms ↔ k ∈ ns) : ssI ns = ms := by
  have r := ris_ssI ns
  have n1 : (ssI ns).Nodup := r.imp fun h => by omega
  have n2 : ms.Nodup := hs.imp fun h => by omega
  refine List.Perm.eq_of_pairwise (le := (· < ·)) (fun a b _ _ h1 h2 => by omega) r hs ((List.perm_ext_iff_of_nodup n1 n2).mpr fun z => ?_)
  rw [mem_ssI, hm]
theorem reps_of_ints {B : Hp} : ∀ ns : List Int, RepDs c B (ns.map D.int) (ns.map V.int)
  | [] => rfl
  | n :: ns => ⟨_, _, rfl, rfl, reps_of_ints ns⟩
theorem two_of2I {f : Int → Int → Option W} : ∀ ws w, on2I f ws = some w → ∃ x y, ws = [x, y] := fun ws w h => by
  obtain ⟨i, j, e, _⟩ := on2I_inv h
  exact ⟨_, _, e⟩
theorem two_of2 {f : W → W → Option W} : ∀ ws w, on2 f ws = some w → ∃ x y, ws = [x, y] := fun ws w h => by
  obtain ⟨i, j, e, _⟩ := on2_inv h
  exact ⟨_, _, e⟩
/-- two ints in -/
theorem rS_2I {f : Int → Int → Option W} {x y : V} {H : Hp} {Q : VK} (hr : o.run = on2I f) (h : rS c o [x, y] H Q) : ∃ i j w B, x = .int i ∧ y = .int j ∧ f i j = some w ∧ Fin c B H w Q := by
  obtain ⟨ws, w, B, s, ov, run, fin⟩ := h
  rw [hr] at run
  obtain ⟨i, j, e, hf⟩ := on2I_inv run
  subst e
  obtain ⟨v, u, ev, h1, h2⟩ := ov.two
  injection ev with e1 e2
  injection e2 with e2 _
  exact ⟨i, j, w, B, e1.trans h1.int, e2.trans h2.int, hf, fin⟩
theorem rS_1 {f : W → Option W} {vs : List V} {H : Hp} {Q : VK} (hr : o.run = on1 f) (h : rS c o vs H Q) : ∃ x v w B, vs = [v] ∧ Same B H ∧ OV c B H x v ∧ f x = some w ∧ Fin c B H w Q := by
  obtain ⟨ws, w, B, s, ov, run, fin⟩ := h
  rw [hr] at run
  obtain ⟨x, e, hf⟩ := on1_inv run
  subst e
  obtain ⟨v, ev, h1⟩ := ov.one
  exact ⟨x, v, w, B, ev, s, h1, hf, fin⟩
theorem rS_2 {f : W → W → Option W} {vs : List V} {H : Hp} {Q : VK} (hr : o.run = on2 f) (h : rS c o vs H Q) : ∃ x y v u w B, vs = [v, u] ∧ Same B H ∧ OV c B H x v ∧ OV c B H y u ∧ f x y = some w ∧ Fin c B H w Q := by
  obtain ⟨ws, w, B, s, ov, run, fin⟩ := h
  rw [hr] at run
  obtain ⟨x, y, e, hf⟩ := on2_inv run
  subst e
  obtain ⟨v, u, ev, h1, h2⟩ := ov.two
  exact ⟨x, y, v, u, w, B, ev, s, h1, h2, hf, fin⟩
theorem rS_3 {f : W → W → W → Option W} {vs : List V} {H : Hp} {Q : VK} (hr : o.run = on3 f) (h : rS c o vs H Q) : ∃ x y z v u t w B, vs = [v, u, t] ∧ Same B H ∧ OV c B H x v ∧ OV c B H y u ∧ OV c B H z t ∧ f x y z = some w ∧ Fin c B H w Q := by
  obtain ⟨ws, w, B, s, ov, run, fin⟩ := h
  rw [hr] at run
  obtain ⟨x, y, z, e, hf⟩ := on3_inv run
  subst e
  obtain ⟨v, u, t, ev, h1, h2, h3⟩ := ov.three
  exact ⟨x, y, z, v, u, t, w, B, ev, s, h1, h2, h3, hf, fin⟩
theorem r2_of {v u x y : V} (ev : [x, y] = [v, u]) : x = v ∧ y = u := by
  injection ev with e1 e2
  injection e2 with e2 _
  exact ⟨e1, e2⟩

theorem i0_ok {g : Int → Int → Int} {x y : V} {H : Hp} {Q : VK} (hr : o.run = on2I fun i j => pI (g i j)) (h : rS c o [x, y] H Q) : rI0 (fun i j => .int (g i j)) x y H Q := by
  obtain ⟨i, j, w, B, e1, e2, hf, fin⟩ := rS_2I hr h
  exact ⟨i, j, e1, e2, pI_fin hf fin⟩
theorem b0_ok {g : Int → Int → Bool} {x y : V} {H : Hp} {Q : VK} (hr : o.run = on2I fun i j => pB (g i j)) (h : rS c o [x, y] H Q) : rI0 (fun i j => .bl (g i j)) x y H Q := by
  obtain ⟨i, j, w, B, e1, e2, hf, fin⟩ := rS_2I hr h
  exact ⟨i, j, e1, e2, pB_fin hf fin⟩
theorem ic_ok {C C' : Int → Int → Prop} [∀ i j, Decidable (C' i j)] (hC : ∀ i j, C' i j → C i j) {g : Int → Int → Int} {x y : V} {H : Hp} {Q : VK} (hr : o.run = on2I fun i j => if C' i j then pI (g i j) else none) (h : rS c o [x, y] H Q) : rI C (fun i j => .int (g i j)) x y H Q := by
  obtain ⟨i, j, w, B, e1, e2, hf, fin⟩ := rS_2I hr h
  by_cases hc : C' i j
  · rw [if_pos hc] at hf
    exact ⟨i, j, e1, e2, hC i j hc, pI_fin hf fin⟩
  · rw [if_neg hc] at hf
    cases hf

theorem lstE {α : Type} {x : Option α} {f : α → Option W} {w : W} (h : x.bind f = some w) : ∃ a, x = some a ∧ f a = some w := Option.bind_eq_some_iff.mp h

theorem lenD_inv {x : W} {n : Int} (h : x.lenD = some n) : (∃ z : Str, x = .fl (.str z) ∧ z.length ≤ 100000 ∧ (z.length : Int) = n) ∨ (∃ ds : List D, x.dat = .nd .lst ds ∧ (ds.length : Int) = n) ∨ (∃ ds : List D, x.dat = .nd .tup ds ∧ (ds.length : Int) = n) ∨ ∃ (k : Kd) (ds : List D), x.dat = .nd k ds ∧ (ds.length : Int) = n ∧ ((∃ ks, k = .dK ks) ∨ (∃ ks, k = .dT ks) ∨ (∃ ks, k = .lK ks) ∨ ∃ ks, k = .lT ks) := by
  cases x with
  | fl d => cases d with
    | str z =>
      have h' : (if z.length ≤ 100000 then some (z.length : Int) else none) = some n := h
      split at h'
      · rename_i hz
        exact .inl ⟨z, rfl, hz, Option.some.inj h'⟩
      · cases h'
    | nd k ds => cases k with
      | lst => exact .inr (.inl ⟨ds, rfl, Option.some.inj h⟩)
      | tup => exact .inr (.inr (.inl ⟨ds, rfl, Option.some.inj h⟩))
      | dK ks => exact .inr (.inr (.inr ⟨_, ds, rfl, Option.some.inj h, .inl ⟨_, rfl⟩⟩))
      | dT ks => exact .inr (.inr (.inr ⟨_, ds, rfl, Option.some.inj h, .inr (.inl ⟨_, rfl⟩)⟩))
      | lK ks => exact .inr (.inr (.inr ⟨_, ds, rfl, Option.some.inj h, .inr (.inr (.inl ⟨_, rfl⟩))⟩))
      | lT ks => exact .inr (.inr (.inr ⟨_, ds, rfl, Option.some.inj h, .inr (.inr (.inr ⟨_, rfl⟩))⟩))
      | ins i fs => cases h
    | _ => cases h
  | nd k cs => cases k with
    | lst => exact .inr (.inl ⟨cs.map W.dat, W.dat_nd _ _, by rw [List.length_map]; exact Option.some.inj h⟩)
    | tup => exact .inr (.inr (.inl ⟨cs.map W.dat, W.dat_nd _ _, by rw [List.length_map]; exact Option.some.inj h⟩))
    | dK ks => exact .inr (.inr (.inr ⟨_, cs.map W.dat, W.dat_nd _ _, by rw [List.length_map]; exact Option.some.inj h, .inl ⟨_, rfl⟩⟩))
    | dT ks => exact .inr (.inr (.inr ⟨_, cs.map W.dat, W.dat_nd _ _, by rw [List.length_map]; exact Option.some.inj h, .inr (.inl ⟨_, rfl⟩)⟩))
    | lK ks => exact .inr (.inr (.inr ⟨_, cs.map W.dat, W.dat_nd _ _, by rw [List.length_map]; exact Option.some.inj h, .inr (.inr (.inl ⟨_, rfl⟩))⟩))
    | lT ks => exact .inr (.inr (.inr ⟨_, cs.map W.dat, W.dat_nd _ _, by rw [List.length_map]; exact Option.some.inj h, .inr (.inr (.inr ⟨_, rfl⟩))⟩))
    | ins i fs => cases h
theorem call_lenR : CallR X (.builtin "len") (fun xs H Q => ∃ a kvs, xs = [V.ref a] ∧ Rd H a (.dK kvs) ∧ Q (.int kvs.length) H) := by
  intro pins s σ H xs us Q I r h
  obtain ⟨a, kvs, rfl, hd, q⟩ := h
  obtain rfl := Vals.ref1 r
  exact d_len I hd fun t s' I' => ⟨.int kvs.length, H, I', ⟨t, rfl⟩, q⟩
theorem look_zip {α : Type} [DecidableEq α] {k : α} : ∀ {ks : List α} {us : List V}, ks.length = us.length → (valV (ks.zip us) k).isSome = (atZ ks k).isSome
  | [], [], _ => rfl
  | a :: ks, u :: us, h => by
    have ih := look_zip (k := k) (ks := ks) (us := us) (by simpa using h)
    by_cases e : a = k
    · have e1 : valV ((a :: ks).zip (u :: us)) k = some u := valV_pos (p := (a, u)) e
      rw [e1]
      show _ = (if a = k then some 0 else (atZ ks k).map (· + 1)).isSome
      rw [if_pos e]
      rfl
    · have e1 : valV ((a :: ks).zip (u :: us)) k = valV (ks.zip us) k := valV_neg (p := (a, u)) e
      rw [e1, ih]
      show _ = (if a = k then some 0 else (atZ ks k).map (· + 1)).isSome
      rw [if_neg e]
      cases atZ ks k <;> rfl
theorem key_rep {B H : Hp} {d : D} {x : Key} {v : V} (h : d.key = some x) (r : RepD c H d v) : v = kV x := by
  cases d with
  | int i =>
    have e : Sum.inl i = x := Option.some.inj h
    rw [← e]
    exact r
  | str i =>
    have e : Sum.inr i = x := Option.some.inj h
    rw [← e]
    exact r
  | _ => cases h
theorem keys_rep {H : Hp} : ∀ {ds : List D} {xs : List Key} {vs : List V}, ds.mapM D.key = some xs → RepDs c H ds vs → vs = xs.map kV
  | [], xs, vs, h, r => by
    have e : [] = xs := by simpa using h
    rw [← e]
    exact r
  | d :: ds, xs, vs, h, ⟨v, vr, e, r1, r2⟩ => by
    rw [List.mapM_cons] at h
    cases h1 : d.key with
    | none =>
      rw [h1] at h
      cases h
    | some k1 =>
      cases h2 : ds.mapM D.key with
      | none =>
        rw [h1, h2] at h
        cases h
      | some k2 =>
        rw [h1, h2] at h
        have e2 : k1 :: k2 = xs := Option.some.inj h
        rw [e, ← e2, key_rep (B := H) h1 r1, keys_rep h2 r2]
        rfl
theorem keyT_rep {H : Hp} {d : D} {x : List Key} {v : V} (h : d.keyT = some x) (r : RepD c H d v) : ∃ b, v = .ref b ∧ H b = some (.tup (x.map kV)) := by
  cases d with
  | nd k ds => cases k with
    | tup =>
      obtain ⟨a, vs, e1, _, e2, e3⟩ := r
      have e4 := keys_rep (show ds.mapM D.key = some x from h) e3
      have e5 : H a = some (.tup vs) := e2
      exact ⟨a, e1, by rw [← e4]; exact e5⟩
    | _ => cases h
  | _ => cases h
theorem inK_rep {H : Hp} {d : D} {w : W} {y x : V} {b : Bool} (h : inK? d w = some b) (ry : RepD c H d y) (rx : RepD c H w.dat x) : ∃ a o, x = .ref a ∧ DGet H a y o ∧ o.isSome = b := by
  have main : ∀ {k : Kd} {n : List D}, w.dat = .nd k n → (match k with
      | .dK ks => d.key.map fun k => (atZ ks k).isSome
      | .dT ks => d.keyT.map fun k => (atZ ks k).isSome
      | .lK ks => d.key.map fun k => (atZ ks k).isSome
      | .lT ks => d.keyT.map fun k => (atZ ks k).isSome
      | _ => none) = some b → ∃ a o, x = .ref a ∧ DGet H a y o ∧ o.isSome = b := by
    intro k n e hh
    rw [e] at rx
    obtain ⟨a, us, e1, f, e2, e3⟩ := rx
    cases k with
    | dK ks =>
      obtain ⟨k1, q1, q2⟩ := Option.map_eq_some_iff.mp hh
      have f' : ks.length = n.length := f
      exact ⟨a, valV (ks.zip us) k1, e1, .inl ⟨ks.zip us, k1, e2, key_rep (B := H) q1 ry, rfl⟩, (look_zip (by rw [f', e3.len])).trans q2⟩
    | dT ks =>
      obtain ⟨k1, q1, q2⟩ := Option.map_eq_some_iff.mp hh
      have f' : ks.length = n.length := f
      obtain ⟨t, t1, t2⟩ := keyT_rep q1 ry
      exact ⟨a, valV (ks.zip us) k1, e1, .inr ⟨ks.zip us, k1, t, e2, t1, t2, rfl⟩, (look_zip (by rw [f', e3.len])).trans q2⟩
    | lK ks =>
      obtain ⟨k1, q1, q2⟩ := Option.map_eq_some_iff.mp hh
      have f' : ks.length = n.length := f
      exact ⟨a, valV (ks.zip us) k1, e1, .inl ⟨ks.zip us, k1, .inr e2, key_rep (B := H) q1 ry, rfl⟩, (look_zip (by rw [f', e3.len])).trans q2⟩
    | lT ks =>
      obtain ⟨k1, q1, q2⟩ := Option.map_eq_some_iff.mp hh
      have f' : ks.length = n.length := f
      obtain ⟨t, t1, t2⟩ := keyT_rep q1 ry
      exact ⟨a, valV (ks.zip us) k1, e1, .inr ⟨ks.zip us, k1, t, .inr e2, t1, t2, rfl⟩, (look_zip (by rw [f', e3.len])).trans q2⟩
    | _ => cases hh
  cases w with
  | fl d2 => cases d2 with
    | nd k n => cases k with
      | dK ks => exact main rfl h
      | dT ks => exact main rfl h
      | lK ks => exact main rfl h
      | lT ks => exact main rfl h
      | _ => cases h
    | _ => cases h
  | nd k n => cases k with
    | dK ks => exact main (W.dat_nd _ _) h
    | dT ks => exact main (W.dat_nd _ _) h
    | lK ks => exact main (W.dat_nd _ _) h
    | lT ks => exact main (W.dat_nd _ _) h
    | _ => cases h
theorem dicK_inv {x : W} {p : List Key × List D} (h : x.dicK = some p) : x.shal = some (.dK p.1, p.2) ∨ x.shal = some (.lK p.1, p.2) := by
  unfold W.dicK at h
  split at h
  · rename_i e
    rw [e, ← Option.some.inj h]
    exact .inl rfl
  · rename_i e
    rw [e, ← Option.some.inj h]
    exact .inr rfl
  · cases h
theorem dicT_inv {x : W} {p : List (List Key) × List D} (h : x.dicT = some p) : x.shal = some (.dT p.1, p.2) ∨ x.shal = some (.lT p.1, p.2) := by
  unfold W.dicT at h
  split at h
  · rename_i e
    rw [e, ← Option.some.inj h]
    exact .inl rfl
  · rename_i e
    rw [e, ← Option.some.inj h]
    exact .inr rfl
  · cases h
/-- a dict of known things -/
theorem OV.dicK {B H : Hp} {x : W} {v : V} {p : List Key × List D} (h : OV c B H x v) (e : x.dicK = some p) : ∃ a us, v = .ref a ∧ Rd H a (.dK (p.1.zip us)) ∧ RepDs c B p.2 us ∧ p.1.length = us.length := by
  rcases dicK_inv e with e | e
  · obtain ⟨a, us, e1, e2, e3, e4⟩ := h.2.2 _ _ e
    exact ⟨a, us, e1, e3, e4, (show p.1.length = p.2.length from e2).trans e4.len⟩
  · obtain ⟨a, us, e1, e2, e3, e4⟩ := h.2.2 _ _ e
    exact ⟨a, us, e1, .inr e3, e4, (show p.1.length = p.2.length from e2).trans e4.len⟩
theorem OV.dicT {B H : Hp} {x : W} {v : V} {p : List (List Key) × List D} (h : OV c B H x v) (e : x.dicT = some p) : ∃ a us, v = .ref a ∧ Rd H a (.dT (p.1.zip us)) ∧ RepDs c B p.2 us ∧ p.1.length = us.length := by
  rcases dicT_inv e with e | e
  · obtain ⟨a, us, e1, e2, e3, e4⟩ := h.2.2 _ _ e
    exact ⟨a, us, e1, e3, e4, (show p.1.length = p.2.length from e2).trans e4.len⟩
  · obtain ⟨a, us, e1, e2, e3, e4⟩ := h.2.2 _ _ e
    exact ⟨a, us, e1, .inr e3, e4, (show p.1.length = p.2.length from e2).trans e4.len⟩
theorem reps_keys {B : Hp} : ∀ ks : List Key, RepDs c B (ks.map keyD) (ks.map kV)
  | [] => rfl
  | .inl i :: ks => ⟨_, _, rfl, rfl, reps_keys ks⟩
  | .inr i :: ks => ⟨_, _, rfl, rfl, reps_keys ks⟩
theorem cut_reps {B : Hp} {ds : List D} {us : List V} (lo hi : Option Int) (r : RepDs c B ds us) : RepDs c B (cutD ds lo hi) (cutV us lo hi) := by
  have l := r.len
  refine RepDs.of_get ?_ fun i d v h1 h2 => ?_
  · unfold cutD cutV
    rw [List.length_take, List.length_take, List.length_drop, List.length_drop, l]
  · unfold cutD at h1
    unfold cutV at h2
    rw [List.getElem?_take] at h1 h2
    split at h1
    · rw [List.getElem?_drop] at h1
      split at h2
      · rw [List.getElem?_drop, ← l] at h2
        exact RepDs.at r h1 h2
      · cases h2
    · cases h1
abbrev rSl (K : PySem.W.Frag) : V → Option Int → Option Int → Hp → VK → Prop := fun x lo hi H Q => (rSlL K x lo hi H Q ∨ rSlT K x lo hi H Q) ∨ rSlS x lo hi H Q
theorem slice_rep {B H : Hp} {x : W} {v : V} {lo hi : Option Int} {w : W} {Q : VK} (h : slice? x lo hi = some w) (o : OV c B H x v) (fin : Fin c B H w Q) : rSl c.K v lo hi H Q := by
  unfold slice? at h
  split at h
  · rename_i z
    split at h
    · rename_i hz
      have e := Option.some.inj h
      subst e
      exact .inr ⟨z, o.str, Nat.le_trans hz (by decide), fin _ rfl⟩
    · cases h
  · split at h
    · rename_i ds es
      obtain ⟨a, us, e1, _, e2, e3⟩ := o.2.2 _ _ es
      exact .inl (.inl ⟨a, us, e1, .inl (.inl e2), fun p hp => newL_fin h fin (cut_reps lo hi e3) hp⟩)
    · rename_i ds es
      obtain ⟨a, us, e1, _, e2, e3⟩ := o.2.2 _ _ es
      split at h
      · cases h
      · rename_i hn
        rw [e3.len] at hn
        exact .inl (.inr ⟨a, us, e1, .inl (.inl e2), hn, fun p hp => newT_fin h fin (cut_reps lo hi e3) hp⟩)
    · cases h
theorem isOf_rep {H : Hp} {d : D} {v : V} {t : String} {b : Bool} (ht : isTy t = true) (h : isOf t d = some b) (r : RepD c H d v) : ∃ u, TyX c.K H v u ∧ PySem.W.kitOne c.K u (.type t) = some b := by
  have t6 : t = "int" ∨ t = "bool" ∨ t = "str" ∨ t = "list" ∨ t = "tuple" ∨ t = "dict" := by
    unfold isTy at ht
    simp only [Bool.or_eq_true, beq_iff_eq] at ht
    rcases ht with ((((h | h) | h) | h) | h) | h
    · exact .inl h
    · exact .inr (.inl h)
    · exact .inr (.inr (.inl h))
    · exact .inr (.inr (.inr (.inl h)))
    · exact .inr (.inr (.inr (.inr (.inl h))))
    · exact .inr (.inr (.inr (.inr (.inr h))))
  have kit : ∀ (a : String) (b' : Bool), isOf t d = some b' → (∀ b', isOf t d = some b' → kitB a t = some b') → PySem.W.kitOne c.K (.type a) (.type t) = some b' := fun a b' q k => kit_ty (k b' q)
  have go : ∀ (a : String), TyX c.K H v (.type a) → kitB a t = isOf t d → ∃ u, TyX c.K H v u ∧ PySem.W.kitOne c.K u (.type t) = some b := fun a ty k => ⟨.type a, ty, kit_ty (k.trans h)⟩
  cases d with
  | non =>
    have e : v = .non := r
    subst e
    refine go "NoneType" (.base .non) ?_
    rcases t6 with rfl | rfl | rfl | rfl | rfl | rfl <;> decide +kernel
  | bl x =>
    have e : v = .bl x := r
    subst e
    refine go "bool" (.base (.bl x)) ?_
    show kitB "bool" t = some (t == "bool" || t == "int")
    rcases t6 with rfl | rfl | rfl | rfl | rfl | rfl <;> decide +kernel
  | int x =>
    have e : v = .int x := r
    subst e
    refine go "int" (.base (.int x)) ?_
    show kitB "int" t = some (t == "int")
    rcases t6 with rfl | rfl | rfl | rfl | rfl | rfl <;> decide +kernel
  | str x =>
    have e : v = .str x := r
    subst e
    refine go "str" (.base (.str x)) ?_
    show kitB "str" t = some (t == "str")
    rcases t6 with rfl | rfl | rfl | rfl | rfl | rfl <;> decide +kernel
  | nd k cs =>
    obtain ⟨a, us, e1, _, e2, e3⟩ := r
    subst e1
    cases k with
    | lst =>
      refine go "list" (.base (.lst e2)) ?_
      show kitB "list" t = some (t == "list")
      rcases t6 with rfl | rfl | rfl | rfl | rfl | rfl <;> decide +kernel
    | tup =>
      refine go "tuple" (.base (.tup e2)) ?_
      show kitB "tuple" t = some (t == "tuple")
      rcases t6 with rfl | rfl | rfl | rfl | rfl | rfl <;> decide +kernel
    | dK ks =>
      have e4 : kitB "dict" t = isOf t (.nd (.dK ks) cs) := by
        show kitB "dict" t = some (t == "dict")
        rcases t6 with rfl | rfl | rfl | rfl | rfl | rfl <;> decide +kernel
      rcases e2 with e2 | ⟨o, e2⟩
      · exact go "dict" (.base (.dK e2)) e4
      · exact go "dict" (.fDict e2) e4
    | _ => cases h

/-- EVERY OPERATOR -/
theorem rop_ok (x : XOk c k X) (hf : o.form k e = some es) (h : PEs X es ts) : RopOk c X o e ts := by
  have hu : X.A.units + 1 < cLine := hu_of x.room
  have hu65 : X.A.units + 65 < cLine := by have := x.room.un; omega
  cases o with
  | add => exact bin_ok op_add hf h (fun _ _ _ _ q => i0_ok rfl q) two_of2I
  | sub => exact bin_ok op_sub hf h (fun _ _ _ _ q => i0_ok rfl q) two_of2I
  | mul => exact bin_ok op_mul hf h (fun _ _ _ _ q => ic_ok (C' := fun i j => (small64 i || small64 j) = true) (fun i j hc => by
      rcases Bool.or_eq_true_iff.mp hc with z | z
      · exact .inl (of_decide_eq_true z)
      · exact .inr (of_decide_eq_true z)) rfl q) two_of2I
  | fdiv => exact bin_ok op_fdiv hf h (fun _ _ _ _ q => ic_ok (C' := fun i j => 0 < j ∧ j < 1073741824) (fun i j hc => hc) rfl q) two_of2I
  | mod => exact bin_ok op_mod hf h (fun _ _ _ _ q => ic_ok (C' := fun i j => 0 < j) (fun i j hc => hc) rfl q) two_of2I
  | pow => exact bin_ok op_pow hf h (fun _ _ _ _ q => ic_ok (C' := fun i j => 0 ≤ j ∧ j ≤ 1000000 ∧ i.natAbs < 2 ^ 64) (fun i j hc => hc) rfl q) two_of2I
  | neg =>
    have hf' : neg1 e = some es := hf
    unfold neg1 at hf'
    split at hf'
    · rename_i a pos
      have e1 : [a] = es := Option.some.inj hf'
      subst e1
      obtain ⟨t, e2, h1⟩ := h.one
      subst e2
      refine ⟨tUn (rU fun i => .int (-i)) t, fun vs H Q => match vs with
        | [x] => rU (fun i => .int (-i)) x H Q
        | _ => False, pe_un un_neg h1, (fun z => by cases z), fun σ H Q q => q, fun vs H Q q => ?_⟩
      obtain ⟨y, v, w, B, ev, _, ov, hf2, fin⟩ := rS_1 rfl q
      subst ev
      obtain ⟨i, hi, hw⟩ := lstE hf2
      rw [int?_inv hi] at ov
      exact ⟨i, ov.int, pI_fin hw fin⟩
    · cases hf'
  | lt => exact cmp_ok op_lt hf h (fun _ _ _ _ q => b0_ok rfl q) two_of2I
  | le => exact cmp_ok op_le hf h (fun _ _ _ _ q => b0_ok rfl q) two_of2I
  | gt => exact cmp_ok op_gt hf h (fun _ _ _ _ q => b0_ok rfl q) two_of2I
  | ge => exact cmp_ok op_ge hf h (fun _ _ _ _ q => b0_ok rfl q) two_of2I
  | eqF =>
    refine cmp_ok op_eq hf h (fun a b H Q q => ?_) two_of2
    obtain ⟨x1, y1, v, u, w, B, ev, _, o1, o2, hf2, fin⟩ := rS_2 rfl q
    obtain ⟨rfl, rfl⟩ := r2_of ev
    unfold eqF? at hf2
    split at hf2
    · rename_i d1 d2 g1 g2
      split at hf2
      · rename_i hs
        rw [o1.flat g1, o2.flat g2]
        refine ⟨hs, ?_⟩
        have := pB_fin hf2 fin
        rwa [Bool.false_bne] at this
      · cases hf2
    · cases hf2
  | neF =>
    refine cmp_ok op_ne hf h (fun a b H Q q => ?_) two_of2
    obtain ⟨x1, y1, v, u, w, B, ev, _, o1, o2, hf2, fin⟩ := rS_2 rfl q
    obtain ⟨rfl, rfl⟩ := r2_of ev
    unfold eqF? at hf2
    split at hf2
    · rename_i d1 d2 g1 g2
      split at hf2
      · rename_i hs
        rw [o1.flat g1, o2.flat g2]
        refine ⟨hs, ?_⟩
        have := pB_fin hf2 fin
        rwa [Bool.true_bne] at this
      · cases hf2
    · cases hf2
  | eqD =>
    refine cmp_ok (op_eqD x.room.units) hf h (fun a b H Q q => ?_) two_of2
    obtain ⟨x1, y1, v, u, w, B, ev, _, o1, o2, hf2, fin⟩ := rS_2 rfl q
    obtain ⟨rfl, rfl⟩ := r2_of ev
    obtain ⟨bb, g1, g2⟩ := lstE hf2
    unfold eqD? at g1
    split at g1
    · rename_i p1 p2 e1 e2
      split at g1
      · rename_i hs
        obtain ⟨s1, s2⟩ := Bool.and_eq_true_iff.mp hs
        have e3 : PyData.eqv p1 p2 = bb := Option.some.inj g1
        have q1 := RepD.dp e1 o1.1
        have q2 := RepD.dp e2 o2.1
        rw [← x.K] at q1 q2
        exact ⟨p1, p2, q1, q2, s1, s2, by rw [e3]; exact pB_fin g2 fin⟩
      · cases g1
    · cases g1
  | neD =>
    refine cmp_ok (op_neD x.room.units) hf h (fun a b H Q q => ?_) two_of2
    obtain ⟨x1, y1, v, u, w, B, ev, _, o1, o2, hf2, fin⟩ := rS_2 rfl q
    obtain ⟨rfl, rfl⟩ := r2_of ev
    obtain ⟨bb, g1, g2⟩ := lstE hf2
    unfold eqD? at g1
    split at g1
    · rename_i p1 p2 e1 e2
      split at g1
      · rename_i hs
        obtain ⟨s1, s2⟩ := Bool.and_eq_true_iff.mp hs
        have e3 : PyData.eqv p1 p2 = bb := Option.some.inj g1
        have q1 := RepD.dp e1 o1.1
        have q2 := RepD.dp e2 o2.1
        rw [← x.K] at q1 q2
        exact ⟨p1, p2, q1, q2, s1, s2, by rw [e3]; exact pB_fin g2 fin⟩
      · cases g1
    · cases g1
  | isN =>
    refine cmp_ok op_isN hf h (fun a b H Q q => ?_) two_of2
    obtain ⟨x1, y1, v, u, w, B, ev, _, o1, o2, hf2, fin⟩ := rS_2 rfl q
    obtain ⟨rfl, rfl⟩ := r2_of ev
    split at hf2
    · rename_i hn
      have h2 := o2.isNon
      rw [hn] at h2
      exact ⟨of_decide_eq_true h2, by rw [o1.isNon]; exact pB_fin hf2 fin⟩
    · cases hf2
  | notN =>
    refine cmp_ok op_notN hf h (fun a b H Q q => ?_) two_of2
    obtain ⟨x1, y1, v, u, w, B, ev, _, o1, o2, hf2, fin⟩ := rS_2 rfl q
    obtain ⟨rfl, rfl⟩ := r2_of ev
    split at hf2
    · rename_i hn
      have h2 := o2.isNon
      rw [hn] at h2
      exact ⟨of_decide_eq_true h2, by rw [o1.isNon]; exact pB_fin hf2 fin⟩
    · cases hf2
  | ltD =>
    refine cmp_ok (op_ltDat x.room.units) hf h (fun a b H Q q => ?_) two_of2
    obtain ⟨x1, y1, v, u, w, B, ev, _, o1, o2, hf2, fin⟩ := rS_2 rfl q
    obtain ⟨rfl, rfl⟩ := r2_of ev
    obtain ⟨bb, g1, g2⟩ := lstE hf2
    unfold ltD? at g1
    split at g1
    · rename_i p1 p2 e1 e2
      split at g1
      · rename_i hs
        obtain ⟨s1, s2⟩ := Bool.and_eq_true_iff.mp hs
        obtain ⟨s2, s3⟩ := Bool.and_eq_true_iff.mp s2
        have e3 : PySem.W.dataLt p1 p2 = bb := Option.some.inj g1
        have q1 := RepD.dp e1 o1.1
        have q2 := RepD.dp e2 o2.1
        rw [← x.K] at q1 q2
        exact ⟨p1, p2, q1, q2, s1, (fun z => by rw [z] at s2; cases s2), of_decide_eq_true s3, by rw [e3]; exact pB_fin g2 fin⟩
      · cases g1
    · cases g1
  | ltS =>
    refine cmp_ok op_lt_str hf h (fun a b H Q q => ?_) two_of2
    obtain ⟨x1, y1, v, u, w, B, ev, _, o1, o2, hf2, fin⟩ := rS_2 rfl q
    obtain ⟨rfl, rfl⟩ := r2_of ev
    obtain ⟨s1, g1, g2⟩ := lstE hf2
    obtain ⟨s2, g3, g4⟩ := lstE g2
    rw [str?_inv g1] at o1
    rw [str?_inv g3] at o2
    exact ⟨s1, s2, o1.str, o2.str, pB_fin g4 fin⟩
  | leS =>
    refine cmp_ok op_le_str hf h (fun a b H Q q => ?_) two_of2
    obtain ⟨x1, y1, v, u, w, B, ev, _, o1, o2, hf2, fin⟩ := rS_2 rfl q
    obtain ⟨rfl, rfl⟩ := r2_of ev
    obtain ⟨s1, g1, g2⟩ := lstE hf2
    obtain ⟨s2, g3, g4⟩ := lstE g2
    rw [str?_inv g1] at o1
    rw [str?_inv g3] at o2
    exact ⟨s1, s2, o1.str, o2.str, pB_fin g4 fin⟩
  | gtS =>
    refine cmp_ok op_gt_str hf h (fun a b H Q q => ?_) two_of2
    obtain ⟨x1, y1, v, u, w, B, ev, _, o1, o2, hf2, fin⟩ := rS_2 rfl q
    obtain ⟨rfl, rfl⟩ := r2_of ev
    obtain ⟨s1, g1, g2⟩ := lstE hf2
    obtain ⟨s2, g3, g4⟩ := lstE g2
    rw [str?_inv g1] at o1
    rw [str?_inv g3] at o2
    exact ⟨s1, s2, o1.str, o2.str, pB_fin g4 fin⟩
  | geS =>
    refine cmp_ok op_ge_str hf h (fun a b H Q q => ?_) two_of2
    obtain ⟨x1, y1, v, u, w, B, ev, _, o1, o2, hf2, fin⟩ := rS_2 rfl q
    obtain ⟨rfl, rfl⟩ := r2_of ev
    obtain ⟨s1, g1, g2⟩ := lstE hf2
    obtain ⟨s2, g3, g4⟩ := lstE g2
    rw [str?_inv g1] at o1
    rw [str?_inv g3] at o2
    exact ⟨s1, s2, o1.str, o2.str, pB_fin g4 fin⟩
  | inD =>
    refine cmp_ok (op_inD hu65) hf h (fun a b H Q q => ?_) two_of2
    obtain ⟨x1, y1, v, u, w, B, ev, _, o1, o2, hf2, fin⟩ := rS_2 rfl q
    obtain ⟨rfl, rfl⟩ := r2_of ev
    obtain ⟨bb, g1, g2⟩ := lstE hf2
    unfold inD? at g1
    split at g1
    · rename_i p1 ds e1 e2
      split at g1
      · rename_i hs
        obtain ⟨s1, s2⟩ := Bool.and_eq_true_iff.mp hs
        have e3 : (ds.any fun z => PyData.eqv z p1) = bb := Option.some.inj g1
        have q1 := RepD.dp e1 o1.1
        have q2 := RepD.dp e2 o2.1
        rw [← x.K] at q1 q2
        exact ⟨p1, ds, q1, q2, s1, s2, by rw [e3]; exact pB_fin g2 fin⟩
      · cases g1
    · cases g1
  | niD =>
    refine cmp_ok (op_notInD hu65) hf h (fun a b H Q q => ?_) two_of2
    obtain ⟨x1, y1, v, u, w, B, ev, _, o1, o2, hf2, fin⟩ := rS_2 rfl q
    obtain ⟨rfl, rfl⟩ := r2_of ev
    obtain ⟨bb, g1, g2⟩ := lstE hf2
    unfold inD? at g1
    split at g1
    · rename_i p1 ds e1 e2
      split at g1
      · rename_i hs
        obtain ⟨s1, s2⟩ := Bool.and_eq_true_iff.mp hs
        have e3 : (ds.any fun z => PyData.eqv z p1) = bb := Option.some.inj g1
        have q1 := RepD.dp e1 o1.1
        have q2 := RepD.dp e2 o2.1
        rw [← x.K] at q1 q2
        exact ⟨p1, ds, q1, q2, s1, s2, by rw [e3]; exact pB_fin g2 fin⟩
      · cases g1
    · cases g1
  | isB =>
    refine cmp_ok op_is_bl hf h (fun a b H Q q => ?_) two_of2
    obtain ⟨x1, y1, v, u, w, B, ev, _, o1, o2, hf2, fin⟩ := rS_2 rfl q
    obtain ⟨rfl, rfl⟩ := r2_of ev
    obtain ⟨s1, g1, g2⟩ := lstE hf2
    obtain ⟨s2, g3, g4⟩ := lstE g2
    rw [bl?_inv g1] at o1
    rw [bl?_inv g3] at o2
    exact ⟨s1, s2, o1.bl, o2.bl, pB_fin g4 fin⟩
  | notB =>
    refine cmp_ok op_isnot_bl hf h (fun a b H Q q => ?_) two_of2
    obtain ⟨x1, y1, v, u, w, B, ev, _, o1, o2, hf2, fin⟩ := rS_2 rfl q
    obtain ⟨rfl, rfl⟩ := r2_of ev
    obtain ⟨s1, g1, g2⟩ := lstE hf2
    obtain ⟨s2, g3, g4⟩ := lstE g2
    rw [bl?_inv g1] at o1
    rw [bl?_inv g3] at o2
    exact ⟨s1, s2, o1.bl, o2.bl, pB_fin g4 fin⟩
  | inQ =>
    refine cmp_ok op_in_seq hf h (fun a b H Q q => ?_) two_of2
    obtain ⟨x1, y1, v, u, w, B, ev, _, o1, o2, hf2, fin⟩ := rS_2 rfl q
    obtain ⟨rfl, rfl⟩ := r2_of ev
    obtain ⟨d, g1, g2⟩ := lstE hf2
    obtain ⟨bb, g3, g4⟩ := lstE g2
    unfold inQ? at g3
    split at g3
    · rename_i ds es
      split at g3
      · rename_i hc
        obtain ⟨c12, c3⟩ := Bool.and_eq_true_iff.mp hc
        obtain ⟨c1, c2⟩ := Bool.and_eq_true_iff.mp c12
        have e3 := Option.some.inj g3
        obtain ⟨p, us, e4, sq, rp⟩ := o2.seq es
        obtain ⟨r1, r2⟩ := reps_flat c3 rp
        refine ⟨p, us, e4, sq.imp (fun z => .inl (.inl z)) (fun z => .inl (.inl z)), by rw [o1.flat g1]; exact c1, r2, ?_⟩
        have := pB_fin g4 fin
        rw [← e3] at this
        rw [o1.flat g1, r1]
        exact this
      · cases g3
    · cases g3
  | niQ =>
    refine cmp_ok op_notIn_seq hf h (fun a b H Q q => ?_) two_of2
    obtain ⟨x1, y1, v, u, w, B, ev, _, o1, o2, hf2, fin⟩ := rS_2 rfl q
    obtain ⟨rfl, rfl⟩ := r2_of ev
    obtain ⟨d, g1, g2⟩ := lstE hf2
    obtain ⟨bb, g3, g4⟩ := lstE g2
    unfold inQ? at g3
    split at g3
    · rename_i ds es
      split at g3
      · rename_i hc
        obtain ⟨c12, c3⟩ := Bool.and_eq_true_iff.mp hc
        obtain ⟨c1, c2⟩ := Bool.and_eq_true_iff.mp c12
        have e3 := Option.some.inj g3
        obtain ⟨p, us, e4, sq, rp⟩ := o2.seq es
        obtain ⟨r1, r2⟩ := reps_flat c3 rp
        refine ⟨p, us, e4, sq.imp (fun z => .inl (.inl z)) (fun z => .inl (.inl z)), by rw [o1.flat g1]; exact c1, r2, ?_⟩
        have := pB_fin g4 fin
        rw [← e3] at this
        rw [o1.flat g1, r1]
        exact this
      · cases g3
    · cases g3
  | inS =>
    refine cmp_ok op_in_str hf h (fun a b H Q q => ?_) two_of2
    obtain ⟨x1, y1, v, u, w, B, ev, _, o1, o2, hf2, fin⟩ := rS_2 rfl q
    obtain ⟨rfl, rfl⟩ := r2_of ev
    obtain ⟨s1, g1, g2⟩ := lstE hf2
    obtain ⟨s2, g3, g4⟩ := lstE g2
    rw [str?_inv g1] at o1
    rw [str?_inv g3] at o2
    exact ⟨s1, s2, o1.str, o2.str, pB_fin g4 fin⟩
  | niS =>
    refine cmp_ok L2.op_notin_str hf h (fun a b H Q q => ?_) two_of2
    obtain ⟨x1, y1, v, u, w, B, ev, _, o1, o2, hf2, fin⟩ := rS_2 rfl q
    obtain ⟨rfl, rfl⟩ := r2_of ev
    obtain ⟨s1, g1, g2⟩ := lstE hf2
    obtain ⟨s2, g3, g4⟩ := lstE g2
    rw [str?_inv g1] at o1
    rw [str?_inv g3] at o2
    exact ⟨s1, s2, o1.str, o2.str, pB_fin g4 fin⟩
  | inK =>
    refine dict_ok (q0 := fun o => o.isSome) (fun hi hd => pc_din hu hi hd) hf h (fun a b H Q q => ?_) two_of2
    obtain ⟨x1, y1, v, u, w, B, ev, _, o1, o2, hf2, fin⟩ := rS_2 rfl q
    obtain ⟨rfl, rfl⟩ := r2_of ev
    obtain ⟨bb, g1, g2⟩ := lstE hf2
    obtain ⟨p, o, e1, e2, e3⟩ := inK_rep g1 o1.1 o2.1
    exact ⟨p, o, e1, e2, by rw [e3]; exact pB_fin g2 fin⟩
  | niK =>
    refine dict_ok (q0 := fun o => !o.isSome) (fun hi hd => pc_dnotin hu hi hd) hf h (fun a b H Q q => ?_) two_of2
    obtain ⟨x1, y1, v, u, w, B, ev, _, o1, o2, hf2, fin⟩ := rS_2 rfl q
    obtain ⟨rfl, rfl⟩ := r2_of ev
    obtain ⟨bb, g1, g2⟩ := lstE hf2
    obtain ⟨p, o, e1, e2, e3⟩ := inK_rep g1 o1.1 o2.1
    exact ⟨p, o, e1, e2, by rw [e3]; exact pB_fin g2 fin⟩
  | addS =>
    refine bin_ok op_add_str hf h (fun a b H Q q => ?_) two_of2
    obtain ⟨x1, y1, v, u, w, B, ev, _, o1, o2, hf2, fin⟩ := rS_2 rfl q
    obtain ⟨rfl, rfl⟩ := r2_of ev
    obtain ⟨s1, g1, g2⟩ := lstE hf2
    obtain ⟨s2, g3, g4⟩ := lstE g2
    rw [str?_inv g1] at o1
    rw [str?_inv g3] at o2
    split at g4
    · rename_i hs
      have e3 := Option.some.inj g4
      subst e3
      exact ⟨s1, s2, o1.str, o2.str, small_sz hs, fin _ rfl⟩
    · cases g4
  | catL =>
    refine bin_ok op_cat hf h (fun a b H Q q => ?_) two_of2
    obtain ⟨x1, y1, v, u, w, B, ev, _, o1, o2, hf2, fin⟩ := rS_2 rfl q
    obtain ⟨rfl, rfl⟩ := r2_of ev
    obtain ⟨d1, g1, g2⟩ := lstE hf2
    obtain ⟨d2, g3, g4⟩ := lstE g2
    split at g4
    · rename_i hs
      obtain ⟨p1, u1, e1, h1, r1⟩ := o1.lst g1
      obtain ⟨p2, u2, e2, h2, r2⟩ := o2.lst g3
      exact ⟨p1, p2, u1, u2, e1, e2, h1, h2, by rw [← r1.len, ← r2.len]; exact small_sz hs, fun p hp => newL_fin g4 fin (r1.append r2) hp⟩
    · cases g4
  | catT =>
    refine bin_ok op_catT hf h (fun a b H Q q => ?_) two_of2
    obtain ⟨x1, y1, v, u, w, B, ev, _, o1, o2, hf2, fin⟩ := rS_2 rfl q
    obtain ⟨rfl, rfl⟩ := r2_of ev
    obtain ⟨d1, g1, g2⟩ := lstE hf2
    obtain ⟨d2, g3, g4⟩ := lstE g2
    split at g4
    · rename_i hs
      obtain ⟨c12, c3⟩ := Bool.and_eq_true_iff.mp hs
      obtain ⟨c1, c2⟩ := Bool.and_eq_true_iff.mp c12
      obtain ⟨p1, u1, e1, h1, r1⟩ := o1.tup g1
      obtain ⟨p2, u2, e2, h2, r2⟩ := o2.tup g3
      have n1 : u1 ≠ [] := fun z => by
        have := r1.len
        rw [z] at this
        cases d1 with
        | nil => cases c2
        | cons _ _ => cases this
      have n2 : u2 ≠ [] := fun z => by
        have := r2.len
        rw [z] at this
        cases d2 with
        | nil => cases c3
        | cons _ _ => cases this
      refine ⟨p1, p2, u1, u2, e1, e2, .inl (.inl h1), .inl (.inl h2), n1, by rw [← r1.len, ← r2.len]; exact small_sz c1, ?_⟩
      exact ⟨fun z => absurd z n2, fun _ p hp => newT_fin g4 fin (r1.append r2) hp⟩
    · cases g4
  | len =>
    refine callB_ok x (CallR.or call_len_seq (CallR.or call_len_str (CallR.or call_lenR call_len_dTR))) (by decide) (by decide +kernel) (by decide) (by decide) hf h fun vs H Q q => ?_
    obtain ⟨y, v, w, B, ev, _, ov, hf2, fin⟩ := rS_1 rfl q
    subst ev
    obtain ⟨n, h1, h2⟩ := lstE hf2
    have q2 := pI_fin h2 fin
    rcases lenD_inv h1 with ⟨z, e1, e2, e3⟩ | ⟨ds, e1, e2⟩ | ⟨ds, e1, e2⟩ | ⟨kk, ds, e1, e2, hkk⟩
    · rw [e1] at ov
      exact .inr (.inl ⟨z, by rw [ov.str], Nat.le_trans e2 (by decide), by rw [e3]; exact q2⟩)
    · have r := ov.1
      rw [e1] at r
      obtain ⟨a, us, r1, _, r2, r3⟩ := r
      exact .inl ⟨a, us, by rw [r1], .inl (.inl (.inl r2)), by rw [← r3.len, e2]; exact q2⟩
    · have r := ov.1
      rw [e1] at r
      obtain ⟨a, us, r1, _, r2, r3⟩ := r
      exact .inl ⟨a, us, by rw [r1], .inr (.inl (.inl r2)), by rw [← r3.len, e2]; exact q2⟩
    · have r := ov.1
      rw [e1] at r
      obtain ⟨a, us, r1, rf, r2, r3⟩ := r
      have el : ∀ {κ : Type} (ks : List κ), ks.length = ds.length → (ks.zip us).length = ds.length := fun ks rf' => by
        rw [List.length_zip, ← r3.len, rf', Nat.min_self]
      rcases hkk with ⟨ks, rfl⟩ | ⟨ks, rfl⟩ | ⟨ks, rfl⟩ | ⟨ks, rfl⟩
      · exact .inr (.inr (.inl ⟨a, ks.zip us, by rw [r1], r2, by rw [el ks rf, e2]; exact q2⟩))
      · exact .inr (.inr (.inr ⟨a, ks.zip us, by rw [r1], r2, by rw [el ks rf, e2]; exact q2⟩))
      · exact .inr (.inr (.inl ⟨a, ks.zip us, by rw [r1], .inr r2, by rw [el ks rf, e2]; exact q2⟩))
      · exact .inr (.inr (.inr ⟨a, ks.zip us, by rw [r1], .inr r2, by rw [el ks rf, e2]; exact q2⟩))
  | intB =>
    refine callTy_ok x call_int1 (by decide) (by decide +kernel) (by decide) (by decide) hf h fun vs H Q q => ?_
    obtain ⟨y, v, w, B, ev, _, ov, hf2, fin⟩ := rS_1 rfl q
    subst ev
    split at hf2
    · rename_i b hb
      rw [bl?_inv hb] at ov
      exact .inr ⟨b, by rw [ov.bl], pI_fin hf2 fin⟩
    · obtain ⟨i, hi, hw⟩ := lstE hf2
      rw [int?_inv hi] at ov
      exact .inl ⟨i, by rw [ov.int], pI_fin hw fin⟩
  | min2 =>
    refine callB2_ok x (call_min2 x.calm) (by decide) (by decide +kernel) (by decide) (by decide) hf h fun vs H Q q => ?_
    obtain ⟨ws, w, B, s, ov, run, fin⟩ := q
    obtain ⟨i, j, e1, hf2⟩ := on2I_inv run
    subst e1
    obtain ⟨v, u, ev, o1, o2⟩ := ov.two
    subst ev
    exact ⟨i, j, by rw [o1.int, o2.int], pI_fin hf2 fin⟩
  | max2 =>
    refine callB2_ok x (call_max2 x.calm) (by decide) (by decide +kernel) (by decide) (by decide) hf h fun vs H Q q => ?_
    obtain ⟨ws, w, B, s, ov, run, fin⟩ := q
    obtain ⟨i, j, e1, hf2⟩ := on2I_inv run
    subst e1
    obtain ⟨v, u, ev, o1, o2⟩ := ov.two
    subst ev
    exact ⟨i, j, by rw [o1.int, o2.int], pI_fin hf2 fin⟩
  | srtSet =>
    replace hf : sset1 k e = some es := hf
    unfold sset1 at hf
    split at hf
    · split at hf
      · rename_i hp
        obtain ⟨hp1, hp2, g1, g2, ok⟩ := hp
        subst hp1
        subst hp2
        cases hf
        obtain ⟨t, e2, h1⟩ := h.one
        subst e2
        refine ⟨tSrtSet X.K t, fun vs H Q => match vs with
          | [x] => ∃ (l : Addr) (ns : List Int), x = V.ref l ∧ SqL X.K H l (ns.map V.int) ∧ ns.length + 1 < scanBound ∧ ∀ (ms : List Int) (p : Addr), ms.Pairwise (· < ·) → (∀ k, k ∈ ms ↔ k ∈ ns) → H p = none → Q (.ref p) (upd H p (.lst (ms.map V.int)))
          | _ => False, pe_srtSet x.calm (x.gl g1) (x.free _ (by decide)) (x.gl g2) (x.free _ (by decide)) h1 (star_ok ok), (fun z => by cases z), fun σ H Q q => q, fun vs H Q q => ?_⟩
        obtain ⟨y, v, w, B, ev, sm, ov, hf2, fin⟩ := rS_1 rfl q
        subst ev
        obtain ⟨ns, h1, h2⟩ := lstE hf2
        obtain ⟨ds, h3, h4⟩ := Option.bind_eq_some_iff.mp h1
        obtain ⟨p, us, e1, hp, rp⟩ := ov.lst h3
        rw [reps_ints h4 rp] at hp
        split at h2
        · rename_i hb
          refine ⟨p, ns, by rw [e1], .inl (.inl hp), hb, fun ms p2 hs hm hl => ?_⟩
          rw [← ssI_uniq hs hm]
          exact newL_fin h2 fin (reps_of_ints _) hl
        · cases h2
      · cases hf
    · cases hf
  | minD =>
    refine kwd_ok x (cr_minD x.calm) (by decide) (by decide +kernel) (by decide) (by decide) hf h (fun a b H Q q => ?_) two_of2
    obtain ⟨x1, y1, v, u, w, B, ev, _, o1, o2, hf2, fin⟩ := rS_2 rfl q
    obtain ⟨rfl, rfl⟩ := r2_of ev
    obtain ⟨ns, g1, g2⟩ := lstE hf2
    obtain ⟨d, g3, g4⟩ := lstE g2
    obtain ⟨ds, h3, h4⟩ := Option.bind_eq_some_iff.mp g1
    obtain ⟨p, us, e1, hp, rp⟩ := o1.lst h3
    rw [reps_ints h4 rp] at hp
    rw [int?_inv g3] at o2
    refine ⟨p, ns, d, by rw [e1], by rw [o2.int], .inl (.inl hp), fun hz => ?_, fun m hm hl => ?_⟩
    · subst hz
      exact pI_fin g4 fin
    · refine pI_fin (i := m) ?_ fin
      cases e9 : leastI ns with
      | none =>
        cases ns with
        | nil => cases hm
        | cons _ _ => cases e9
      | some z =>
        rw [e9] at g4
        rw [leastI_eq e9 hm hl]
        exact g4
  | maxD =>
    refine kwd_ok x (cr_maxD x.calm) (by decide) (by decide +kernel) (by decide) (by decide) hf h (fun a b H Q q => ?_) two_of2
    obtain ⟨x1, y1, v, u, w, B, ev, _, o1, o2, hf2, fin⟩ := rS_2 rfl q
    obtain ⟨rfl, rfl⟩ := r2_of ev
    obtain ⟨ns, g1, g2⟩ := lstE hf2
    obtain ⟨d, g3, g4⟩ := lstE g2
    obtain ⟨ds, h3, h4⟩ := Option.bind_eq_some_iff.mp g1
    obtain ⟨p, us, e1, hp, rp⟩ := o1.lst h3
    rw [reps_ints h4 rp] at hp
    rw [int?_inv g3] at o2
    refine ⟨p, ns, d, by rw [e1], by rw [o2.int], .inl (.inl hp), fun hz => ?_, fun m hm hl => ?_⟩
    · subst hz
      exact pI_fin g4 fin
    · refine pI_fin (i := m) ?_ fin
      cases e9 : mostI ns with
      | none =>
        cases ns with
        | nil => cases hm
        | cons _ _ => cases e9
      | some z =>
        rw [e9] at g4
        rw [mostI_eq e9 hm hl]
        exact g4
  | sum =>
    refine callB_ok x (cr_sum x.calm) (by decide) (by decide +kernel) (by decide) (by decide) hf h fun vs H Q q => ?_
    obtain ⟨y, v, w, B, ev, _, ov, hf2, fin⟩ := rS_1 rfl q
    subst ev
    obtain ⟨ns, h1, h2⟩ := lstE hf2
    obtain ⟨ds, h3, h4⟩ := Option.bind_eq_some_iff.mp h1
    obtain ⟨p, us, e1, hp, rp⟩ := ov.lst h3
    rw [reps_ints h4 rp] at hp
    exact ⟨p, ns, by rw [e1], .inl (.inl hp), pI_fin h2 fin⟩
  | min1 =>
    refine callB_ok x (cr_min x.calm) (by decide) (by decide +kernel) (by decide) (by decide) hf h fun vs H Q q => ?_
    obtain ⟨y, v, w, B, ev, _, ov, hf2, fin⟩ := rS_1 rfl q
    subst ev
    obtain ⟨n, h1, h2⟩ := lstE hf2
    obtain ⟨ns, h5, h6⟩ := Option.bind_eq_some_iff.mp h1
    obtain ⟨ds, h3, h4⟩ := Option.bind_eq_some_iff.mp h5
    obtain ⟨p, us, e1, hp, rp⟩ := ov.lst h3
    rw [reps_ints h4 rp] at hp
    refine ⟨p, ns, by rw [e1], .inl (.inl hp), ?_, fun m hm hl => ?_⟩
    · cases ns with
      | nil => cases h6
      | cons _ _ => exact Nat.succ_pos _
    · rw [leastI_eq h6 hm hl]
      exact pI_fin h2 fin
  | max1 =>
    refine callB_ok x (cr_max x.calm) (by decide) (by decide +kernel) (by decide) (by decide) hf h fun vs H Q q => ?_
    obtain ⟨y, v, w, B, ev, _, ov, hf2, fin⟩ := rS_1 rfl q
    subst ev
    obtain ⟨n, h1, h2⟩ := lstE hf2
    obtain ⟨ns, h5, h6⟩ := Option.bind_eq_some_iff.mp h1
    obtain ⟨ds, h3, h4⟩ := Option.bind_eq_some_iff.mp h5
    obtain ⟨p, us, e1, hp, rp⟩ := ov.lst h3
    rw [reps_ints h4 rp] at hp
    refine ⟨p, ns, by rw [e1], .inl (.inl hp), ?_, fun m hm hl => ?_⟩
    · cases ns with
      | nil => cases h6
      | cons _ _ => exact Nat.succ_pos _
    · rw [mostI_eq h6 hm hl]
      exact pI_fin h2 fin
  | allB =>
    refine callB_ok x (cr_all x.calm) (by decide) (by decide +kernel) (by decide) (by decide) hf h fun vs H Q q => ?_
    obtain ⟨y, v, w, B, ev, _, ov, hf2, fin⟩ := rS_1 rfl q
    subst ev
    obtain ⟨ns, h1, h2⟩ := lstE hf2
    obtain ⟨ds, h3, h4⟩ := Option.bind_eq_some_iff.mp h1
    obtain ⟨p, us, e1, hp, rp⟩ := ov.lst h3
    rw [reps_bls h4 rp] at hp
    exact ⟨p, ns, by rw [e1], .inl (.inl hp), pB_fin h2 fin⟩
  | anyB =>
    refine callB_ok x (cr_any x.calm) (by decide) (by decide +kernel) (by decide) (by decide) hf h fun vs H Q q => ?_
    obtain ⟨y, v, w, B, ev, _, ov, hf2, fin⟩ := rS_1 rfl q
    subst ev
    obtain ⟨ns, h1, h2⟩ := lstE hf2
    obtain ⟨ds, h3, h4⟩ := Option.bind_eq_some_iff.mp h1
    obtain ⟨p, us, e1, hp, rp⟩ := ov.lst h3
    rw [reps_bls h4 rp] at hp
    exact ⟨p, ns, by rw [e1], .inl (.inl hp), pB_fin h2 fin⟩
  | listOf =>
    refine callTy_ok x call_list_of (by decide) (by decide +kernel) (by decide) (by decide) hf h fun vs H Q q => ?_
    obtain ⟨y, v, w, B, ev, _, ov, hf2, fin⟩ := rS_1 rfl q
    subst ev
    obtain ⟨ds, h1, h2⟩ := lstE hf2
    obtain ⟨p, us, e1, hp, rp⟩ := ov.seq h1
    exact ⟨p, us, by rw [e1], hp.imp (fun z => .inl (.inl z)) (fun z => .inl (.inl z)), fun l hl => newL_fin h2 fin rp hl⟩
  | dictOf =>
    refine callTy_ok x (call_dictP x.calm) (by decide) (by decide +kernel) (by decide) (by decide) hf h fun vs H Q q => ?_
    obtain ⟨y, v, w, B, ev, sm, ov, hf2, fin⟩ := rS_1 rfl q
    subst ev
    obtain ⟨kvs, h1, h2⟩ := lstE hf2
    obtain ⟨ds, h3, h4⟩ := Option.bind_eq_some_iff.mp h1
    obtain ⟨p, us, e1, hp, rp⟩ := ov.lst h3
    obtain ⟨ps, ws, g1, g2, g3⟩ := pairs_rep h4 rp
    split at h2
    · rename_i nd
      refine ⟨p, ps, (kvs.map (·.1)).zip ws, by rw [e1], .inl (.inl (by rw [← g1]; exact hp)), prd_mono (fun a b z => .inl (.inl (sm _ _ z))) g3, fun l hl => ?_⟩
      have lw : (kvs.map (·.1)).length = ws.length := by rw [← g2.len, List.length_map, List.length_map]
      rw [mergeK_nd (by rw [List.nil_append, List.map_fst_zip (by omega)]; exact nd), List.nil_append]
      exact newD_fin h2 fin g2 hl
    · cases h2
  | dcp =>
    refine callTy_ok x (CallR.or call_dictD (call_dictT (by have := x.room.un; omega))) (by decide) (by decide +kernel) (by decide) (by decide) hf h fun vs H Q q => ?_
    obtain ⟨y, v, w, B, ev, sm, ov, hf2, fin⟩ := rS_1 rfl q
    subst ev
    split at hf2
    · rename_i p e1
      split at hf2
      · obtain ⟨a, us, r1, r2, r3, r4⟩ := ov.dicK e1
        exact .inl ⟨a, _, by rw [r1], r2, fun l hl => newC_fin (us := us) hf2 (.inl ⟨_, rfl⟩) r4 fin r3 hl⟩
      · cases hf2
    · split at hf2
      · rename_i p e1
        split at hf2
        · rename_i hz
          obtain ⟨a, us, r1, r2, r3, r4⟩ := ov.dicT e1
          exact .inr ⟨a, _, by rw [r1], r2, by rw [List.length_zip, r4, ← r3.len, Nat.min_self]; exact hz, fun l hl => newC_fin (us := us) hf2 (.inr ⟨_, rfl⟩) r4 fin r3 hl⟩
        · cases hf2
      · cases hf2
  | keys =>
    refine callTy_ok x (CallR.or (call_listD x.calm) (call_list_dT x.calm)) (by decide) (by decide +kernel) (by decide) (by decide) hf h fun vs H Q q => ?_
    obtain ⟨y, v, w, B, ev, sm, ov, hf2, fin⟩ := rS_1 rfl q
    subst ev
    obtain ⟨ds, h1, h2⟩ := lstE hf2
    split at h2
    · unfold keys? at h1
      split at h1
      · rename_i ks ds' e1
        obtain ⟨a, us, r1, r2, r3, r4⟩ := ov.dicK e1
        have e2 := Option.some.inj h1
        refine .inl ⟨a, _, by rw [r1], r2, fun l hl => ?_⟩
        have e3 : ((ks.zip us).map fun kv => kV kv.1) = ks.map kV := by
          have e4 : ((ks.zip us).map fun kv => kV kv.1) = ((ks.zip us).map Prod.fst).map kV := by rw [List.map_map]; rfl
          rw [e4, List.map_fst_zip (by have r4' : ks.length = us.length := r4; omega)]
        show Q (.ref l) (upd H l (.lst ((ks.zip us).map fun kv => kV kv.1)))
        rw [e3]
        exact newL_fin h2 fin (by rw [← e2]; exact reps_keys ks) hl
      · split at h1
        · rename_i ds' e1
          obtain ⟨a, us, r1, r2, r3, r4⟩ := ov.dicT e1
          have e2 := Option.some.inj h1
          have e3 : us = [] := List.length_eq_zero_iff.mp (by have r4' : ([] : List (List Key)).length = us.length := r4; simpa using r4'.symm)
          subst e3
          refine .inr ⟨a, _, by rw [r1], r2, fun l bs hl hb => ?_⟩
          cases hb
          exact newL_fin h2 fin (by rw [← e2]; rfl) hl
        · cases h1
    · cases h2
  | tupOf =>
    refine callTy_ok x call_tuple_of (by decide) (by decide +kernel) (by decide) (by decide) hf h fun vs H Q q => ?_
    obtain ⟨y, v, w, B, ev, _, ov, hf2, fin⟩ := rS_1 rfl q
    subst ev
    obtain ⟨ds, h1, h2⟩ := lstE hf2
    obtain ⟨p, us, e1, hp, rp⟩ := ov.lst h1
    exact ⟨p, us, by rw [e1], .inl ⟨.inl (.inl hp), fun l hl => newT_fin h2 fin rp hl⟩⟩
  | sorted =>
    refine callB_ok x (call_sortD x.K x.room) (by decide) (by decide +kernel) (by decide) (by decide) hf h fun vs H Q q => ?_
    obtain ⟨y, v, w, B, ev, sm, ov, hf2, fin⟩ := rS_1 rfl q
    subst ev
    obtain ⟨ds, h1, h2⟩ := lstE hf2
    obtain ⟨p, us, e1, hp, rp⟩ := ov.lst h1
    split at h2
    · rename_i hc
      exact ⟨p, us, ds, B, by rw [e1], hp, sm, rp, hc, fun l us' hl r' => newL_fin h2 fin r' hl⟩
    · cases h2
  | slice lo hi =>
    have sl : SlR X (rSl X.K) := SlR.or (SlR.or sl_list sl_tup) sl_str
    have hf' : sl1 lo hi e = some es := hf
    unfold sl1 at hf'
    split at hf'
    · rename_i a p1 p2
      split at hf'
      · rename_i hp
        obtain ⟨rfl, rfl⟩ := hp
        have e3 : [a] = es := Option.some.inj hf'
        subst e3
        obtain ⟨t, e4, h1⟩ := h.one
        subst e4
        refine ⟨_, fun vs H Q => match vs with
          | [x] => rSl X.K x none none H Q
          | _ => False, pe_slice sl h1 po_none po_none, (fun z => by cases z), fun σ H Q q => q, fun vs H Q q => ?_⟩
        obtain ⟨x1, v, w, B, ev, _, o1, hf2, fin⟩ := rS_1 rfl q
        subst ev
        rw [x.K]
        exact slice_rep hf2 o1 fin
      · cases hf'
    · rename_i a l p1 p2
      split at hf'
      · rename_i hp
        obtain ⟨rfl, rfl⟩ := hp
        have e3 : [a, l] = es := Option.some.inj hf'
        subst e3
        obtain ⟨t, u, e4, h1, h2⟩ := h.two
        subst e4
        refine ⟨_, fun vs H Q => match vs with
          | [x, y] => ∃ i, y = .int i ∧ rSl X.K x (some i) none H Q
          | _ => False, pe_slice sl h1 (po_some h2) po_none, (fun z => by cases z), fun σ H Q q => q, fun vs H Q q => ?_⟩
        obtain ⟨x1, y1, v, u, w, B, ev, _, o1, o2, hf2, fin⟩ := rS_2 rfl q
        subst ev
        obtain ⟨i, g1, g2⟩ := lstE hf2
        rw [int?_inv g1] at o2
        rw [x.K]
        exact ⟨i, o2.int, slice_rep g2 o1 fin⟩
      · cases hf'
    · rename_i a l p1 p2
      split at hf'
      · rename_i hp
        obtain ⟨rfl, rfl⟩ := hp
        have e3 : [a, l] = es := Option.some.inj hf'
        subst e3
        obtain ⟨t, u, e4, h1, h2⟩ := h.two
        subst e4
        refine ⟨_, fun vs H Q => match vs with
          | [x, y] => ∃ i, y = .int i ∧ rSl X.K x none (some i) H Q
          | _ => False, pe_slice sl h1 po_none (po_some h2), (fun z => by cases z), fun σ H Q q => q, fun vs H Q q => ?_⟩
        obtain ⟨x1, y1, v, u, w, B, ev, _, o1, o2, hf2, fin⟩ := rS_2 rfl q
        subst ev
        obtain ⟨i, g1, g2⟩ := lstE hf2
        rw [int?_inv g1] at o2
        rw [x.K]
        exact ⟨i, o2.int, slice_rep g2 o1 fin⟩
      · cases hf'
    · cases hf'
  | ixS =>
    have hf' : ix2 e = some es := hf
    unfold ix2 at hf'
    split at hf'
    · rename_i a b pos
      split at hf'
      · rename_i ok
        have e1 : [a, b] = es := Option.some.inj hf'
        subst e1
        obtain ⟨t, u, e2, h1, h2⟩ := h.two
        subst e2
        refine ⟨tOp rIxS t u, fun vs H Q => match vs with
          | [x, y] => rIxS x y H Q
          | _ => False, pe_ix ix_str h1 h2 (ix_ok ok), (fun z => by cases z), fun σ H Q q => q, fun vs H Q q => ?_⟩
        obtain ⟨x1, y1, v, u, w, B, ev, _, o1, o2, hf2, fin⟩ := rS_2 rfl q
        subst ev
        obtain ⟨z, g1, g2⟩ := lstE hf2
        obtain ⟨i, g3, g4⟩ := lstE g2
        rw [str?_inv g1] at o1
        rw [int?_inv g3] at o2
        split at g4
        · rename_i hz
          obtain ⟨cc, g5, g6⟩ := lstE g4
          have e3 := Option.some.inj g6
          subst e3
          exact ⟨z, i, cc, o1.str, o2.int, Nat.le_trans hz (by decide), g5, fin _ rfl⟩
        · cases g4
      · cases hf'
    · cases hf'
  | join z =>
    have hf' : join1 z e = some es := hf
    unfold join1 at hf'
    split at hf'
    · rename_i y j p m apos a pos
      split at hf'
      · rename_i hp
        obtain ⟨e1, e2, ok, hl⟩ := hp
        subst e1
        subst e2
        have e3 : [a] = es := Option.some.inj hf'
        subst e3
        obtain ⟨t, e4, h1⟩ := h.one
        subst e4
        refine ⟨_, fun vs H Q => ∃ a p, ∃ ys : List Str, V.str y = .str a ∧ vs = [.ref p] ∧ (SqL X.K H p (ys.map V.str) ∨ SqT X.K H p (ys.map V.str)) ∧ (ys.map (·.length)).sum + ys.length * a.length ≤ 16777216 ∧ Q (.str (Txt.join a ys)) H, pe_join pe_str h1 (star_ok ok) (base_ok rfl) hl, (fun z => by cases z), fun σ H Q q => ⟨⟨_, rfl⟩, q⟩, fun vs H Q q => ?_⟩
        obtain ⟨y1, v, w, B, ev, _, ov, hf2, fin⟩ := rS_1 rfl q
        subst ev
        obtain ⟨ys, h1, h2⟩ := lstE hf2
        obtain ⟨ds, h3, h4⟩ := Option.bind_eq_some_iff.mp h1
        obtain ⟨p, us, e1, hp, rp⟩ := ov.lst h3
        rw [reps_strs h4 rp] at hp
        split at h2
        · rename_i hz
          have e5 := Option.some.inj h2
          subst e5
          exact ⟨y, p, ys, rfl, by rw [e1], .inl (.inl (.inl hp)), hz, fin _ rfl⟩
        · cases h2
      · cases hf'
    · cases hf'
  | isI t =>
    have hf' : isi1 k t e = some es := hf
    unfold isi1 at hf'
    split at hf'
    · rename_i f p a y p2 pos
      split at hf'
      · rename_i hp
        obtain ⟨e1, hg, e2, hg2, ok, ht⟩ := hp
        subst e1
        subst e2
        have e3 : [a] = es := Option.some.inj hf'
        subst e3
        obtain ⟨te, e4, h1⟩ := h.one
        subst e4
        have t6 : t = "int" ∨ t = "bool" ∨ t = "str" ∨ t = "list" ∨ t = "tuple" ∨ t = "dict" := by
          unfold isTy at ht
          simp only [Bool.or_eq_true, beq_iff_eq] at ht
          rcases ht with ((((h | h) | h) | h) | h) | h
          · exact .inl h
          · exact .inr (.inl h)
          · exact .inr (.inr (.inl h))
          · exact .inr (.inr (.inr (.inl h)))
          · exact .inr (.inr (.inr (.inr (.inl h))))
          · exact .inr (.inr (.inr (.inr (.inr h))))
        have hbn : Str.ofString t ∈ bNames := by
          rcases t6 with rfl | rfl | rfl | rfl | rfl | rfl <;> decide
        have hbt : bootBuiltins (Str.ofString t) = some (.type t) := by
          rcases t6 with rfl | rfl | rfl | rfl | rfl | rfl <;> decide +kernel
        have hnm : Str.ofString t ≠ "__name__" := by
          rcases t6 with rfl | rfl | rfl | rfl | rfl | rfl <;> decide
        have hnd : (Str.ofString t == ("__debug__" : Str)) = false := by
          rcases t6 with rfl | rfl | rfl | rfl | rfl | rfl <;> decide
        have h2 : PE X (.Name (Str.ofString t) p2) (tC (.ty t)) := pe_bltn (x.gl hg2) (x.free _ hbn) hbt rfl hnm hnd
        refine ⟨_, fun vs H Q => match vs with
          | [v] => rIsi X.K [v, .ty t] H Q
          | _ => False, pe_callB call_isi (x.gl hg) (x.free _ (by decide)) (by decide +kernel) (pa_cons h1 (pa_cons h2 pa_nil (star_ok rfl)) (star_ok ok)) (by decide) (by decide) (star_ok ok) (star_any (es := [.Name (Str.ofString t) p2]) rfl), (fun z => by cases z), fun σ H Q q => q, fun vs H Q q => ?_⟩
        obtain ⟨y1, v, w, B, ev, _, ov, hf2, fin⟩ := rS_1 rfl q
        subst ev
        obtain ⟨bb, g1, g2⟩ := lstE hf2
        obtain ⟨u, ty, kt⟩ := isOf_rep ht g1 ov.1
        rw [← x.K] at ty kt
        exact ⟨v, .ty t, u, .type t, bb, rfl, .ty t, ty, kt, pB_fin g2 fin⟩
      · cases hf'
    · cases hf'
end
end Vx
end

section
set_option maxHeartbeats 4000000
/-! Vx 10: expressions, form by form. -/
namespace Vx
open PySem L2
/-- what a result leads to -/
def Kn {α : Type} (x : Res α) (ko : α → Prop) (kx : Nat → Env → Prop) : Prop := match x with
  | .ok a => ko a
  | .ex c _ r => kx c r
  | .bad => False
theorem Kn.bind {α β : Type} {x : Res α} {f : α → Res β} {ko : β → Prop} {kx : Nat → Env → Prop} (h : Kn (x.bind f) ko kx) : Kn x (fun a => Kn (f a) ko kx) kx := by
  cases x <;> exact h
theorem Kn.mono {α : Type} {x : Res α} {ko ko' : α → Prop} {kx kx' : Nat → Env → Prop} (h : Kn x ko kx) (h1 : ∀ a, x = .ok a → ko a → ko' a) (h2 : ∀ c r, kx c r → kx' c r) : Kn x ko' kx' := by
  cases x with
  | ok a => exact h1 a rfl h
  | ex c p r => exact h2 c r h
  | bad => exact h
theorem Kn.of {α : Type} {x : Option α} {ko : α → Prop} {kx : Nat → Env → Prop} (h : Kn (Res.of x) ko kx) : ∃ a, x = some a ∧ ko a := by
  cases x with
  | some a => exact ⟨a, rfl, h⟩
  | none => exact h.elim

/-- the promise of a def -/
def ioVals (io : List Nat) (xs : List A) : List V := io.filterMap fun i => (xs[i]?).map A.val
/-- what was lent -/
def roTr (ro : List Nat) (xs : List A) : List A := ro.filterMap fun i => xs[i]?
def spOf (c : Gx) (io ro : List Nat) (den : List W → Rf) (m : Nat) : Sp := fun vs H Q E => ∃ (B : Hp) (xs : List A), vs = vals xs ∧ xs.length = m ∧ G c ⟨H, B, ads (objsL c xs)⟩ B H xs ∧
  match den (xs.map A.er) with
  | .ok w us => ∀ B' H' x ys, Same B B' → G c ⟨H, B, ads (objsL c xs)⟩ B' H' (x :: (ys ++ roTr ro xs)) → x.er = w → ys.map A.er = us → vals ys = ioVals io xs → Q x.val H'
  | .ex cl _ us => ∀ B' H' ys, Same B B' → G c ⟨H, B, ads (objsL c xs)⟩ B' H' (ys ++ roTr ro xs) → ys.map A.er = us → vals ys = ioVals io xs → E (.ref (c.cls cl)) none H'
  | .bad => False
/-- a def that stands and keeps its promise -/
def FAt (c : Gx) (K : PySem.W.Frag) (mg : Str → Option Value) (f : Fn) (a : Addr) : Prop := match f.cl with
  | none => mg f.name = some (.ref a)
  | some ci => Meth K (c.cls ci) f.name a ∧ Cls K (c.cls ci)
def FOk (c : Gx) (Γ : Den) (X : Cx) (f : Fn) : Prop := ∃ (a : Addr) (fd : FuncData) (ps : List Str) (lv : Nat), FnOk X.prog X.w X.K X.mg X.base (CX X.prog X.w) lv a fd ps (spOf c f.io f.ro (Γ f.id) f.ar) ∧ ps.length = f.ar ∧ Room (lv + 2) X.A ∧ FAt c X.K X.mg f a ∧
  PySem.W.keepIn X.K (.ref a) = true ∧ Binds X.K fd ps []
/-- a class that stands -/
structure ClOk (c : Gx) (K : PySem.W.Frag) (mg : Str → Option Value) (q : Kls) : Prop where
  cls : Cls K (c.cls q.ci)
  noat : ∀ f ∈ q.flds, NoAttr K (c.cls q.ci) f
  made : q.mkb = true → mg q.name = some (.ref (c.cls q.ci)) ∧ PySem.W.makesIn K (c.cls q.ci) = true ∧ PySem.W.keepIn K (.ref (c.cls q.ci)) = true
structure XS (c : Gx) (Γ : Den) (k : Ck) (X : Cx) (W : WX) : Prop where
  ok : XOk c k X
  tk : Takes X W
  fns : ∀ f ∈ k.fns, FOk c Γ X f
  cons : ∀ p ∈ k.cons, ∃ u, X.mg p.1 = some u ∧ RelV p.2.v u
  clss : ∀ q ∈ k.clss, ClOk c X.K X.mg q
  tups : ∀ p ∈ k.tups, ∃ a, X.mg p.1 = some (.ref a) ∧ ∀ H, SqT X.K H a (p.2.map V.str)

/-- an exception leaves -/
def KX (c : Gx) (n : En) (σ : St) (as : Sl) (B : Hp) (W : WX) (cl : Nat) (r : Env) : Prop := ∀ as1 B1 H1 T1 M1, Nx c n σ M1 as B as1 T1 B1 H1 → ers as1 = r → W (.ref (c.cls cl)) none σ H1
theorem KX.trans {c : Gx} {n : En} {σ : St} {as as1 : Sl} {B B1 H1 : Hp} {W : WX} {M : List Nat} {T1 : List A} (a : Nx c n σ M as B as1 T1 B1 H1) : ∀ cl r, KX c n σ as B W cl r → KX c n σ as1 B1 W cl r :=
  fun _ _ h as2 B2 H2 T2 M2 b e => h as2 B2 H2 T2 (M ++ M2) (a.trans b) e
/-- a text that may be tested as it is -/
def plT (e : Expr) : Bool := okT e || isCmp e
/-- EXPRESSIONS: e computes sem, touching the slots M at most -/
def ESnd (c : Gx) (X : Cx) (W : WX) (e : Expr) (M : List Nat) (sem : Env → Res (Vx.W × Env)) : Prop :=
  ∃ t, PE X e t ∧ (plT e = true → PT X e (tTest t)) ∧ ∀ (n : En) (σ : St) (as : Sl) (B H : Hp) (T : List A) (Q : VK), G c n B H (live as ++ T) → SR σ as →
    Kn (sem (ers as)) (fun a => ∀ as1 x B1 H1, Nx c n σ M as B as1 (x :: T) B1 H1 → x.er = a.1 → ers as1 = a.2 → Q x.val H1) (KX c n σ as B W) → t σ H Q
/-- .. as a test -/
def TSnd (c : Gx) (X : Cx) (W : WX) (e : Expr) (M : List Nat) (sem : Env → Res (Bool × Env)) : Prop :=
  ∃ t, PT X e t ∧ ∀ (n : En) (σ : St) (as : Sl) (B H : Hp) (T : List A) (Q : Bool → Hp → Prop), G c n B H (live as ++ T) → SR σ as →
    Kn (sem (ers as)) (fun a => ∀ as1 B1 H1, Nx c n σ M as B as1 T B1 H1 → ers as1 = a.2 → Q a.1 H1) (KX c n σ as B W) → t σ H Q
/-- a place -/
def PSnd (c : Gx) (X : Cx) (W : WX) (e : Expr) (M : List Nat) (sem : Env → Res ((Nat × List Nat) × Env)) : Prop :=
  ∃ t, PE X e t ∧ ∀ (n : En) (σ : St) (as : Sl) (B H : Hp) (T : List A) (Q : VK), G c n B H (live as ++ T) → SR σ as →
    Kn (sem (ers as)) (fun a => ∀ as1 v w B1 H1, Nx c n σ M as B as1 T B1 H1 → ers as1 = a.2 → PAt c B1 as1 a.1 v w → Q v H1) (KX c n σ as B W) → t σ H Q

section
variable {c : Gx} {Γ : Den} {k : Ck} {X : Cx} {W : WX} {n : En} {σ : St} {as as1 as2 : Sl} {B H B1 H1 B2 H2 : Hp} {T T1 T2 : List A} {M N : List Nat}
theorem Nx.dropT {x : A} (h : Nx c n σ M as B as1 (x :: T) B1 H1) : Nx c n σ M as B as1 T B1 H1 :=
  ⟨h.sb, Gd.drop1 (x := x) (Gd.perm h.gd List.perm_middle), h.sr, h.fr⟩
theorem Nx.drop2 {x y : A} (h : Nx c n σ M as B as1 (y :: x :: T) B1 H1) : Nx c n σ M as B as1 (y :: T) B1 H1 :=
  ⟨h.sb, by
    have g := h.gd
    have p : (live as1 ++ y :: x :: T).Perm (x :: (live as1 ++ y :: T)) := by
      refine (List.Perm.append_left _ (List.Perm.swap x y T)).trans ?_
      exact List.perm_middle
    exact Gd.drop1 (Gd.perm g p), h.sr, h.fr⟩
theorem Nx.hd {x : A} (h : Nx c n σ M as B as1 (x :: T) B1 H1) : x ∈ live as1 ++ x :: T := List.mem_append_right _ List.mem_cons_self
/-- a flat temporary -/
theorem Nx.int {x : A} {i : Int} (h : Nx c n σ M as B as1 (x :: T) B1 H1) (e : x.er = .fl (.int i)) : x.val = .int i := by
  have r := h.gd.lf x h.hd
  cases x with
  | fl v d =>
    have e2 : d = .int i := W.fl.inj e
    subst e2
    exact r
  | nd a dx k cs =>
    rw [A.er_nd] at e
    cases e
theorem Nx.bl {x : A} {i : Bool} (h : Nx c n σ M as B as1 (x :: T) B1 H1) (e : x.er = .fl (.bl i)) : x.val = .bl i := by
  have r := h.gd.lf x h.hd
  cases x with
  | fl v d =>
    have e2 : d = .bl i := W.fl.inj e
    subst e2
    exact r
  | nd a dx k cs =>
    rw [A.er_nd] at e
    cases e
/-- a place found earlier -/
theorem PAt.stab {q : Nat × List Nat} {v : V} {w w2 : Vx.W} (h : PAt c B1 as1 q v w) (x : Nx c n σ M as1 B1 as2 T2 B2 H2) (s1 : SR σ as1) (hq : q.2 = [] ∨ q.1 ∉ M) (e : eget (ers as2) q = some w2) : PAt c B2 as2 q v w2 := by
  rcases hq with hq | hq
  · obtain ⟨y, h1, h2⟩ := h
    rw [hq] at h2
    obtain ⟨e1, e2⟩ := h2
    unfold eget at e
    rw [ers_get] at e
    cases e3 : as2[q.1]? with
    | none =>
      rw [e3] at e
      cases e
    | some z =>
      cases z with
      | none =>
        rw [e3] at e
        cases e
      | some z =>
        rw [e3] at e
        have e4 : z.er.get q.2 = some w2 := e
        rw [hq, W.get_nil] at e4
        refine ⟨z, e3, ?_⟩
        rw [hq]
        have a1 := s1.2 _ _ h1
        have a2 := x.sr.2 _ _ e3
        rw [a1] at a2
        have a3 : y.val = z.val := Option.some.inj (Option.some.inj a2)
        exact ⟨e1.trans a3, (Option.some.inj e4).symm⟩
  · have h2 := h.mono x.sb (x.fr _ hq)
    have := h2.get
    rw [e] at this
    rw [Option.some.inj this]
    exact h2

/-! ### names -/
def visB (k : Ck) (i : Nat) (x : Str) : Bool := decide (k.N[i]? = some x) && (decide (k.sc.names.lookup x = some .local) || decide (k.sc.names.lookup x = some .cell) || decide (k.sc.names.lookup x = some .free)) && !(x == ("__debug__" : Str)) && !(x == ("__classdict__" : Str))
theorem vis_pe (x : XOk c k X) {i : Nat} {y : Str} {pos : Pos} (h : visB k i y = true) : PE X (.Name y pos) (tVar i) := by
  unfold visB at h
  obtain ⟨h123, h4⟩ := Bool.and_eq_true_iff.mp h
  obtain ⟨h12, h3⟩ := Bool.and_eq_true_iff.mp h123
  obtain ⟨h1, h2⟩ := Bool.and_eq_true_iff.mp h12
  refine pe_var (by rw [x.hN]; exact of_decide_eq_true h1) ?_ (by simpa using h3) (by simpa using h4)
  show _ ∨ _ ∨ _
  rw [x.sc]
  rcases Bool.or_eq_true_iff.mp h2 with h2 | h2
  · rcases Bool.or_eq_true_iff.mp h2 with h2 | h2
    · exact .inl (of_decide_eq_true h2)
    · exact .inr (.inl (of_decide_eq_true h2))
  · exact .inr (.inr (of_decide_eq_true h2))
theorem pl_of_ok {e : Expr} {t : TE} (h : PE X e t) (ho : okT e = true) : PT X e (tTest t) := pt_val h (test_ok ho)
theorem plN {e : Expr} {t : TE} (h : PE X e t) (hc : isCmp e = false) : plT e = true → PT X e (tTest t) := fun z => by
  unfold plT at z
  rw [hc, Bool.or_false] at z
  exact pl_of_ok h z
theorem psnd_sl (x : XOk c k X) {i : Nat} {y : Str} {pos : Pos} (h : visB k i y = true) : PSnd c X W (.Name y pos) [] (fun r => match r[i]? with
    | some (some _) => .ok ((i, []), r)
    | _ => .bad) := by
  refine ⟨tVar i, vis_pe x h, fun n σ as B H T Q g s hk => ?_⟩
  have e0 := ers_get (as := as) (i := i)
  dsimp only at hk
  cases e : as[i]? with
  | none =>
    rw [e0, e] at hk
    exact hk.elim
  | some z =>
    cases z with
    | none =>
      rw [e0, e] at hk
      exact hk.elim
    | some z =>
      rw [e0, e] at hk
      have hk' : ∀ as1 v w B1 H1, Nx c n σ [] as B as1 T B1 H1 → ers as1 = ers as → PAt c B1 as1 (i, []) v w → Q v H1 := hk
      exact ⟨z.val, s.2 i z e, hk' as z.val z.er B H (Nx.refl g s) rfl ⟨z, e, rfl, rfl⟩⟩

/-! ### places further in -/
theorem atI_of {vs : List V} {i : Int} {j : Nat} {u : V} (h : ixN vs.length i = some j) (e : vs[j]? = some u) : atI vs i = some u := by
  unfold atI
  rw [h]
  exact e
theorem ixN_lt {m : Nat} {i : Int} {j : Nat} (h : ixN m i = some j) : j < m := (ixN_seq h).2.1
theorem psnd_ix {p i : Expr} {Mp Mi : List Nat} {sp : Env → Res ((Nat × List Nat) × Env)} {si : Env → Res (Vx.W × Env)} {pos : Pos} (hp : PSnd c X W p Mp sp) (hi : ESnd c X W i Mi si) (hK : X.K = c.K) (ok : okE i = true)
    (st : ∀ r q r1, sp r = .ok (q, r1) → q.2 = [] ∨ q.1 ∉ Mi) :
    PSnd c X W (.Subscript p i pos) (Mp ++ Mi) (fun r => (sp r).bind fun (q, r1) => (si r1).bind fun (i, r2) => Res.of (((eget r2 q).bind fun w => stepIx w i).map fun j => ((q.1, q.2 ++ [j]), r2))) := by
  obtain ⟨tp, pp, kp⟩ := hp
  obtain ⟨ti, pi, _, ki⟩ := hi
  refine ⟨tOp (rIx X.K) tp ti, pe_ix ix_seq pp pi (ix_ok ok), fun n σ as B H T Q g s hk => ?_⟩
  refine kp n σ as B H T _ g s (hk.bind.mono ?_ fun _ _ z => z)
  rintro ⟨q, r1⟩ ea h as1 v w B1 H1 x1 (rfl : ers as1 = r1) pa
  refine ki n σ as1 B1 H1 T _ x1.gd x1.sr ((Kn.bind h).mono ?_ fun _ _ z => KX.trans x1 _ _ z)
  rintro ⟨b, r2⟩ eb h2 as2 y B2 H2 x2 e2 (rfl : ers as2 = r2)
  obtain ⟨⟨q', r'⟩, e4, h3⟩ := Kn.of h2
  obtain ⟨j, e5, e6⟩ := Option.map_eq_some_iff.mp e4
  obtain ⟨w2, e7, e8⟩ := Option.bind_eq_some_iff.mp e5
  have pa2 := pa.stab x2 x1.sr (st _ _ _ ea) e7
  unfold stepIx at e8
  injection e6 with e61 e62
  have fin : ∀ (u : V) (z : Vx.W), PAt c B2 as2 (q.1, q.2 ++ [j]) u z → Q u H2 := fun u z pz => by
    refine h3 as2 u z B2 H2 (x1.trans x2.dropT) e62 ?_
    have e61' : (q.1, q.2 ++ [j]) = q' := e61
    show PAt c B2 as2 q' u z
    rw [← e61']
    exact pz
  split at e8
  · rename_i m i' ek
    obtain ⟨a', vs, g1, g2, g3, g4, g5⟩ := PAt.kids x2.gd pa2 ek
    obtain ⟨u, z, g6, g7⟩ := g5 j (ixN_lt e8)
    have hy : y.val = .int i' := x2.int e2
    refine .inl ⟨a', vs, i', u, g1, hy, .inl (.inl g2), atI_of (by rw [g3]; exact e8) g6, fin u z g7⟩
  · rename_i m i' ek
    obtain ⟨a', vs, g1, g2, g3, g4, g5⟩ := PAt.kids x2.gd pa2 ek
    obtain ⟨u, z, g6, g7⟩ := g5 j (ixN_lt e8)
    have hy : y.val = .int i' := x2.int e2
    refine .inr (.inl ⟨a', vs, i', u, g1, hy, .inl (.inl g2), atI_of (by rw [g3]; exact e8) g6, fin u z g7⟩)
  · cases e8
theorem look_at {α : Type} [DecidableEq α] {k : α} : ∀ {ks : List α} {us : List V} {j : Nat} {u : V}, atZ ks k = some j → us[j]? = some u → valV (ks.zip us) k = some u
  | [], _, _, _, h, _ => by cases h
  | a :: ks, [], j, u, h, h2 => by simp at h2
  | a :: ks, v :: us, j, u, h, h2 => by
    have h' : (if a = k then some 0 else (atZ ks k).map (· + 1)) = some j := h
    by_cases e : a = k
    · rw [if_pos e] at h'
      have e2 := Option.some.inj h'
      subst e2
      have e3 : v = u := by simpa using h2
      rw [← e3]
      exact valV_pos (p := (a, v)) e
    · rw [if_neg e] at h'
      obtain ⟨i, q1, q2⟩ := Option.map_eq_some_iff.mp h'
      subst q2
      have : valV ((a :: ks).zip (v :: us)) k = valV (ks.zip us) k := valV_neg (p := (a, v)) e
      rw [this]
      exact look_at q1 (by simpa using h2)
theorem atZ_lt {α : Type} [DecidableEq α] {k : α} : ∀ {ks : List α} {j : Nat}, atZ ks k = some j → j < ks.length
  | [], _, h => by cases h
  | a :: ks, j, h => by
    have h' : (if a = k then some 0 else (atZ ks k).map (· + 1)) = some j := h
    by_cases e : a = k
    · rw [if_pos e] at h'
      have e2 := Option.some.inj h'
      subst e2
      exact Nat.succ_pos _
    · rw [if_neg e] at h'
      obtain ⟨i, q1, q2⟩ := Option.map_eq_some_iff.mp h'
      subst q2
      exact Nat.succ_lt_succ (atZ_lt q1)
theorem psnd_ky {p i : Expr} {Mp Mi : List Nat} {sp : Env → Res ((Nat × List Nat) × Env)} {si : Env → Res (Vx.W × Env)} {pos : Pos} (hp : PSnd c X W p Mp sp) (hi : ESnd c X W i Mi si) (x : XOk c k X) (ok : okE i = true)
    (st : ∀ r q r1, sp r = .ok (q, r1) → q.2 = [] ∨ q.1 ∉ Mi) :
    PSnd c X W (.Subscript p i pos) (Mp ++ Mi) (fun r => (sp r).bind fun (q, r1) => (si r1).bind fun (i, r2) => Res.of (((eget r2 q).bind fun w => stepKy w i).map fun j => ((q.1, q.2 ++ [j]), r2))) := by
  obtain ⟨tp, pp, kp⟩ := hp
  obtain ⟨ti, pi, _, ki⟩ := hi
  have hu : X.A.units + 1 < cLine := hu_of x.room
  refine ⟨tDGet tp ti, pe_dget hu pp pi (noSl_ok ok), fun n σ as B H T Q g s hk => ?_⟩
  refine kp n σ as B H T _ g s (hk.bind.mono ?_ fun _ _ z => z)
  rintro ⟨q, r1⟩ ea h as1 v w B1 H1 x1 (rfl : ers as1 = r1) pa
  refine ki n σ as1 B1 H1 T _ x1.gd x1.sr ((Kn.bind h).mono ?_ fun _ _ z => KX.trans x1 _ _ z)
  rintro ⟨b, r2⟩ eb h2 as2 y B2 H2 x2 e2 (rfl : ers as2 = r2)
  obtain ⟨⟨q', r'⟩, e4, h3⟩ := Kn.of h2
  obtain ⟨j, e5, e6⟩ := Option.map_eq_some_iff.mp e4
  obtain ⟨w2, e7, e8⟩ := Option.bind_eq_some_iff.mp e5
  have pa2 := pa.stab x2 x1.sr (st _ _ _ ea) e7
  unfold stepKy at e8
  injection e6 with e61 e62
  have fin : ∀ (u : V) (z : Vx.W), PAt c B2 as2 (q.1, q.2 ++ [j]) u z → Q u H2 := fun u z pz => by
    refine h3 as2 u z B2 H2 (x1.trans x2.dropT) e62 ?_
    have e61' : (q.1, q.2 ++ [j]) = q' := e61
    show PAt c B2 as2 q' u z
    rw [← e61']
    exact pz
  have vw : RepD c H2 b.dat y.val := by
    rw [show b = y.er from e2.symm]
    exact Gd.view x2.gd x2.hd
  split at e8
  · rename_i ks m ek
    obtain ⟨kk, q1, q2⟩ := Option.bind_eq_some_iff.mp e8
    obtain ⟨a', vs, g1, g2, g3, g4, g5⟩ := PAt.kids x2.gd pa2 ek
    have hj : j < m := Nat.lt_of_lt_of_eq (atZ_lt q2) g4
    obtain ⟨u, z, g6, g7⟩ := g5 j hj
    exact ⟨a', u, g1, .inl ⟨ks.zip vs, kk, g2, key_rep (B := H2) q1 vw, (look_at q2 g6).symm⟩, fin u z g7⟩
  · rename_i ks m ek
    obtain ⟨kk, q1, q2⟩ := Option.bind_eq_some_iff.mp e8
    obtain ⟨a', vs, g1, g2, g3, g4, g5⟩ := PAt.kids x2.gd pa2 ek
    have hj : j < m := Nat.lt_of_lt_of_eq (atZ_lt q2) g4
    obtain ⟨u, z, g6, g7⟩ := g5 j hj
    obtain ⟨t, t1, t2⟩ := keyT_rep q1 vw
    exact ⟨a', u, g1, .inr ⟨ks.zip vs, kk, t, g2, t1, t2, (look_at q2 g6).symm⟩, fin u z g7⟩
  · rename_i ks m ek
    obtain ⟨kk, q1, q2⟩ := Option.bind_eq_some_iff.mp e8
    obtain ⟨a', vs, g1, g2, g3, g4, g5⟩ := PAt.kids x2.gd pa2 ek
    have hj : j < m := Nat.lt_of_lt_of_eq (atZ_lt q2) g4
    obtain ⟨u, z, g6, g7⟩ := g5 j hj
    exact ⟨a', u, g1, .inl ⟨ks.zip vs, kk, .inr g2, key_rep (B := H2) q1 vw, (look_at q2 g6).symm⟩, fin u z g7⟩
  · rename_i ks m ek
    obtain ⟨kk, q1, q2⟩ := Option.bind_eq_some_iff.mp e8
    obtain ⟨a', vs, g1, g2, g3, g4, g5⟩ := PAt.kids x2.gd pa2 ek
    have hj : j < m := Nat.lt_of_lt_of_eq (atZ_lt q2) g4
    obtain ⟨u, z, g6, g7⟩ := g5 j hj
    obtain ⟨t, t1, t2⟩ := keyT_rep q1 vw
    exact ⟨a', u, g1, .inr ⟨ks.zip vs, kk, t, .inr g2, t1, t2, (look_at q2 g6).symm⟩, fin u z g7⟩
  · cases e8
/-! ### fields -/
theorem fld_at {f : Str} : ∀ {fs : List Str} {us : List V} {j : Nat} {u : V}, atZ fs f = some j → us[j]? = some u → (fs.zip us).lookup f = some u
  | [], _, _, _, h, _ => by cases h
  | a :: fs, [], j, u, h, h2 => by simp at h2
  | a :: fs, v :: us, j, u, h, h2 => by
    have h' : (if a = f then some 0 else (atZ fs f).map (· + 1)) = some j := h
    show ((a, v) :: fs.zip us).lookup f = some u
    rw [List.lookup_cons]
    by_cases e : a = f
    · rw [if_pos e] at h'
      have e2 := Option.some.inj h'
      subst e2
      have e3 : v = u := by simpa using h2
      rw [← e3, e]
      simp
    · rw [if_neg e] at h'
      obtain ⟨i, q1, q2⟩ := Option.map_eq_some_iff.mp h'
      subst q2
      have e4 : (f == a) = false := beq_eq_false_iff_ne.mpr (Ne.symm e)
      rw [e4]
      exact fld_at q1 (by simpa using h2)
def clB (k : Ck) (ci : Nat) (f : Str) : Bool := k.clss.any fun q => decide (q.ci = ci) && q.flds.contains f
theorem clB_ok (x : XS c Γ k X W) {ci : Nat} {f : Str} (h : clB k ci f = true) : Cls X.K (c.cls ci) ∧ NoAttr X.K (c.cls ci) f := by
  obtain ⟨q, hq, h⟩ := List.any_eq_true.mp h
  obtain ⟨h1, h2⟩ := Bool.and_eq_true_iff.mp h
  have h1 := of_decide_eq_true h1
  subst h1
  have z := x.clss q hq
  exact ⟨z.cls, z.noat f (List.contains_iff_mem.mp h2)⟩
theorem psnd_fd {p : Expr} {ci : Nat} {f : Str} {Mp : List Nat} {sp : Env → Res ((Nat × List Nat) × Env)} {pos : Pos} (hp : PSnd c X W p Mp sp) (x : XS c Γ k X W) (ok : okO p = true) (hf : clB k ci f = true) :
    PSnd c X W (.Attribute p f pos) Mp (fun r => (sp r).bind fun (q, r1) => Res.of (((eget r1 q).bind fun w => stepFd w ci f).map fun j => ((q.1, q.2 ++ [j]), r1))) := by
  obtain ⟨tp, pp, kp⟩ := hp
  obtain ⟨c1, c2⟩ := clB_ok x hf
  refine ⟨tFld X.K tp f, pe_fld pp (base_ok ok), fun n σ as B H T Q g s hk => ?_⟩
  refine kp n σ as B H T _ g s (hk.bind.mono ?_ fun _ _ z => z)
  rintro ⟨q, r1⟩ ea h as1 v w B1 H1 x1 (rfl : ers as1 = r1) pa
  obtain ⟨⟨q', r'⟩, e4, h3⟩ := Kn.of h
  obtain ⟨j, e5, e6⟩ := Option.map_eq_some_iff.mp e4
  obtain ⟨w2, e7, e8⟩ := Option.bind_eq_some_iff.mp e5
  have e7' := pa.get
  dsimp only at e7'
  rw [e7'] at e7
  have e7 := Option.some.inj e7
  subst e7
  injection e6 with e61 e62
  unfold stepFd at e8
  split at e8
  · rename_i i fs m ek
    split at e8
    · rename_i ei
      subst ei
      obtain ⟨a', vs, g1, g2, g3, g4, g5⟩ := PAt.kids x1.gd pa ek
      have hj : j < m := Nat.lt_of_lt_of_eq (atZ_lt e8) g4
      obtain ⟨u, z, g6, g7⟩ := g5 j hj
      obtain ⟨dx, g2⟩ := g2
      refine ⟨a', c.cls i, dx, fs.zip vs, u, g1, g2, c1, c2, fld_at e8 g6, ?_⟩
      refine h3 as1 u z B1 H1 x1 e62 ?_
      have e61' : (q.1, q.2 ++ [j]) = q' := e61
      show PAt c B1 as1 q' u z
      rw [← e61']
      exact g7
    · cases e8
  · cases e8
end
end Vx
end

section
set_option maxHeartbeats 4000000
/-! Vx 11: expressions, form by form (2). -/
namespace Vx
open PySem L2
section
variable {c : Gx} {Γ : Den} {k : Ck} {X : Cx} {Y : WX} {n : En} {σ : St} {as as1 as2 : Sl} {B H B1 H1 B2 H2 : Hp} {T T1 T2 : List A} {M N : List Nat}
abbrev Sm (α : Type) := Env → Res (α × Env)
/-- a value known for good is handed out -/
theorem Nx.add {v : V} {d : D} (h : Nx c n σ M as B as1 T B1 H1) (r : RepD c B1 d v) : Nx c n σ M as B as1 (.fl v d :: T) B1 H1 :=
  ⟨h.sb, Gd.perm (Gd.add h.gd r) (List.perm_middle (a := A.fl v d)).symm, h.sr, h.fr⟩
theorem W.sub_nil {w : W} : w.sub [] = some w := by
  cases w <;> rfl
theorem snd_gt {e : Expr} {Mp : List Nat} {sp : Sm (Nat × List Nat)} (hp : PSnd c X Y e Mp sp) (ho : okT e = true) : ESnd c X Y e Mp (fun r => (sp r).bind fun (q, r1) => match eget r1 q with
    | some (.fl d) => .ok (.fl d, r1)
    | _ => .bad) := by
  obtain ⟨t, pe, kp⟩ := hp
  refine ⟨t, pe, fun _ => pl_of_ok pe ho, fun n σ as B H T Q g s hk => kp n σ as B H T Q g s (hk.bind.mono ?_ fun _ _ z => z)⟩
  rintro ⟨q, r1⟩ ea h as1 v w B1 H1 x1 (rfl : ers as1 = r1) pa
  have e1 := pa.get
  dsimp only at h e1
  rw [e1] at h
  cases w with
  | nd k cs => exact h.elim
  | fl d =>
    have h' : ∀ as2 x B2 H2, Nx c n σ Mp as B as2 (x :: T) B2 H2 → x.er = .fl d → ers as2 = ers as1 → Q x.val H2 := h
    obtain ⟨y, y1, y2⟩ := id pa
    exact h' as1 (.fl v d) B1 H1 (x1.add (A.at_rep (x1.gd.lf y (List.mem_append_left _ (live_mem y1))) y2)) rfl rfl
theorem snd_rd {e : Expr} {Mp : List Nat} {root : Nat} {sp : Sm (Nat × List Nat)} (hp : PSnd c X Y e Mp sp) (ho : okT e = true) (hroot : ∀ r q r1, sp r = .ok (q, r1) → q.1 = root) :
    ESnd c X Y e (root :: Mp) (fun r => (sp r).bind fun (q, r1) => Res.of (readAt r1 q)) := by
  obtain ⟨t, pe, kp⟩ := hp
  refine ⟨t, pe, fun _ => pl_of_ok pe ho, fun n σ as B H T Q g s hk => kp n σ as B H T Q g s (hk.bind.mono ?_ fun _ _ z => z)⟩
  rintro ⟨q, r1⟩ ea h as1 v w B1 H1 x1 (rfl : ers as1 = r1) pa
  obtain ⟨⟨w', r2⟩, e1, h2⟩ := Kn.of h
  have e2 := pa.get
  unfold readAt at e1
  dsimp only at e2
  rw [e2] at e1
  obtain ⟨y, y1, y2⟩ := id pa
  have hq : q.1 = root := hroot _ _ _ ea
  cases w with
  | fl d =>
    have e3 : (W.fl d, ers as1) = (w', r2) := Option.some.inj e1
    injection e3 with e3 e4
    subst e3
    subst e4
    exact h2 as1 (.fl v d) B1 H1 ((x1.add (A.at_rep (x1.gd.lf y (List.mem_append_left _ (live_mem y1))) y2)).mono fun i hi => List.mem_cons_of_mem _ hi) rfl rfl
  | nd k cs =>
    have e3 : (W.fl (W.nd k cs).dat, W.setAt (ers as1) q.1 q.2 (.fl (W.nd k cs).dat)) = (w', r2) := Option.some.inj e1
    injection e3 with e3 e4
    obtain ⟨a, dx, xs, z1, z2, z3⟩ := A.at_sub y2
    obtain ⟨B2, s2, g2, r2'⟩ := G.freezeAt x1.gd y1 z1
    have ed : (A.nd a dx k xs).er = .nd k cs := by rw [A.er_nd, z2]
    rw [ed] at g2 r2'
    have hv : (A.nd a dx k xs).val = v := z3.symm
    rw [hv] at g2 r2'
    obtain ⟨R, p1, p2⟩ := A.put_at (c := c) z1
    have pv := (p2 (.fl v (W.nd k cs).dat) hv.symm).1
    refine h2 (as1.set q.1 (some (y.put q.2 (.fl v (W.nd k cs).dat)))) (.fl v (W.nd k cs).dat) B2 H1 ⟨x1.sb.trans s2, g2, x1.sr.chg y1 pv, fun i hi => ?_⟩ (by rw [← e3]; rfl) ?_
    · rw [List.getElem?_set_ne (by rw [hq]; exact fun z => hi (by rw [z]; exact List.mem_cons_self))]
      exact x1.fr i fun z => hi (List.mem_cons_of_mem _ z)
    · rw [← e4, ers_set]
      unfold W.setAt
      rw [ers_get, y1]
      show (ers as1).set q.1 (some (y.put q.2 (.fl v (W.nd k cs).dat)).er) = _
      rw [A.er_put]
      rfl
theorem snd_mv (x : XOk c k X) {i : Nat} {y : Str} {pos : Pos} (h : visB k i y = true) : ESnd c X Y (.Name y pos) [i] (fun r => match r[i]? with
    | some (some w) => .ok (w, r.set i none)
    | _ => .bad) := by
  refine ⟨tVar i, vis_pe x h, fun _ => pl_of_ok (vis_pe x h) rfl, fun n σ as B H T Q g s hk => ?_⟩
  have e0 := ers_get (as := as) (i := i)
  dsimp only at hk
  cases e : as[i]? with
  | none =>
    rw [e0, e] at hk
    exact hk.elim
  | some z =>
    cases z with
    | none =>
      rw [e0, e] at hk
      exact hk.elim
    | some z =>
      rw [e0, e] at hk
      have hk' : ∀ as1 x B1 H1, Nx c n σ [i] as B as1 (x :: T) B1 H1 → x.er = z.er → ers as1 = (ers as).set i none → Q x.val H1 := hk
      refine ⟨z.val, s.2 i z e, hk' (as.set i none) z B H ⟨Same.refl _, g.take e, s.take, fun j hj => List.getElem?_set_ne fun z => hj (by rw [z]; exact List.mem_singleton.mpr rfl)⟩ rfl (by rw [ers_set]; rfl)⟩
/-- constants -/
theorem snd_flat {e : Expr} {d : D} {v : V} (pe : PE X e (tC v)) (ho : okT e = true) (hf : d.flat = true) (hv : d.v = v) : ESnd c X Y e [] (fun r => if d.flat then .ok (.fl d, r) else .bad) := by
  refine ⟨tC v, pe, fun _ => pl_of_ok pe ho, fun n σ as B H T Q g s hk => ?_⟩
  dsimp only at hk
  rw [if_pos hf] at hk
  have r : RepD c B d v := by
    cases d with
    | nd k cs => cases hf
    | _ => exact hv.symm
  exact hk as (.fl v d) B H ((Nx.refl g s).add r) rfl rfl
/-- a child of a temporary -/
theorem snd_ixT {a b : Expr} {Ma Mb : List Nat} {sa sb : Sm Vx.W} {pos : Pos} (ha : ESnd c X Y a Ma sa) (hb : ESnd c X Y b Mb sb) (ok : okE b = true) :
    ESnd c X Y (.Subscript a b pos) (Ma ++ Mb) (fun r => (sa r).bind fun (x, r1) => (sb r1).bind fun (i, r2) => Res.of ((kids1 x i).map fun w => (w, r2))) := by
  obtain ⟨ta, pa, _, ka⟩ := ha
  obtain ⟨tb, pb, _, kb⟩ := hb
  have pe := pe_ix (X := X) (pos := pos) ix_seq pa pb (ix_ok ok)
  refine ⟨_, pe, fun _ => pl_of_ok pe rfl, fun n σ as B H T Q g s hk => ?_⟩
  refine ka n σ as B H T _ g s (hk.bind.mono ?_ fun _ _ z => z)
  rintro ⟨wa, r1⟩ ea h as1 x B1 H1 x1 (ex : x.er = wa) (rfl : ers as1 = r1)
  refine kb n σ as1 B1 H1 (x :: T) _ x1.gd x1.sr ((Kn.bind h).mono ?_ fun _ _ z => KX.trans x1 _ _ z)
  rintro ⟨wb, r2⟩ eb h2 as2 y B2 H2 x2 (ey : y.er = wb) (rfl : ers as2 = r2)
  obtain ⟨⟨w', r'⟩, e4, h3⟩ := Kn.of h2
  obtain ⟨wc, e5, e6⟩ := Option.map_eq_some_iff.mp e4
  injection e6 with e61 e62
  subst e61
  subst e62
  obtain ⟨j, e7, e8⟩ := Option.bind_eq_some_iff.mp e5
  subst ex
  subst ey
  -- the index
  have hx : ∃ kd m i', x.er.kids = some (kd, m) ∧ (kd = .lst ∨ kd = .tup) ∧ y.er = .fl (.int i') ∧ ixN m i' = some j := by
    unfold stepIx at e7
    split at e7
    · rename_i m i' h1 h2
      exact ⟨.lst, m, i', h1, .inl rfl, h2, e7⟩
    · rename_i m i' h1 h2
      exact ⟨.tup, m, i', h1, .inr rfl, h2, e7⟩
    · cases e7
  obtain ⟨kd, m, i', k1, k2, k3, k4⟩ := hx
  have hy : y.val = .int i' := x2.int k3
  have xt := x1.trans x2.dropT
  cases x with
  | fl v0 d0 =>
    have rp : RepD c B2 d0 v0 := x2.gd.lf (.fl v0 d0) (List.mem_append_right _ (List.mem_cons_of_mem _ List.mem_cons_self))
    cases d0 with
    | nd kd' ds =>
      have k1' : (some (kd', ds.length) : Option (Kd × Nat)) = some (kd, m) := k1
      injection k1' with k1'
      injection k1' with q1 q2
      subst q1
      subst q2
      obtain ⟨a', vs, g1, g2, g3, g4⟩ := rp
      have hj := ixN_lt k4
      have hj2 : j < vs.length := by rw [← g4.len]; exact hj
      have e9 : (D.get (.nd kd' ds) [j]).map W.fl = some wc := e8
      have e10 : D.get (.nd kd' ds) [j] = some ds[j] := by
        show (ds[j]?).bind _ = _
        rw [List.getElem?_eq_getElem hj]
        exact D.get_nil
      rw [e10] at e9
      have e11 := Option.some.inj e9
      have rj : RepD c B2 ds[j] vs[j] := RepDs.at g4 (List.getElem?_eq_getElem hj) (List.getElem?_eq_getElem hj2)
      have fin : Q vs[j] H2 := h3 as2 (.fl vs[j] ds[j]) B2 H2 (xt.dropT.add rj) e11 rfl
      have at' : atI vs i' = some vs[j] := atI_of (by rw [← g4.len]; exact k4) (List.getElem?_eq_getElem hj2)
      rcases k2 with rfl | rfl
      · exact .inl ⟨a', vs, i', vs[j], g1, hy, .inl (.inl (x2.gd.sub _ _ g3)), at', fin⟩
      · exact .inr (.inl ⟨a', vs, i', vs[j], g1, hy, .inl (.inl (x2.gd.sub _ _ g3)), at', fin⟩)
    | _ => cases k1
  | nd a' dx kd' xs =>
    rw [A.er_nd] at k1 e8
    have k1' : (some (kd', (xs.map A.er).length) : Option (Kd × Nat)) = some (kd, m) := k1
    injection k1' with k1'
    injection k1' with q1 q2
    subst q1
    rw [List.length_map] at q2
    subst q2
    have hj := ixN_lt k4
    have e9 : ((xs.map A.er)[j]?).bind (fun y => y.get []) = some wc := e8
    rw [List.getElem?_map, List.getElem?_eq_getElem hj] at e9
    have e10 : (xs[j].er).get [] = some wc := e9
    rw [W.get_nil] at e10
    have hx0 : H2 a' = some (kd'.ho c dx (vals xs)) := (x2.gd.hold (a', kd'.ho c dx (vals xs)) (mem_objsL (x := .nd a' dx kd' xs) (List.mem_append_right _ (List.mem_cons_of_mem _ List.mem_cons_self)) List.mem_cons_self)).1
    -- the child is taken out, the rest is let go
    have gd2 : G c n B2 H2 (live as2 ++ xs[j] :: T) := by
      obtain ⟨R, r1, _⟩ := objsL_set (c := c) (List.getElem?_eq_getElem hj)
      have g0 := x2.dropT.gd
      have lfx := g0.lf (.nd a' dx kd' xs) (List.mem_append_right _ List.mem_cons_self)
      have p0 : (objsL c (live as2 ++ A.nd a' dx kd' xs :: T)).Perm (((a', kd'.ho c dx (vals xs)) :: (kd'.xtr a' dx ++ R)) ++ objsL c (live as2 ++ xs[j] :: T)) := by
        rw [objsL_append, objsL_append]
        show (objsL c (live as2) ++ (((a', kd'.ho c dx (vals xs)) :: (kd'.xtr a' dx ++ objsL c xs)) ++ objsL c T)).Perm (((a', kd'.ho c dx (vals xs)) :: (kd'.xtr a' dx ++ R)) ++ (objsL c (live as2) ++ (xs[j].objs c ++ objsL c T)))
        refine List.Perm.trans (List.Perm.append_left _ (List.Perm.append_right _ (List.Perm.cons _ (List.Perm.append_left _ (r1.trans List.perm_append_comm))))) ?_
        simp only [List.cons_append, List.append_assoc]
        refine List.perm_middle.trans (List.Perm.cons _ ?_)
        have sw : ∀ u v w : List (Addr × HO), (u ++ (v ++ w)).Perm (v ++ (u ++ w)) := fun u v w => by
          rw [← List.append_assoc, ← List.append_assoc]
          exact List.Perm.append_right _ List.perm_append_comm
        refine (sw _ _ _).trans (List.Perm.append_left _ ?_)
        exact (sw _ _ _)
      exact {
        b0 := g0.b0
        sub := g0.sub
        hold := fun q hq => g0.hold q (p0.mem_iff.mpr (List.mem_append_right _ hq))
        nd := by
          have h := (p0.map Prod.fst).nodup_iff.mp g0.nd
          rw [List.map_append] at h
          exact (List.nodup_append.mp h).2.1
        lf := fun z hz => by
          rcases List.mem_append.mp hz with hz | hz
          · exact g0.lf z (List.mem_append_left _ hz)
          · rcases List.mem_cons.mp hz with e | hz
            · rw [e]
              exact okL_get lfx.2 (List.getElem?_eq_getElem hj)
            · exact g0.lf z (List.mem_append_right _ (List.mem_cons_of_mem _ hz))
        fr := g0.fr
        nw := fun b hb => g0.nw b (hb.imp id fun z => by
          refine ((p0.map Prod.fst).mem_iff).mpr ?_
          rw [List.map_append]
          exact List.mem_append_right _ z) }
    have fin : Q xs[j].val H2 := h3 as2 xs[j] B2 H2 ⟨xt.sb, gd2, xt.sr, xt.fr⟩ (Option.some.inj e10) rfl
    have at' : atI (vals xs) i' = some xs[j].val := atI_of (by simpa using k4) (by simp [List.getElem?_eq_getElem hj])
    rcases k2 with rfl | rfl
    · exact .inl ⟨a', vals xs, i', xs[j].val, rfl, hy, .inl (.inl hx0), at', fin⟩
    · exact .inr (.inl ⟨a', vals xs, i', xs[j].val, rfl, hy, .inl (.inl hx0), at', fin⟩)
end
end Vx
end

section
set_option maxHeartbeats 4000000
/-! Vx 12: expressions, form by form (3). -/
namespace Vx
open PySem L2
section
variable {c : Gx} {Γ : Den} {k : Ck} {X : Cx} {Y : WX} {n : En} {σ : St} {as as1 as2 : Sl} {B H B1 H1 B2 H2 : Hp} {T T1 T2 : List A} {M N : List Nat}
theorem Nx.permT (h : Nx c n σ M as B as1 T1 B1 H1) (p : T1.Perm T2) : Nx c n σ M as B as1 T2 B1 H1 := ⟨h.sb, Gd.perm h.gd (List.Perm.append_left _ p), h.sr, h.fr⟩
theorem Nx.dropL : ∀ {xs : List A}, Nx c n σ M as B as1 (xs ++ T) B1 H1 → Nx c n σ M as B as1 T B1 H1
  | [], h => h
  | x :: xs, h => Nx.dropL (xs := xs) (Nx.dropT h)
/-- a list of temporaries -/
def LSnd (c : Gx) (X : Cx) (Y : WX) (es : List Expr) (M : List Nat) (sems : Sm (List W)) : Prop :=
  ∃ ts, PEs X es ts ∧ ∀ (n : En) (σ : St) (as : Sl) (B H : Hp) (T : List A) (Q : List V → Hp → Prop), G c n B H (live as ++ T) → SR σ as →
    Kn (sems (ers as)) (fun a => ∀ as1 xs B1 H1, Nx c n σ M as B as1 (xs ++ T) B1 H1 → xs.map A.er = a.1 → ers as1 = a.2 → Q (vals xs) H1) (KX c n σ as B Y) → tN ts σ H Q
theorem lsnd_nil : LSnd c X Y [] [] (fun r => .ok ([], r)) := ⟨[], rfl, fun n σ as B H T Q g s hk => by
  have hk' : ∀ as1 xs B1 H1, Nx c n σ [] as B as1 (xs ++ T) B1 H1 → xs.map A.er = [] → ers as1 = ers as → Q (vals xs) H1 := hk
  exact hk' as [] B H (Nx.refl g s) rfl rfl⟩
theorem lsnd_cons {e : Expr} {es : List Expr} {Me Ms : List Nat} {se : Sm W} {ss : Sm (List W)} (he : ESnd c X Y e Me se) (hs : LSnd c X Y es Ms ss) :
    LSnd c X Y (e :: es) (Me ++ Ms) (fun r => (se r).bind fun (w, r1) => (ss r1).bind fun (ws, r2) => .ok (w :: ws, r2)) := by
  obtain ⟨t, pe, _, ke⟩ := he
  obtain ⟨ts, ps, ks⟩ := hs
  refine ⟨t :: ts, ⟨t, ts, rfl, pe, ps⟩, fun n σ as B H T Q g s hk => ?_⟩
  refine ke n σ as B H T _ g s (hk.bind.mono ?_ fun _ _ z => z)
  rintro ⟨w, r1⟩ ea h as1 x B1 H1 x1 (ex : x.er = w) (rfl : ers as1 = r1)
  refine ks n σ as1 B1 H1 (x :: T) _ x1.gd x1.sr ((Kn.bind h).mono ?_ fun _ _ z => KX.trans x1 _ _ z)
  rintro ⟨ws, r2⟩ eb h2 as2 xs B2 H2 x2 (exs : xs.map A.er = ws) (rfl : ers as2 = r2)
  have h2' : ∀ as3 ys B3 H3, Nx c n σ (Me ++ Ms) as B as3 (ys ++ T) B3 H3 → ys.map A.er = w :: ws → ers as3 = ers as2 → Q (vals ys) H3 := h2
  refine h2' as2 (x :: xs) B2 H2 ((x1.trans x2).permT ?_) ?_ rfl
  · exact List.perm_middle
  · rw [List.map_cons, ex, exs]

theorem Nx.alloc {xs : List A} {kd : Kd} {p : Addr} (h : Nx c n σ M as B as1 (xs ++ T) B1 H1) (hp : H1 p = none) (hk : kd.xtr p 0 = []) (hf : kd.fits xs.length) : Nx c n σ M as B as1 (.nd p 0 kd xs :: T) B1 (upd H1 p (kd.ho c 0 (vals xs))) := by
  have g1 : G c n B1 H1 (xs ++ (live as1 ++ T)) := Gd.perm h.gd (by
    rw [← List.append_assoc, ← List.append_assoc]
    exact List.Perm.append_right _ List.perm_append_comm)
  exact ⟨h.sb, Gd.perm (Gd.alloc g1 hp hk hf) (List.perm_middle (a := A.nd p 0 kd xs)).symm, h.sr, h.fr⟩
theorem Nx.freeze {x : A} (h : Nx c n σ M as B as1 (x :: T) B1 H1) : ∃ B2, Nx c n σ M as B as1 (.fl x.val x.er.dat :: T) B2 H1 ∧ Same B1 B2 := by
  obtain ⟨B2, s, g⟩ := Gd.freeze (Gd.perm h.gd (List.perm_middle (a := x)))
  exact ⟨B2, ⟨h.sb.trans s, Gd.perm g (List.perm_middle (a := A.fl x.val x.er.dat)).symm, h.sr, h.fr⟩, s⟩
theorem snd_fz {e : Expr} {Me : List Nat} {se : Sm W} (he : ESnd c X Y e Me se) : ESnd c X Y e Me (fun r => (se r).bind fun (w, r1) => .ok (.fl w.dat, r1)) := by
  obtain ⟨t, pe, pt, ke⟩ := he
  refine ⟨t, pe, pt, fun n σ as B H T Q g s hk => ke n σ as B H T Q g s (hk.bind.mono ?_ fun _ _ z => z)⟩
  rintro ⟨w, r1⟩ ea h as1 x B1 H1 x1 (ex : x.er = w) (rfl : ers as1 = r1)
  have h' : ∀ as2 y B2 H2, Nx c n σ Me as B as2 (y :: T) B2 H2 → y.er = .fl w.dat → ers as2 = ers as1 → Q y.val H2 := h
  obtain ⟨B2, x2, _⟩ := x1.freeze
  exact h' as1 (.fl x.val x.er.dat) B2 H1 x2 (by rw [← ex]; rfl) rfl
theorem snd_lst {es : List Expr} {Ms : List Nat} {ss : Sm (List W)} {pos : Pos} (hs : LSnd c X Y es Ms ss) (ok : es.all okE = true) :
    ESnd c X Y (.List es pos) Ms (fun r => (ss r).bind fun (ws, r1) => if small ws.length then .ok (.nd .lst ws, r1) else .bad) := by
  obtain ⟨ts, ps, ks⟩ := hs
  have pe := pe_lst (X := X) (pos := pos) (PEs.pa ok ps)
  refine ⟨_, pe, plN pe rfl, fun n σ as B H T Q g s hk => ?_⟩
  refine ks n σ as B H T _ g s (hk.bind.mono ?_ fun _ _ z => z)
  rintro ⟨ws, r1⟩ ea h as1 xs B1 H1 x1 (exs : xs.map A.er = ws) (rfl : ers as1 = r1)
  dsimp only at h
  by_cases hz : small ws.length = true
  · rw [if_pos hz] at h
    have h' : ∀ as2 y B2 H2, Nx c n σ Ms as B as2 (y :: T) B2 H2 → y.er = .nd .lst ws → ers as2 = ers as1 → Q y.val H2 := h
    refine ⟨by rw [List.length_map]; rw [← exs, List.length_map] at hz; exact small_sz hz, fun p hp => ?_⟩
    exact h' as1 (.nd p 0 .lst xs) B1 _ (x1.alloc hp rfl trivial) (by rw [A.er_nd, exs]) rfl
  · rw [if_neg hz] at h
    exact h.elim
theorem mk_er {xs : List A} {p : Addr} : (if (xs.map A.er).all W.isFl = true then W.fl (A.nd p 0 .tup xs).er.dat else (A.nd p 0 .tup xs).er) = mkT (xs.map A.er) := by
  unfold mkT
  split
  · rename_i h
    rw [A.er_nd, W.dat_nd]
    congr 2
    refine List.map_congr_left fun w hw => ?_
    have := List.all_eq_true.mp h w hw
    cases w with
    | fl d => rfl
    | nd k cs => cases this
  · rw [A.er_nd]
theorem snd_tup {es : List Expr} {Ms : List Nat} {ss : Sm (List W)} {kk : Nat} {pos : Pos} (hs : LSnd c X Y es Ms ss) (ok : es.all okE = true) :
    ESnd c X Y (.Tuple es kk pos) Ms (fun r => (ss r).bind fun (ws, r1) => if small ws.length then .ok (mkT ws, r1) else .bad) := by
  obtain ⟨ts, ps, ks⟩ := hs
  have pe := pe_tup (X := X) (pos := pos) (x1 := kk) (PEs.pa ok ps)
  refine ⟨_, pe, plN pe rfl, fun n σ as B H T Q g s hk => ?_⟩
  refine ks n σ as B H T _ g s (hk.bind.mono ?_ fun _ _ z => z)
  rintro ⟨ws, r1⟩ ea h as1 xs B1 H1 x1 (exs : xs.map A.er = ws) (rfl : ers as1 = r1)
  dsimp only at h
  by_cases hz : small ws.length = true
  · rw [if_pos hz] at h
    have h' : ∀ as2 y B2 H2, Nx c n σ Ms as B as2 (y :: T) B2 H2 → y.er = mkT ws → ers as2 = ers as1 → Q y.val H2 := h
    refine ⟨by rw [List.length_map]; rw [← exs, List.length_map] at hz; exact small_sz hz, fun p hp => ?_⟩
    have x2 := x1.alloc (kd := .tup) hp rfl trivial
    rw [← exs, ← mk_er (p := p)] at h'
    by_cases ha : (xs.map A.er).all W.isFl = true
    · rw [if_pos ha] at h'
      obtain ⟨B2, x3, _⟩ := x2.freeze
      exact h' as1 _ B2 _ x3 rfl rfl
    · rw [if_neg ha] at h'
      exact h' as1 _ B1 _ x2 rfl rfl
  · rw [if_neg hz] at h
    exact h.elim
theorem snd_dnK {pos : Pos} : ESnd c X Y (.Dict [] [] pos) [] (fun r => .ok (.nd (.dK []) [], r)) :=
  ⟨tDNewK, pe_dnewK, plN pe_dnewK rfl, fun n σ as B H T Q g s hk p hp => by
    have hk' : ∀ as1 x B1 H1, Nx c n σ [] as B as1 (x :: T) B1 H1 → x.er = .nd (.dK []) [] → ers as1 = ers as → Q x.val H1 := hk
    exact hk' as (.nd p 0 (.dK []) []) B _ (Nx.alloc (xs := []) (kd := .dK []) (Nx.refl g s) hp rfl rfl) (A.er_nd _ _ _ _) rfl⟩
theorem snd_dnT {pos : Pos} : ESnd c X Y (.Dict [] [] pos) [] (fun r => .ok (.nd (.dT []) [], r)) :=
  ⟨tDNewT, pe_dnewT, plN pe_dnewT rfl, fun n σ as B H T Q g s hk p hp => by
    have hk' : ∀ as1 x B1 H1, Nx c n σ [] as B as1 (x :: T) B1 H1 → x.er = .nd (.dT []) [] → ers as1 = ers as → Q x.val H1 := hk
    exact hk' as (.nd p 0 (.dT []) []) B _ (Nx.alloc (xs := []) (kd := .dT []) (Nx.refl g s) hp rfl rfl) (A.er_nd _ _ _ _) rfl⟩

/-! ### operands -/
inductive Ov where
  | t (x : A) | p (q : Nat × List Nat) (v : V)
def Ov.rv : Ov → Rv
  | .t x => .t x.er
  | .p q _ => .p q
def Ov.v : Ov → V
  | .t x => x.val
  | .p _ v => v
def temps : List Ov → List A
  | [] => []
  | .t x :: us => x :: temps us
  | .p _ _ :: us => temps us
/-- the places are where they were found -/
def POk (c : Gx) (B : Hp) (as : Sl) (us : List Ov) : Prop := ∀ q v, Ov.p q v ∈ us → ∀ w, eget (ers as) q = some w → PAt c B as q v w
def OLSnd (c : Gx) (X : Cx) (Y : WX) (es : List Expr) (M : List Nat) (sems : Sm (List Rv)) : Prop :=
  ∃ ts, PEs X es ts ∧ ∀ (n : En) (σ : St) (as : Sl) (B H : Hp) (T : List A) (Q : List V → Hp → Prop), G c n B H (live as ++ T) → SR σ as →
    Kn (sems (ers as)) (fun a => ∀ as1 us B1 H1, Nx c n σ M as B as1 (temps us ++ T) B1 H1 → us.map Ov.rv = a.1 → ers as1 = a.2 → POk c B1 as1 us → Q (us.map Ov.v) H1) (KX c n σ as B Y) → tN ts σ H Q
theorem olsnd_nil : OLSnd c X Y [] [] (fun r => .ok ([], r)) := ⟨[], rfl, fun n σ as B H T Q g s hk => by
  have hk' : ∀ as1 us B1 H1, Nx c n σ [] as B as1 (temps us ++ T) B1 H1 → us.map Ov.rv = [] → ers as1 = ers as → POk c B1 as1 us → Q (us.map Ov.v) H1 := hk
  exact hk' as [] B H (Nx.refl g s) rfl rfl fun q v h => by cases h⟩
theorem olsnd_t {e : Expr} {es : List Expr} {Me Ms : List Nat} {se : Sm W} {ss : Sm (List Rv)} (he : ESnd c X Y e Me se) (hs : OLSnd c X Y es Ms ss) :
    OLSnd c X Y (e :: es) (Me ++ Ms) (fun r => ((se r).bind fun (w, r1) => .ok (Rv.t w, r1)).bind fun (v, r1) => (ss r1).bind fun (vs, r2) => .ok (v :: vs, r2)) := by
  obtain ⟨t, pe, _, ke⟩ := he
  obtain ⟨ts, ps, ks⟩ := hs
  refine ⟨t :: ts, ⟨t, ts, rfl, pe, ps⟩, fun n σ as B H T Q g s hk => ?_⟩
  refine ke n σ as B H T _ g s (hk.bind.bind.mono ?_ fun _ _ z => z)
  rintro ⟨w, r1⟩ ea h as1 x B1 H1 x1 (ex : x.er = w) (rfl : ers as1 = r1)
  refine ks n σ as1 B1 H1 (x :: T) _ x1.gd x1.sr ((Kn.bind h).mono ?_ fun _ _ z => KX.trans x1 _ _ z)
  rintro ⟨ws, r2⟩ eb h2 as2 us B2 H2 x2 (exs : us.map Ov.rv = ws) (rfl : ers as2 = r2) po
  have h2' : ∀ as3 ys B3 H3, Nx c n σ (Me ++ Ms) as B as3 (temps ys ++ T) B3 H3 → ys.map Ov.rv = Rv.t w :: ws → ers as3 = ers as2 → POk c B3 as3 ys → Q (ys.map Ov.v) H3 := h2
  refine h2' as2 (.t x :: us) B2 H2 ((x1.trans x2).permT List.perm_middle) ?_ rfl fun q v h w' e => ?_
  · rw [List.map_cons, exs]
    show Rv.t x.er :: ws = _
    rw [ex]
  · rcases List.mem_cons.mp h with z | z
    · cases z
    · exact po q v z w' e
theorem olsnd_p {e : Expr} {es : List Expr} {Me Ms : List Nat} {se : Sm (Nat × List Nat)} {ss : Sm (List Rv)} (he : PSnd c X Y e Me se) (hs : OLSnd c X Y es Ms ss) (st : ∀ r q r1, se r = .ok (q, r1) → q.2 = [] ∨ q.1 ∉ Ms) :
    OLSnd c X Y (e :: es) (Me ++ Ms) (fun r => ((se r).bind fun (q, r1) => .ok (Rv.p q, r1)).bind fun (v, r1) => (ss r1).bind fun (vs, r2) => .ok (v :: vs, r2)) := by
  obtain ⟨t, pe, ke⟩ := he
  obtain ⟨ts, ps, ks⟩ := hs
  refine ⟨t :: ts, ⟨t, ts, rfl, pe, ps⟩, fun n σ as B H T Q g s hk => ?_⟩
  refine ke n σ as B H T _ g s (hk.bind.bind.mono ?_ fun _ _ z => z)
  rintro ⟨q0, r1⟩ ea h as1 v0 w0 B1 H1 x1 (rfl : ers as1 = r1) pa
  refine ks n σ as1 B1 H1 T _ x1.gd x1.sr ((Kn.bind h).mono ?_ fun _ _ z => KX.trans x1 _ _ z)
  rintro ⟨ws, r2⟩ eb h2 as2 us B2 H2 x2 (exs : us.map Ov.rv = ws) (rfl : ers as2 = r2) po
  have h2' : ∀ as3 ys B3 H3, Nx c n σ (Me ++ Ms) as B as3 (temps ys ++ T) B3 H3 → ys.map Ov.rv = Rv.p q0 :: ws → ers as3 = ers as2 → POk c B3 as3 ys → Q (ys.map Ov.v) H3 := h2
  refine h2' as2 (.p q0 v0 :: us) B2 H2 (x1.trans x2) ?_ rfl fun q v h w' e => ?_
  · rw [List.map_cons, exs]
    rfl
  · rcases List.mem_cons.mp h with z | z
    · injection z with z1 z2
      subst z1
      subst z2
      exact pa.stab x2 x1.sr (st _ _ _ ea) e
    · exact po q v z w' e
/-- all temporaries are frozen -/
theorem Nx.freezeL : ∀ {xs : List A} {T : List A} {B1 : Hp}, Nx c n σ M as B as1 (xs ++ T) B1 H1 → ∃ B2, Nx c n σ M as B as1 T B2 H1 ∧ Same B1 B2 ∧ ∀ x ∈ xs, RepD c B2 x.er.dat x.val
  | [], T, B1, h => ⟨B1, h, Same.refl _, fun x hx => by cases hx⟩
  | x :: xs, T, B1, h => by
    obtain ⟨B2, h2, s2⟩ := Nx.freeze (T := xs ++ T) h
    have r2 : RepD c B2 x.er.dat x.val := h2.gd.lf (.fl x.val x.er.dat) h2.hd
    obtain ⟨B3, h3, s3, r3⟩ := Nx.freezeL (xs := xs) h2.dropT
    refine ⟨B3, h3, s2.trans s3, fun y hy => ?_⟩
    rcases List.mem_cons.mp hy with e | hy
    · rw [e]
      exact RepD.mono s3 r2
    · exact r3 y hy
theorem mem_temps : ∀ {us : List Ov} {x : A}, Ov.t x ∈ us → x ∈ temps us
  | .t y :: us, x, h => by
    rcases List.mem_cons.mp h with e | h
    · injection e with e
      rw [e]
      exact List.mem_cons_self
    · exact List.mem_cons_of_mem _ (mem_temps h)
  | .p q v :: us, x, h => by
    rcases List.mem_cons.mp h with e | h
    · cases e
    · exact mem_temps (us := us) h
theorem ovs_of {r : Env} (hr : ers as1 = r) (g : G c n B2 H1 (live as1 ++ T)) : ∀ {us : List Ov} {ws : List W}, (∀ x, Ov.t x ∈ us → RepD c B2 x.er.dat x.val) → POk c B2 as1 us → (us.map Ov.rv).mapM (Rv.val r) = some ws → OVs c B2 H1 ws (us.map Ov.v)
  | [], ws, _, _, h => by
    have e : [] = ws := by simpa using h
    rw [← e]
    rfl
  | u :: us, ws, hf, hp, h => by
    rw [List.map_cons, List.mapM_cons] at h
    cases e1 : Rv.val r u.rv with
    | none =>
      rw [e1] at h
      cases h
    | some w1 =>
      cases e2 : (us.map Ov.rv).mapM (Rv.val r) with
      | none =>
        rw [e1, e2] at h
        cases h
      | some w2 =>
        rw [e1, e2] at h
        have e3 : w1 :: w2 = ws := Option.some.inj h
        rw [← e3]
        refine ⟨u.v, us.map Ov.v, rfl, ?_, ovs_of hr g (fun x hx => hf x (List.mem_cons_of_mem _ hx)) (fun q v hq => hp q v (List.mem_cons_of_mem _ hq)) e2⟩
        cases u with
        | t x =>
          have e4 : W.fl x.er.dat = w1 := Option.some.inj e1
          rw [← e4]
          exact OV.fl g.sub (hf x List.mem_cons_self)
        | p q v =>
          have e4 : eget r q = some w1 := e1
          rw [← hr] at e4
          exact PAt.ov g (hp q v List.mem_cons_self w1 e4)
theorem POk.mono {us : List Ov} (h : POk c B1 as us) (s : Same B1 B2) : POk c B2 as us := fun q v hq w e => (h q v hq w e).mono s rfl
/-- items known for good, as trees -/
def flz : List D → List V → List A
  | d :: ds, v :: vs => .fl v d :: flz ds vs
  | _, _ => []
theorem flz_facts : ∀ {ds : List D} {vs : List V}, RepDs c B ds vs → vals (flz ds vs) = vs ∧ (flz ds vs).map A.er = ds.map W.fl ∧ (flz ds vs).length = ds.length
  | [], vs, r => by
    have e : vs = [] := r
    subst e
    exact ⟨rfl, rfl, rfl⟩
  | d :: ds, _, ⟨v, vr, e, r1, r2⟩ => by
    subst e
    obtain ⟨a1, a2, a3⟩ := flz_facts r2
    exact ⟨by show v :: vals (flz ds vr) = _; rw [a1], by show W.fl d :: (flz ds vr).map A.er = _; rw [a2]; rfl, by show (flz ds vr).length + 1 = _; rw [a3]; rfl⟩
theorem Nx.adds : ∀ {ds : List D} {vs : List V}, Nx c n σ M as B as1 T B1 H1 → RepDs c B1 ds vs → Nx c n σ M as B as1 (flz ds vs ++ T) B1 H1
  | [], vs, h, r => by
    have e : vs = [] := r
    subst e
    exact h
  | d :: ds, _, h, ⟨v, vr, e, r1, r2⟩ => by
    subst e
    exact Nx.add (Nx.adds h r2) r1
theorem all_unfl : ∀ {cs : List W}, cs.all W.isFl = true → (cs.map W.unfl).map W.fl = cs
  | [], _ => rfl
  | w :: cs, h => by
    have h' : (w.isFl && cs.all W.isFl) = true := h
    obtain ⟨h1, h2⟩ := Bool.and_eq_true_iff.mp h'
    cases w with
    | fl d =>
      show W.fl d :: (cs.map W.unfl).map W.fl = _
      rw [all_unfl h2]
    | nd k cs => cases h1
/-- what an operator's result leads to -/
theorem fin_of {w : W} {Q : VK} (h : Nx c n σ M as B as1 T B1 H1) (hk : ∀ y B2 H2, Nx c n σ M as B as1 (y :: T) B2 H2 → y.er = w.fzT → Q y.val H2) : Fin c B1 H1 w Q := by
  cases w with
  | fl d => exact fun v r => hk (.fl v d) B1 H1 (h.add r) rfl
  | nd kd cs =>
    intro p vs hp hkd hall hfit r
    obtain ⟨f1, f2, f3⟩ := flz_facts r
    have hx : kd.xtr p 0 = [] := by
      rcases hkd with e | e | ⟨ks, e⟩ | ⟨ks, e⟩ <;> rw [e] <;> rfl
    have hl : (flz (cs.map W.unfl) vs).length = vs.length := by
      have := congrArg List.length f1
      simpa using this
    have x2 := (h.adds r).alloc hp hx (by rw [hl]; exact hfit)
    rw [f1] at x2
    have er2 : (A.nd p 0 kd (flz (cs.map W.unfl) vs)).er = .nd kd cs := by rw [A.er_nd, f2, all_unfl hall]
    by_cases ht : kd = .tup
    · subst ht
      obtain ⟨B2, x3, _⟩ := x2.freeze
      refine hk _ B2 _ x3 ?_
      show W.fl (A.nd p 0 .tup (flz (cs.map W.unfl) vs)).er.dat = W.fl (.nd .tup (cs.map W.unfl))
      rw [er2, W.dat_nd]
      congr 2
      refine List.map_congr_left fun w hw => ?_
      have := List.all_eq_true.mp hall w hw
      cases w with
      | fl d => rfl
      | nd k cs => cases this
    · refine hk _ B1 _ x2 ?_
      rw [er2]
      cases kd <;> first | rfl | exact (ht rfl).elim
end
end Vx
end

section
set_option maxHeartbeats 4000000
/-! Vx 13: operators, tests, calls. -/
namespace Vx
open PySem L2
section
variable {c : Gx} {Γ : Den} {k : Ck} {X : Cx} {Y : WX} {n : En} {σ : St} {as as1 as2 : Sl} {B H B1 H1 B2 H2 : Hp} {T T1 T2 : List A} {M N : List Nat}
theorem tt_mono {tt : TE} {e : Expr} (h1 : isCmp e = true → PT X e (tTest tt)) (pe : PE X e tt) : plT e = true → PT X e (tTest tt) := fun z => by
  by_cases hc : isCmp e = true
  · exact h1 hc
  · have hc' : isCmp e = false := by simpa using hc
    exact plN pe hc' z
theorem snd_op {o : Rop} {e : Expr} {es : List Expr} {Ms : List Nat} {ss : Sm (List Rv)} (x : XOk c k X) (hf : o.form k e = some es) (hs : OLSnd c X Y es Ms ss) :
    ESnd c X Y e Ms (fun r => (ss r).bind fun (vs, r1) => Res.of (((vs.mapM (Rv.val r1)).bind o.run).map fun w => (w.fzT, r1))) := by
  obtain ⟨ts, ps, ks⟩ := hs
  obtain ⟨t, rr, pe, pt, up, dn⟩ := rop_ok x hf ps
  refine ⟨t, pe, tt_mono pt pe, fun n σ as B H T Q g s hk => up _ _ _ ?_⟩
  refine ks n σ as B H T _ g s (hk.bind.mono ?_ fun _ _ z => z)
  rintro ⟨vs, r1⟩ ea h as1 us B1 H1 x1 (exs : us.map Ov.rv = vs) (rfl : ers as1 = r1) po
  obtain ⟨⟨w', r'⟩, e4, h3⟩ := Kn.of h
  obtain ⟨w, e5, e6⟩ := Option.map_eq_some_iff.mp e4
  injection e6 with e61 e62
  subst e61
  subst e62
  obtain ⟨ws, e7, e8⟩ := Option.bind_eq_some_iff.mp e5
  rw [← exs] at e7
  obtain ⟨B2, x2, s2, r2⟩ := x1.freezeL
  have ov := ovs_of rfl x2.gd (us := us) (fun y hy => r2 y (mem_temps hy)) (po.mono s2) e7
  refine dn _ _ _ ⟨ws, w, B2, x2.gd.sub, ov, e8, fin_of x2 fun y B3 H3 x3 e9 => h3 as1 y B3 H3 x3 e9 rfl⟩

/-! ### tests -/
theorem tsnd_of {e : Expr} {Me : List Nat} {se : Sm W} (he : ESnd c X Y e Me se) (ho : plT e = true) : TSnd c X Y e Me (fun r => (se r).bind bool?) := by
  obtain ⟨t, pe, pt, ke⟩ := he
  refine ⟨tTest t, pt ho, fun n σ as B H T Q g s hk => ke n σ as B H T _ g s (hk.bind.mono ?_ fun _ _ z => z)⟩
  rintro ⟨w, r1⟩ ea h as1 x B1 H1 x1 (ex : x.er = w) (rfl : ers as1 = r1)
  match w, ex, h with
  | .fl (.bl b), ex, h =>
    have h' : ∀ as2 B2 H2, Nx c n σ Me as B as2 T B2 H2 → ers as2 = ers as1 → Q b H2 := h
    exact ⟨b, x1.bl ex, h' as1 B1 H1 x1.dropT rfl⟩
/-- a test of and, or: whatever its whole is -/
def WSnd (c : Gx) (X : Cx) (Y : WX) (e : Expr) (M : List Nat) (sem : Sm Bool) : Prop :=
  ∃ t, PW X e t ∧ ∀ (n : En) (σ : St) (as : Sl) (B H : Hp) (T : List A) (Q : Bool → Hp → Prop), G c n B H (live as ++ T) → SR σ as →
    Kn (sem (ers as)) (fun a => ∀ as1 B1 H1, Nx c n σ M as B as1 T B1 H1 → ers as1 = a.2 → Q a.1 H1) (KX c n σ as B Y) → t σ H Q
theorem WSnd.t {e : Expr} {sem : Sm Bool} (h : WSnd c X Y e M sem) : TSnd c X Y e M sem := by
  obtain ⟨t, p, q⟩ := h
  exact ⟨t, p.pt, q⟩
/-- the sem of a test as a value's -/
def bv (x : Res (Bool × Env)) : Res (W × Env) := x.bind fun (b, r) => .ok (.fl (.bl b), r)
theorem wsnd_one {op : BoolOp} {a : Expr} {sa : Sm Bool} {pos : Pos} (ho : op = .And ∨ op = .Or) (ha : TSnd c X Y a M sa) : WSnd c X Y (.BoolOp op [a] pos) M sa := by
  obtain ⟨t, p, q⟩ := ha
  rcases ho with rfl | rfl
  · exact ⟨t, pw_and1 p, q⟩
  · exact ⟨t, pw_or1 p, q⟩
theorem wsnd_and {a b : Expr} {rest : List Expr} {Ma Mb : List Nat} {sa sb : Sm Bool} {pos : Pos} (ha : TSnd c X Y a Ma sa) (hb : WSnd c X Y (.BoolOp .And (b :: rest) pos) Mb sb) :
    WSnd c X Y (.BoolOp .And (a :: b :: rest) pos) (Ma ++ Mb) (fun r => (sa r).bind fun (x, r1) => if x then sb r1 else .ok (false, r1)) := by
  obtain ⟨ta, pa, ka⟩ := ha
  obtain ⟨tb, pb, kb⟩ := hb
  refine ⟨tAnd ta tb, pw_and pa pb, fun n σ as B H T Q g s hk => ka n σ as B H T _ g s (hk.bind.mono ?_ fun _ _ z => z)⟩
  rintro ⟨x, r1⟩ ea h as1 B1 H1 x1 (rfl : ers as1 = r1)
  cases x with
  | true =>
    refine iteT (kb n σ as1 B1 H1 T Q x1.gd x1.sr (Kn.mono (show Kn (sb (ers as1)) _ _ from h) (fun a _ k as2 B2 H2 x2 e2 => k as2 B2 H2 (x1.trans x2) e2) fun _ _ z => KX.trans x1 _ _ z))
  | false =>
    have h' : ∀ as2 B2 H2, Nx c n σ (Ma ++ Mb) as B as2 T B2 H2 → ers as2 = ers as1 → Q false H2 := h
    exact iteF (h' as1 B1 H1 (x1.mono fun i hi => List.mem_append_left _ hi) rfl)
theorem wsnd_or {a b : Expr} {rest : List Expr} {Ma Mb : List Nat} {sa sb : Sm Bool} {pos : Pos} (ha : TSnd c X Y a Ma sa) (hb : WSnd c X Y (.BoolOp .Or (b :: rest) pos) Mb sb) :
    WSnd c X Y (.BoolOp .Or (a :: b :: rest) pos) (Ma ++ Mb) (fun r => (sa r).bind fun (x, r1) => if x then .ok (true, r1) else sb r1) := by
  obtain ⟨ta, pa, ka⟩ := ha
  obtain ⟨tb, pb, kb⟩ := hb
  refine ⟨tOr ta tb, pw_or pa pb, fun n σ as B H T Q g s hk => ka n σ as B H T _ g s (hk.bind.mono ?_ fun _ _ z => z)⟩
  rintro ⟨x, r1⟩ ea h as1 B1 H1 x1 (rfl : ers as1 = r1)
  cases x with
  | false =>
    refine iteF (kb n σ as1 B1 H1 T Q x1.gd x1.sr (Kn.mono (show Kn (sb (ers as1)) _ _ from h) (fun a _ k as2 B2 H2 x2 e2 => k as2 B2 H2 (x1.trans x2) e2) fun _ _ z => KX.trans x1 _ _ z))
  | true =>
    have h' : ∀ as2 B2 H2, Nx c n σ (Ma ++ Mb) as B as2 T B2 H2 → ers as2 = ers as1 → Q true H2 := h
    exact iteT (h' as1 B1 H1 (x1.mono fun i hi => List.mem_append_left _ hi) rfl)
theorem tsnd_not {a : Expr} {sa : Sm Bool} {pos : Pos} (ha : TSnd c X Y a M sa) : TSnd c X Y (.UnaryOp .Not a pos) M (fun r => (sa r).bind fun (x, r1) => .ok (!x, r1)) := by
  obtain ⟨ta, pa, ka⟩ := ha
  refine ⟨tNot ta, pt_not pa, fun n σ as B H T Q g s hk => ka n σ as B H T _ g s (hk.bind.mono ?_ fun _ _ z => z)⟩
  rintro ⟨x, r1⟩ ea h as1 B1 H1 x1 (rfl : ers as1 = r1)
  have h' : ∀ as2 B2 H2, Nx c n σ M as B as2 T B2 H2 → ers as2 = ers as1 → Q (!x) H2 := h
  exact h' as1 B1 H1 x1 rfl
/-! .. as values -/
theorem snd_ite {a b d : Expr} {Mc Ma Mb : List Nat} {sc : Sm Bool} {sa sb : Sm W} {pos : Pos} (hc : TSnd c X Y d Mc sc) (ha : ESnd c X Y a Ma sa) (hb : ESnd c X Y b Mb sb) :
    ESnd c X Y (.IfExp d a b pos) (Mc ++ (Ma ++ Mb)) (fun r => (sc r).bind fun (x, r1) => if x then sa r1 else sb r1) := by
  obtain ⟨tc, pc, kc⟩ := hc
  obtain ⟨ta, pa, _, ka⟩ := ha
  obtain ⟨tb, pb, _, kb⟩ := hb
  have pe := pe_ifExp (X := X) (pos := pos) pc pa pb
  refine ⟨_, pe, plN pe rfl, fun n σ as B H T Q g s hk => kc n σ as B H T _ g s (hk.bind.mono ?_ fun _ _ z => z)⟩
  rintro ⟨x, r1⟩ ea h as1 B1 H1 x1 (rfl : ers as1 = r1)
  cases x with
  | true => exact iteT (ka n σ as1 B1 H1 T Q x1.gd x1.sr (Kn.mono (show Kn (sa (ers as1)) _ _ from h) (fun a _ k as2 y B2 H2 x2 e1 e2 => k as2 y B2 H2 ((x1.trans x2).mono fun i hi => by
      rcases List.mem_append.mp hi with z | z
      · exact List.mem_append_left _ z
      · exact List.mem_append_right _ (List.mem_append_left _ z)) e1 e2) fun _ _ z => KX.trans x1 _ _ z))
  | false => exact iteF (kb n σ as1 B1 H1 T Q x1.gd x1.sr (Kn.mono (show Kn (sb (ers as1)) _ _ from h) (fun a _ k as2 y B2 H2 x2 e1 e2 => k as2 y B2 H2 ((x1.trans x2).mono fun i hi => by
      rcases List.mem_append.mp hi with z | z
      · exact List.mem_append_left _ z
      · exact List.mem_append_right _ (List.mem_append_right _ z)) e1 e2) fun _ _ z => KX.trans x1 _ _ z))
theorem snd_and {a b : Expr} {rest : List Expr} {Ma Mb : List Nat} {sa sb : Sm W} {pos : Pos} (ha : ESnd c X Y a Ma sa) (hb : ESnd c X Y (.BoolOp .And (b :: rest) pos) Mb sb) :
    ESnd c X Y (.BoolOp .And (a :: b :: rest) pos) (Ma ++ Mb) (fun r => ((sa r).bind bool?).bind fun (x, r1) => if x then sb r1 else .ok (.fl (.bl false), r1)) := by
  obtain ⟨ta, pa, _, ka⟩ := ha
  obtain ⟨tb, pb, _, kb⟩ := hb
  have pe := pe_and (X := X) (pos := pos) pa pb
  refine ⟨_, pe, plN pe rfl, fun n σ as B H T Q g s hk => ka n σ as B H T _ g s (hk.bind.bind.mono ?_ fun _ _ z => z)⟩
  rintro ⟨w, r1⟩ ea h as1 x B1 H1 x1 (ex : x.er = w) (rfl : ers as1 = r1)
  match w, ex, h with
  | .fl (.bl true), ex, h => exact ⟨true, x1.bl ex, iteT (kb n σ as1 B1 H1 T Q x1.dropT.gd x1.sr (Kn.mono (show Kn (sb (ers as1)) _ _ from h) (fun a _ k as2 y B2 H2 x2 e1 e2 => k as2 y B2 H2 (x1.dropT.trans x2) e1 e2) fun _ _ z => KX.trans x1 _ _ z))⟩
  | .fl (.bl false), ex, h =>
    have h' : ∀ as2 y B2 H2, Nx c n σ (Ma ++ Mb) as B as2 (y :: T) B2 H2 → y.er = .fl (.bl false) → ers as2 = ers as1 → Q y.val H2 := h
    exact ⟨false, x1.bl ex, iteF (h' as1 (.fl (.bl false) (.bl false)) B1 H1 ((x1.dropT.add (v := .bl false) (d := .bl false) rfl).mono fun i hi => List.mem_append_left _ hi) rfl rfl)⟩
theorem snd_or {a b : Expr} {rest : List Expr} {Ma Mb : List Nat} {sa sb : Sm W} {pos : Pos} (ha : ESnd c X Y a Ma sa) (hb : ESnd c X Y (.BoolOp .Or (b :: rest) pos) Mb sb) :
    ESnd c X Y (.BoolOp .Or (a :: b :: rest) pos) (Ma ++ Mb) (fun r => ((sa r).bind bool?).bind fun (x, r1) => if x then .ok (.fl (.bl true), r1) else sb r1) := by
  obtain ⟨ta, pa, _, ka⟩ := ha
  obtain ⟨tb, pb, _, kb⟩ := hb
  have pe := pe_or (X := X) (pos := pos) pa pb
  refine ⟨_, pe, plN pe rfl, fun n σ as B H T Q g s hk => ka n σ as B H T _ g s (hk.bind.bind.mono ?_ fun _ _ z => z)⟩
  rintro ⟨w, r1⟩ ea h as1 x B1 H1 x1 (ex : x.er = w) (rfl : ers as1 = r1)
  match w, ex, h with
  | .fl (.bl false), ex, h => exact ⟨false, x1.bl ex, iteF (kb n σ as1 B1 H1 T Q x1.dropT.gd x1.sr (Kn.mono (show Kn (sb (ers as1)) _ _ from h) (fun a _ k as2 y B2 H2 x2 e1 e2 => k as2 y B2 H2 (x1.dropT.trans x2) e1 e2) fun _ _ z => KX.trans x1 _ _ z))⟩
  | .fl (.bl true), ex, h =>
    have h' : ∀ as2 y B2 H2, Nx c n σ (Ma ++ Mb) as B as2 (y :: T) B2 H2 → y.er = .fl (.bl true) → ers as2 = ers as1 → Q y.val H2 := h
    exact ⟨true, x1.bl ex, iteT (h' as1 (.fl (.bl true) (.bl true)) B1 H1 ((x1.dropT.add (v := .bl true) (d := .bl true) rfl).mono fun i hi => List.mem_append_left _ hi) rfl rfl)⟩
theorem snd_one {op : BoolOp} {a : Expr} {sa : Sm W} {pos : Pos} (ha : ESnd c X Y a M sa) : ESnd c X Y (.BoolOp op [a] pos) M sa := by
  obtain ⟨ta, pa, _, ka⟩ := ha
  have pe := pe_one (X := X) (op := op) (pos := pos) pa
  exact ⟨ta, pe, plN pe rfl, ka⟩
theorem snd_not {a : Expr} {sa : Sm W} {pos : Pos} (ha : ESnd c X Y a M sa) : ESnd c X Y (.UnaryOp .Not a pos) M (fun r => ((sa r).bind bool?).bind fun (x, r1) => .ok (.fl (.bl (!x)), r1)) := by
  obtain ⟨ta, pa, _, ka⟩ := ha
  have pe := pe_not (X := X) (pos := pos) pa
  refine ⟨_, pe, plN pe rfl, fun n σ as B H T Q g s hk => ka n σ as B H T _ g s (hk.bind.bind.mono ?_ fun _ _ z => z)⟩
  rintro ⟨w, r1⟩ ea h as1 x B1 H1 x1 (ex : x.er = w) (rfl : ers as1 = r1)
  match w, ex, h with
  | .fl (.bl b), ex, h =>
    have h' : ∀ as2 y B2 H2, Nx c n σ M as B as2 (y :: T) B2 H2 → y.er = .fl (.bl (!b)) → ers as2 = ers as1 → Q y.val H2 := h
    exact ⟨b, x1.bl ex, h' as1 (.fl (.bl (!b)) (.bl (!b))) B1 H1 (x1.dropT.add (v := .bl (!b)) (d := .bl (!b)) rfl) rfl rfl⟩

/-! ### calls -/
/-- an argument as it was reckoned: a temporary, a slot handed in, a slot lent -/
inductive Ax where
  | t (x : A) | io (i : Nat) | ro (i : Nat)
def Ax.er (as : Sl) : Ax → W ⊕ Nat
  | .t x => .inl x.er
  | .io i => .inr i
  | .ro i => match as[i]? with
    | some (some x) => .inl x.er
    | _ => .inr i
def atemps : List Ax → List A
  | [] => []
  | .t x :: us => x :: atemps us
  | _ :: us => atemps us
def slV (σ : St) (i : Nat) : V := match σ[i]? with
  | some (some v) => v
  | _ => .non
def Ax.v (σ : St) : Ax → V
  | .t x => x.val
  | .io i => slV σ i
  | .ro i => slV σ i
/-- the slots that are handed in or lent -/
def Ax.sl : Ax → List Nat
  | .t _ => []
  | .io i => [i]
  | .ro i => [i]
def slL : List Ax → List Nat
  | [] => []
  | u :: us => u.sl ++ slL us
def roSl : List Ax → List Nat
  | [] => []
  | .ro i :: us => i :: roSl us
  | _ :: us => roSl us
theorem roSl_sub : ∀ {us : List Ax} {i : Nat}, i ∈ roSl us → i ∈ slL us
  | .t x :: us, i, h => roSl_sub (us := us) h
  | .io j :: us, i, h => List.mem_cons_of_mem _ (roSl_sub (us := us) h)
  | .ro j :: us, i, h => by
    rcases List.mem_cons.mp h with e | h
    · rw [e]
      exact List.mem_cons_self
    · exact List.mem_cons_of_mem _ (roSl_sub (us := us) h)
theorem ioSl_sub : ∀ {us : List Ax} {i : Nat}, Ax.io i ∈ us → i ∈ slL us
  | u :: us, i, h => by
    rcases List.mem_cons.mp h with e | h
    · rw [← e]
      exact List.mem_cons_self
    · exact List.mem_append_right _ (ioSl_sub (us := us) h)
def ASnd (c : Gx) (X : Cx) (Y : WX) (es : List Expr) (M : List Nat) (sems : Sm (List (W ⊕ Nat))) (ks : List (Option (Bool × Nat))) : Prop :=
  ∃ ts, PEs X es ts ∧ ∀ (n : En) (σ : St) (as : Sl) (B H : Hp) (T : List A) (Q : List V → Hp → Prop), G c n B H (live as ++ T) → SR σ as →
    Kn (sems (ers as)) (fun a => ∀ as1 us B1 H1, Nx c n σ M as B as1 (atemps us ++ T) B1 H1 → us.map (Ax.er as1) = a.1 → ers as1 = a.2 → us.map (fun u => match u with
      | .t _ => none
      | .io i => some (true, i)
      | .ro i => some (false, i)) = ks → (∀ i ∈ roSl us, ∃ x, as1[i]? = some (some x)) → Q (us.map (Ax.v σ)) H1) (KX c n σ as B Y) → tN ts σ H Q
theorem asnd_nil : ASnd c X Y [] [] (fun r => .ok ([], r)) [] := ⟨[], rfl, fun n σ as B H T Q g s hk => by
  have hk' : ∀ as1 us B1 H1, Nx c n σ [] as B as1 (atemps us ++ T) B1 H1 → us.map (Ax.er as1) = [] → ers as1 = ers as → us.map (fun u => match u with
      | .t _ => none
      | .io i => some (true, i)
      | .ro i => some (false, i)) = [] → (∀ i ∈ roSl us, ∃ x, as1[i]? = some (some x)) → Q (us.map (Ax.v σ)) H1 := hk
  exact hk' as [] B H (Nx.refl g s) rfl rfl rfl fun i hi => by cases hi⟩
theorem asnd_va {e : Expr} {es : List Expr} {Me Ms : List Nat} {se : Sm W} {ss : Sm (List (W ⊕ Nat))} {ks : List (Option (Bool × Nat))} (he : ESnd c X Y e Me se) (hs : ASnd c X Y es Ms ss ks) :
    ASnd c X Y (e :: es) (Me ++ Ms) (fun r => (se r).bind fun (w, r1) => (ss r1).bind fun (vs, r2) => .ok (.inl w :: vs, r2)) (none :: ks) := by
  obtain ⟨t, pe, _, ke⟩ := he
  obtain ⟨ts, ps, ks'⟩ := hs
  refine ⟨t :: ts, ⟨t, ts, rfl, pe, ps⟩, fun n σ as B H T Q g s hk => ?_⟩
  refine ke n σ as B H T _ g s (hk.bind.mono ?_ fun _ _ z => z)
  rintro ⟨w, r1⟩ ea h as1 x B1 H1 x1 (ex : x.er = w) (rfl : ers as1 = r1)
  refine ks' n σ as1 B1 H1 (x :: T) _ x1.gd x1.sr ((Kn.bind h).mono ?_ fun _ _ z => KX.trans x1 _ _ z)
  rintro ⟨ws, r2⟩ eb h2 as2 us B2 H2 x2 (exs : us.map (Ax.er as2) = ws) (rfl : ers as2 = r2) ek er
  refine h2 as2 (.t x :: us) B2 H2 ((x1.trans x2).permT List.perm_middle) ?_ rfl (by rw [List.map_cons, ek]) er
  rw [List.map_cons, exs]
  show Sum.inl x.er :: ws = _
  rw [ex]
theorem asnd_io (x : XOk c k X) {i : Nat} {y : Str} {pos : Pos} (hv : visB k i y = true) {es : List Expr} {Ms : List Nat} {ss : Sm (List (W ⊕ Nat))} {ks : List (Option (Bool × Nat))} (hs : ASnd c X Y es Ms ss ks) :
    ASnd c X Y (.Name y pos :: es) (i :: Ms) (fun r => match r[i]? with
      | some (some _) => (ss r).bind fun (vs, r2) => .ok (.inr i :: vs, r2)
      | _ => .bad) (some (true, i) :: ks) := by
  obtain ⟨ts, ps, ks'⟩ := hs
  refine ⟨tVar i :: ts, ⟨tVar i, ts, rfl, vis_pe x hv, ps⟩, fun n σ as B H T Q g s hk => ?_⟩
  have e0 := ers_get (as := as) (i := i)
  dsimp only at hk
  cases e : as[i]? with
  | none =>
    rw [e0, e] at hk
    exact hk.elim
  | some z =>
    cases z with
    | none =>
      rw [e0, e] at hk
      exact hk.elim
    | some z =>
      rw [e0, e] at hk
      refine ⟨z.val, s.2 i z e, ks' n σ as B H T _ g s ((Kn.bind hk).mono ?_ fun _ _ z => z)⟩
      rintro ⟨ws, r2⟩ eb h2 as2 us B2 H2 x2 (exs : us.map (Ax.er as2) = ws) (rfl : ers as2 = r2) ek er
      have := h2 as2 (.io i :: us) B2 H2 (x2.mono fun j hj => List.mem_cons_of_mem _ hj) (by rw [List.map_cons, exs]; rfl) rfl (by rw [List.map_cons, ek]) er
      have ev : Ax.v σ (.io i) = z.val := by
        show (match σ[i]? with
          | some (some v) => v
          | _ => V.non) = _
        rw [s.2 i z e]
      rw [List.map_cons, ev] at this
      exact this
theorem asnd_ro (x : XOk c k X) {i : Nat} {y : Str} {pos : Pos} (hv : visB k i y = true) {es : List Expr} {Ms : List Nat} {ss : Sm (List (W ⊕ Nat))} {ks : List (Option (Bool × Nat))} (hs : ASnd c X Y es Ms ss ks) (hi : i ∉ Ms) :
    ASnd c X Y (.Name y pos :: es) Ms (fun r => match r[i]? with
      | some (some w) => (ss r).bind fun (vs, r2) => .ok (.inl w :: vs, r2)
      | _ => .bad) (some (false, i) :: ks) := by
  obtain ⟨ts, ps, ks'⟩ := hs
  refine ⟨tVar i :: ts, ⟨tVar i, ts, rfl, vis_pe x hv, ps⟩, fun n σ as B H T Q g s hk => ?_⟩
  have e0 := ers_get (as := as) (i := i)
  dsimp only at hk
  cases e : as[i]? with
  | none =>
    rw [e0, e] at hk
    exact hk.elim
  | some z =>
    cases z with
    | none =>
      rw [e0, e] at hk
      exact hk.elim
    | some z =>
      rw [e0, e] at hk
      refine ⟨z.val, s.2 i z e, ks' n σ as B H T _ g s ((Kn.bind hk).mono ?_ fun _ _ z => z)⟩
      rintro ⟨ws, r2⟩ eb h2 as2 us B2 H2 x2 (exs : us.map (Ax.er as2) = ws) (rfl : ers as2 = r2) ek er
      have ei : as2[i]? = some (some z) := (x2.fr i hi).trans e
      have := h2 as2 (.ro i :: us) B2 H2 x2 (by
        rw [List.map_cons, exs]
        show (match as2[i]? with
          | some (some x) => Sum.inl x.er
          | _ => .inr i) :: ws = _
        rw [ei]) rfl (by rw [List.map_cons, ek]) (fun j hj => by
          rcases List.mem_cons.mp hj with q | q
          · rw [q]
            exact ⟨z, ei⟩
          · exact er j q)
      have ev : Ax.v σ (.ro i) = z.val := by
        show (match σ[i]? with
          | some (some v) => v
          | _ => V.non) = _
        rw [s.2 i z e]
      rw [List.map_cons, ev] at this
      exact this
/-- the trees handed in and lent, and what stays: as2 without the trees handed in alone, as3 without the lent ones too -/
theorem takeA {σ : St} {as0 : Sl} : ∀ {us : List Ax} {as as' : Sl} {ws : List W} {r2 : Env}, SR σ as → (slL us).Nodup → (∀ i ∈ slL us, as[i]? = as0[i]? ∧ as'[i]? = as0[i]?) → takeIo (us.map (Ax.er as0)) (ers as) = some (ws, r2) → (∀ i ∈ roSl us, ∃ x, as0[i]? = some (some x)) → SR σ as' →
    ∃ xs as2 as3, xs.map A.er = ws ∧ ers as2 = r2 ∧ SR σ as2 ∧ vals xs = us.map (Ax.v σ) ∧ (live as' ++ atemps us).Perm (xs ++ live as3) ∧ (∀ i, Ax.io i ∉ us → as2[i]? = as[i]?) ∧ as2.length = as.length ∧ (∀ i, Ax.io i ∈ us → ∃ v, σ[i]? = some (some v)) ∧
      (∀ i, i ∉ slL us → as3[i]? = as'[i]?) ∧ (∀ i ∈ slL us, as3[i]? = some none) ∧ as3.length = as'.length ∧
      (∀ (j i : Nat) (x : A), us[j]? = some (.ro i) → as0[i]? = some (some x) → xs[j]? = some x) ∧ (∀ i, Ax.io i ∈ us → as2[i]? = some none)
  | [], as, as', ws, r2, s, _, _, h, _, _ => by
    have e : ([], ers as) = (ws, r2) := Option.some.inj h
    injection e with e1 e2
    exact ⟨[], as, as', e1, e2, s, rfl, by simp [atemps], fun _ _ => rfl, rfl, fun i hi => (List.not_mem_nil hi).elim, fun _ _ => rfl, fun i hi => (List.not_mem_nil hi).elim, rfl, fun j i x h => by simp at h, fun i hi => (List.not_mem_nil hi).elim⟩
  | .t x :: us, as, as', ws, r2, s, nd, hs, h, hr, s' => by
    have h' : (takeIo (us.map (Ax.er as0)) (ers as)).map (fun q => (x.er :: q.1, q.2)) = some (ws, r2) := h
    obtain ⟨⟨w1, r1⟩, q1, q2⟩ := Option.map_eq_some_iff.mp h'
    injection q2 with q2 q3
    obtain ⟨xs, as2, as3, a1, a2, a3, a4, a5, a6, a7, a8, a9, a10, a11, a12, a13⟩ := takeA (us := us) s nd hs q1 hr s'
    refine ⟨x :: xs, as2, as3, by rw [List.map_cons, a1]; exact q2, a2.trans q3, a3, by show x.val :: vals xs = _; rw [a4]; rfl, ?_, fun i hi => a6 i fun z => hi (List.mem_cons_of_mem _ z), a7, fun i hi => ?_, a9, a10, a11, ?_, ?_⟩
    · show (live as' ++ x :: atemps us).Perm (x :: (xs ++ live as3))
      exact List.perm_middle.trans (a5.cons x)
    · rcases List.mem_cons.mp hi with z | z
      · cases z
      · exact a8 i z
    · intro j i y e1 e2
      cases j with
      | zero => cases e1
      | succ j => exact a12 j i y e1 e2
    · intro i hi
      rcases List.mem_cons.mp hi with z | z
      · cases z
      · exact a13 i z
  | .io i :: us, as, as', ws, r2, s, nd, hs, h, hr, s' => by
    have nd' : (i :: slL us).Nodup := nd
    obtain ⟨n1, n2⟩ := List.nodup_cons.mp nd'
    have hi0 := hs i List.mem_cons_self
    have h' : (match (ers as)[i]? with
      | some (some w) => if w.isFl then none else (takeIo (us.map (Ax.er as0)) ((ers as).set i none)).map fun q => (w :: q.1, q.2)
      | _ => none) = some (ws, r2) := h
    rw [ers_get] at h'
    cases e : as[i]? with
    | none =>
      rw [e] at h'
      cases h'
    | some z =>
      cases z with
      | none =>
        rw [e] at h'
        cases h'
      | some z =>
        rw [e] at h'
        have h'' : (if z.er.isFl = true then none else (takeIo (us.map (Ax.er as0)) ((ers as).set i none)).map fun q => (z.er :: q.1, q.2)) = some (ws, r2) := h'
        split at h''
        · cases h''
        · have es : (ers as).set i none = ers (as.set i none) := by
            rw [ers_set]
            rfl
          rw [es] at h''
          obtain ⟨⟨w1, r1⟩, q1, q2⟩ := Option.map_eq_some_iff.mp h''
          injection q2 with q2 q3
          have e' : as'[i]? = some (some z) := hi0.2.trans (hi0.1.symm.trans e)
          have hs2 : ∀ j ∈ slL us, (as.set i none)[j]? = as0[j]? ∧ (as'.set i none)[j]? = as0[j]? := fun j hj => by
            have nij : i ≠ j := fun z => n1 (by rw [z]; exact hj)
            rw [List.getElem?_set_ne nij, List.getElem?_set_ne nij]
            exact hs j (List.mem_cons_of_mem _ hj)
          obtain ⟨xs, as2, as3, a1, a2, a3, a4, a5, a6, a7, a8, a9, a10, a11, a12, a13⟩ := takeA (us := us) s.take n2 hs2 q1 hr s'.take
          rw [List.length_set] at a7 a11
          have li : i < as'.length := SR.lt e'
          refine ⟨z :: xs, as2, as3, by rw [List.map_cons, a1]; exact q2, a2.trans q3, a3, ?_, ?_, fun j hj => ?_, a7, fun j hj => ?_, fun j hj => ?_, fun j hj => ?_, a11, ?_, ?_⟩
          · show z.val :: vals xs = (match σ[i]? with
              | some (some v) => v
              | _ => V.non) :: us.map (Ax.v σ)
            rw [a4, s.2 i z e]
          · show (live as' ++ atemps us).Perm (z :: (xs ++ live as3))
            exact (List.Perm.append_right _ (live_get e')).trans (a5.cons z)
          · rw [a6 j fun z => hj (List.mem_cons_of_mem _ z)]
            exact List.getElem?_set_ne fun z => hj (by rw [z]; exact List.mem_cons_self)
          · rcases List.mem_cons.mp hj with q | q
            · injection q with q
              rw [q]
              exact ⟨z.val, s.2 i z e⟩
            · exact a8 j q
          · rw [a9 j fun z => hj (List.mem_cons_of_mem _ z)]
            exact List.getElem?_set_ne fun z => hj (by rw [z]; exact List.mem_cons_self)
          · rcases List.mem_cons.mp hj with q | q
            · rw [q, a9 i n1]
              exact List.getElem?_set_self li
            · exact a10 j q
          · intro j i y e1 e2
            cases j with
            | zero => cases e1
            | succ j => exact a12 j i y e1 e2
          · intro j hj
            rcases List.mem_cons.mp hj with q | q
            · injection q with q
              rw [q]
              by_cases hm : Ax.io i ∈ us
              · exact a13 i hm
              · rw [a6 i hm]
                exact List.getElem?_set_self (SR.lt e)
            · exact a13 j q
  | .ro i :: us, as, as', ws, r2, s, nd, hs, h, hr, s' => by
    have nd' : (i :: slL us).Nodup := nd
    obtain ⟨n1, n2⟩ := List.nodup_cons.mp nd'
    have hi0 := hs i List.mem_cons_self
    obtain ⟨z, ez⟩ := hr i List.mem_cons_self
    have h' : takeIo ((match as0[i]? with
      | some (some x) => Sum.inl x.er
      | _ => .inr i) :: us.map (Ax.er as0)) (ers as) = some (ws, r2) := h
    rw [ez] at h'
    have h' : (takeIo (us.map (Ax.er as0)) (ers as)).map (fun q => (z.er :: q.1, q.2)) = some (ws, r2) := h'
    obtain ⟨⟨w1, r1⟩, q1, q2⟩ := Option.map_eq_some_iff.mp h'
    injection q2 with q2 q3
    have e' : as'[i]? = some (some z) := hi0.2.trans ez
    have hs2 : ∀ j ∈ slL us, as[j]? = as0[j]? ∧ (as'.set i none)[j]? = as0[j]? := fun j hj => by
      have nij : i ≠ j := fun z => n1 (by rw [z]; exact hj)
      rw [List.getElem?_set_ne nij]
      exact hs j (List.mem_cons_of_mem _ hj)
    obtain ⟨xs, as2, as3, a1, a2, a3, a4, a5, a6, a7, a8, a9, a10, a11, a12, a13⟩ := takeA (us := us) s n2 hs2 q1 (fun j hj => hr j (List.mem_cons_of_mem _ hj)) s'.take
    rw [List.length_set] at a11
    have li : i < as'.length := SR.lt e'
    refine ⟨z :: xs, as2, as3, by rw [List.map_cons, a1]; exact q2, a2.trans q3, a3, ?_, ?_, fun j hj => a6 j fun z => hj (List.mem_cons_of_mem _ z), a7, fun j hj => ?_, fun j hj => ?_, fun j hj => ?_, a11, ?_, ?_⟩
    · show z.val :: vals xs = (match σ[i]? with
        | some (some v) => v
        | _ => V.non) :: us.map (Ax.v σ)
      rw [a4, s'.2 i z e']
    · show (live as' ++ atemps us).Perm (z :: (xs ++ live as3))
      exact (List.Perm.append_right _ (live_get e')).trans (a5.cons z)
    · rcases List.mem_cons.mp hj with q | q
      · cases q
      · exact a8 j q
    · rw [a9 j fun z => hj (List.mem_cons_of_mem _ z)]
      exact List.getElem?_set_ne fun z => hj (by rw [z]; exact List.mem_cons_self)
    · rcases List.mem_cons.mp hj with q | q
      · rw [q, a9 i n1]
        exact List.getElem?_set_self li
      · exact a10 j q
    · intro j i' y e1 e2
      cases j with
      | zero =>
        have e3 : i = i' := by
          injection e1 with e1
          injection e1
        rw [← e3, ez] at e2
        have e4 : z = y := by simpa using e2
        rw [e4]
        rfl
      | succ j => exact a12 j i' y e1 e2
    · intro j hj
      rcases List.mem_cons.mp hj with q | q
      · cases q
      · exact a13 j q
/-- where the in-outs are among the arguments, where the lent ones -/
def ioAt : Nat → List Ar → List Nat
  | _, [] => []
  | j, .io _ :: as => j :: ioAt (j + 1) as
  | j, _ :: as => ioAt (j + 1) as
def roAt : Nat → List Ar → List Nat
  | _, [] => []
  | j, .ro _ :: as => j :: roAt (j + 1) as
  | j, _ :: as => roAt (j + 1) as
def kAt (b : Bool) : Nat → List (Option (Bool × Nat)) → List Nat
  | _, [] => []
  | j, some (b', _) :: as => if b' = b then j :: kAt b (j + 1) as else kAt b (j + 1) as
  | j, none :: as => kAt b (j + 1) as
abbrev axK (u : Ax) : Option (Bool × Nat) := match u with
  | .t _ => none
  | .io i => some (true, i)
  | .ro i => some (false, i)
def ioV (σ : St) : List Ax → List V
  | [] => []
  | .io i :: us => slV σ i :: ioV σ us
  | _ :: us => ioV σ us
theorem io_vals {σ : St} {xs : List A} : ∀ {us : List Ax} {pre : List V}, vals xs = pre ++ us.map (Ax.v σ) → ioVals (kAt true pre.length (us.map axK)) xs = ioV σ us
  | [], pre, h => rfl
  | .t x :: us, pre, h => by
    have ih := io_vals (σ := σ) (us := us) (pre := pre ++ [x.val]) (by rw [h, List.map_cons, List.append_assoc]; rfl)
    rw [List.length_append] at ih
    exact ih
  | .ro i :: us, pre, h => by
    have ih := io_vals (σ := σ) (us := us) (pre := pre ++ [Ax.v σ (.ro i)]) (by rw [h, List.map_cons, List.append_assoc]; rfl)
    rw [List.length_append] at ih
    exact ih
  | .io i :: us, pre, h => by
    have ih := io_vals (σ := σ) (us := us) (pre := pre ++ [Ax.v σ (.io i)]) (by rw [h, List.map_cons, List.append_assoc]; rfl)
    rw [List.length_append] at ih
    show (ioVals (pre.length :: kAt true (pre.length + 1) (us.map axK)) xs) = slV σ i :: ioV σ us
    have e : (xs[pre.length]?).map A.val = some (Ax.v σ (.io i)) := by
      have e2 : (vals xs)[pre.length]? = some (Ax.v σ (.io i)) := by
        rw [h]
        simp
      rwa [List.getElem?_map] at e2
    unfold ioVals
    rw [List.filterMap_cons, e]
    show _ :: _ = _
    rw [← ih]
    rfl
/-- the lent trees -/
theorem ro_trees {as0 : Sl} {xs : List A} : ∀ {us : List Ax} {pre ys : List A}, xs = pre ++ ys → ys.length = us.length → (∀ (j : Nat) (i : Nat) (x : A), us[j]? = some (.ro i) → as0[i]? = some (some x) → ys[j]? = some x) → (∀ i ∈ roSl us, ∃ x, as0[i]? = some (some x)) →
    (roTr (kAt false pre.length (us.map axK)) xs).map some = (roSl us).map fun i => (as0[i]?).getD none
  | [], pre, ys, h, _, _, _ => rfl
  | .t x :: us, pre, ys, h, hl, hx, hr => by
    cases ys with
    | nil => cases hl
    | cons y ys =>
      have ih := ro_trees (xs := xs) (us := us) (pre := pre ++ [y]) (ys := ys) (by rw [h]; simp) (by simpa using hl) (fun j i x e1 e2 => hx (j + 1) i x e1 e2) hr
      rw [List.length_append] at ih
      exact ih
  | .io i :: us, pre, ys, h, hl, hx, hr => by
    cases ys with
    | nil => cases hl
    | cons y ys =>
      have ih := ro_trees (xs := xs) (us := us) (pre := pre ++ [y]) (ys := ys) (by rw [h]; simp) (by simpa using hl) (fun j i x e1 e2 => hx (j + 1) i x e1 e2) hr
      rw [List.length_append] at ih
      exact ih
  | .ro i :: us, pre, ys, h, hl, hx, hr => by
    cases ys with
    | nil => cases hl
    | cons y ys =>
      have ih := ro_trees (xs := xs) (us := us) (pre := pre ++ [y]) (ys := ys) (by rw [h]; simp) (by simpa using hl) (fun j i x e1 e2 => hx (j + 1) i x e1 e2) fun j hj => hr j (List.mem_cons_of_mem _ hj)
      rw [List.length_append] at ih
      obtain ⟨z, ez⟩ := hr i List.mem_cons_self
      have ey : y = z := by
        have := hx 0 i z rfl ez
        simpa using this
      show (roTr (pre.length :: kAt false (pre.length + 1) (us.map axK)) xs).map some = (as0[i]?).getD none :: (roSl us).map fun i => (as0[i]?).getD none
      have e : xs[pre.length]? = some z := by
        rw [h, ey]
        simp
      unfold roTr
      rw [List.filterMap_cons, e]
      show some z :: _ = _
      rw [ez, ← ih]
      rfl
/-- the lent trees put back -/
theorem backR {as2 : Sl} : ∀ {is : List Nat} {rs : List A} {as3 : Sl}, is.Nodup → rs.map some = is.map (fun i => (as2[i]?).getD none) → (∀ i ∈ is, as3[i]? = some none) → (∀ i, i ∉ is → as3[i]? = as2[i]?) → as3.length = as2.length → (rs ++ live as3).Perm (live as2)
  | [], rs, as3, _, h, _, h2, _ => by
    have e : rs = [] := by simpa using h
    subst e
    have e2 : as3 = as2 := List.ext_getElem? fun i => h2 i (by simp)
    rw [e2]
    exact List.Perm.refl _
  | i :: is, rs, as3, nd, h, h1, h2, hl => by
    obtain ⟨n1, n2⟩ := List.nodup_cons.mp nd
    cases rs with
    | nil => cases h
    | cons z rs =>
      injection h with ha hb
      have i3 := h1 i List.mem_cons_self
      have li : i < as3.length := (List.getElem?_eq_some_iff.mp i3).1
      have i2 : as2[i]? = some (some z) := by
        have li2 : i < as2.length := by rw [← hl]; exact li
        have ha' : some z = (as2[i]?).getD none := ha
        rw [List.getElem?_eq_getElem li2] at ha' ⊢
        have ha'' : some z = as2[i] := ha'
        rw [ha'']
      have ih := backR (as2 := as2) (is := is) (rs := rs) (as3 := as3.set i (some z)) n2 hb (fun j hj => by
        have nij : i ≠ j := fun w => n1 (by rw [w]; exact hj)
        rw [List.getElem?_set_ne nij]
        exact h1 j (List.mem_cons_of_mem _ hj)) (fun j hj => by
          by_cases e : i = j
          · subst e
            rw [List.getElem?_set_self li, i2]
          · rw [List.getElem?_set_ne e]
            exact h2 j fun w => by
              rcases List.mem_cons.mp w with q | q
              · exact e q.symm
              · exact hj q) (by rw [List.length_set]; exact hl)
      refine List.Perm.trans ?_ ih
      have e3 : as3.set i none = as3 := live_none i3
      have := live_set (as := as3) (i := i) (x := z) li
      rw [e3] at this
      show (z :: (rs ++ live as3)).Perm _
      exact (List.perm_middle (a := z) (l₁ := rs) (l₂ := live as3)).symm.trans (List.Perm.append_left rs this.symm)
/-- the in-outs come back -/
theorem putA {σ : St} {as0 : Sl} : ∀ {us : List Ax} {as2 : Sl} {ws : List W} {r3 : Env} {ys : List A}, SR σ as2 → putIo (us.map (Ax.er as0)) ws (ers as2) = some r3 → ys.map A.er = ws → vals ys = ioV σ us → (∀ i, Ax.io i ∈ us → ∃ v, σ[i]? = some (some v)) → (∀ i ∈ roSl us, ∃ x, as0[i]? = some (some x)) →
    G c n B H (ys ++ (live as2 ++ T)) → ∃ as3, ers as3 = r3 ∧ SR σ as3 ∧ G c n B H (live as3 ++ T) ∧ (∀ i, Ax.io i ∉ us → as3[i]? = as2[i]?)
  | [], as2, ws, r3, ys, s, h, e, _, _, _, g => by
    cases ws with
    | nil =>
      have e2 : ers as2 = r3 := Option.some.inj h
      have e3 : ys = [] := by simpa using e
      subst e3
      exact ⟨as2, e2, s, g, fun _ _ => rfl⟩
    | cons w ws => cases h
  | .t x :: us, as2, ws, r3, ys, s, h, e, ev, hl, hr, g => by
    obtain ⟨as3, a1, a2, a3, a4⟩ := putA (us := us) s h e ev (fun i hi => hl i (List.mem_cons_of_mem _ hi)) hr g
    exact ⟨as3, a1, a2, a3, fun i hi => a4 i fun z => hi (List.mem_cons_of_mem _ z)⟩
  | .ro i :: us, as2, ws, r3, ys, s, h, e, ev, hl, hr, g => by
    obtain ⟨z, ez⟩ := hr i List.mem_cons_self
    have h' : putIo ((match as0[i]? with
      | some (some x) => Sum.inl x.er
      | _ => .inr i) :: us.map (Ax.er as0)) ws (ers as2) = some r3 := h
    rw [ez] at h'
    obtain ⟨as3, a1, a2, a3, a4⟩ := putA (us := us) s h' e ev (fun i hi => hl i (List.mem_cons_of_mem _ hi)) (fun j hj => hr j (List.mem_cons_of_mem _ hj)) g
    exact ⟨as3, a1, a2, a3, fun i hi => a4 i fun z => hi (List.mem_cons_of_mem _ z)⟩
  | .io i :: us, as2, ws, r3, ys, s, h, e, ev, hl, hr, g => by
    cases ws with
    | nil => cases h
    | cons w ws =>
      cases ys with
      | nil => cases e
      | cons y ys =>
        injection e with e1 e2
        injection ev with ev1 ev2
        obtain ⟨v, hv⟩ := hl i List.mem_cons_self
        have hσ : i < σ.length := (List.getElem?_eq_some_iff.mp hv).1
        have hi : i < as2.length := by rw [s.1]; exact hσ
        have hy : y.val = v := by
          have e3 : slV σ i = v := by
            unfold slV
            rw [hv]
          have e4 : y.val = slV σ i := ev1
          rw [e4, e3]
        have es : (ers as2).set i (some w) = ers (as2.set i (some y)) := by
          rw [ers_set, ← e1]
          rfl
        have h' : putIo (us.map (Ax.er as0)) ws (ers (as2.set i (some y))) = some r3 := by
          rw [← es]
          exact h
        have s2 : SR σ (as2.set i (some y)) := ⟨by rw [List.length_set]; exact s.1, fun j z hz => by
          rw [List.getElem?_set] at hz
          split at hz
          · rename_i e5
            subst e5
            have e6 : y = z := by simpa [hi] using hz
            rw [← e6, hy]
            exact hv
          · exact s.2 j z hz⟩
        have g1 : G c n B H (live as2 ++ (y :: (ys ++ T))) := g.perm (by
          show (y :: (ys ++ (live as2 ++ T))).Perm _
          refine List.Perm.trans (List.Perm.cons y ?_) List.perm_middle.symm
          rw [← List.append_assoc, ← List.append_assoc]
          exact List.Perm.append_right _ List.perm_append_comm)
        have g2 := (g1.forget (i := i)).give hi
        have g3 : G c n B H (ys ++ (live (as2.set i (some y)) ++ T)) := g2.perm (by
          rw [← List.append_assoc, ← List.append_assoc]
          exact List.Perm.append_right _ List.perm_append_comm)
        obtain ⟨as3, a1, a2, a3, a4⟩ := putA (us := us) s2 h' e2 ev2 (fun i hi => hl i (List.mem_cons_of_mem _ hi)) hr g3
        refine ⟨as3, a1, a2, a3, fun j hj => ?_⟩
        rw [a4 j fun z => hj (List.mem_cons_of_mem _ z)]
        exact List.getElem?_set_ne fun z => hj (by rw [z]; exact List.mem_cons_self)
theorem call_core {f : Fn} {us : List Ax} {Q : VK} {M : List Nat} (x1 : Nx c n σ M as B as1 (atemps us ++ T) B1 H1) (hM : ∀ i, Ax.io i ∈ us → i ∈ M) (hio : f.io = kAt true 0 (us.map axK)) (hro : f.ro = kAt false 0 (us.map axK)) (har : f.ar = us.length) (nd : (slL us).Nodup) (hr : ∀ i ∈ roSl us, ∃ x, as1[i]? = some (some x))
    (h : Kn (match takeIo (us.map (Ax.er as1)) (ers as1) with
      | some (ws, r2) => match Γ f.id ws with
        | .ok w us' => Res.of ((putIo (us.map (Ax.er as1)) us' r2).map fun r3 => (w, r3))
        | .ex c p us' => match putIo (us.map (Ax.er as1)) us' r2 with
          | some r3 => .ex c p r3
          | none => .bad
        | .bad => .bad
      | none => .bad) (fun a => ∀ as2 y B2 H2, Nx c n σ M as B as2 (y :: T) B2 H2 → y.er = a.1 → ers as2 = a.2 → Q y.val H2) (KX c n σ as B Y)) :
    spOf c f.io f.ro (Γ f.id) f.ar (us.map (Ax.v σ)) H1 Q (WE Y σ) := by
  cases e : takeIo (us.map (Ax.er as1)) (ers as1) with
  | none =>
    rw [e] at h
    exact h.elim
  | some q =>
    obtain ⟨ws, r2⟩ := q
    rw [e] at h
    dsimp only at h
    obtain ⟨xs, as2, as3, a1, a2, a3, a4, a5, a6, a7, a8, a9, a10, a11, a12, a13⟩ := takeA (as := as1) (as' := as1) x1.sr nd (fun i _ => ⟨rfl, rfl⟩) e hr x1.sr
    have hiov : ioVals f.io xs = ioV σ us := by
      rw [hio]
      exact io_vals (pre := []) (by rw [a4]; rfl)
    have g0 : G c n B1 H1 (xs ++ (live as3 ++ T)) := x1.gd.perm (by
      rw [← List.append_assoc, ← List.append_assoc]
      exact List.Perm.append_right _ a5)
    have lxs : xs.length = us.length := by
      have := congrArg List.length a4
      rwa [List.length_map, List.length_map] at this
    -- the lent ones
    have hrt : (roTr f.ro xs).map some = (roSl us).map fun i => (as1[i]?).getD none := by
      rw [hro]
      refine ro_trees (pre := []) (ys := xs) rfl lxs (fun j i x e1 e2 => ?_) hr
      exact a12 j i x e1 e2
    have rsl : ∀ {us : List Ax}, (slL us).Nodup → (roSl us).Nodup := fun {us} h => by
      induction us with
      | nil => exact List.nodup_nil
      | cons u us ih =>
        cases u with
        | t x => exact ih h
        | io i => exact ih (List.nodup_cons.mp h).2
        | ro i =>
          obtain ⟨h1, h2⟩ := List.nodup_cons.mp (show (i :: slL us).Nodup from h)
          exact List.nodup_cons.mpr ⟨fun z => h1 (roSl_sub z), ih h2⟩
    have nio : ∀ {us : List Ax}, (slL us).Nodup → ∀ i ∈ roSl us, Ax.io i ∉ us := fun {us} h => by
      induction us with
      | nil =>
        intro i hi
        cases hi
      | cons u us ih =>
        intro i hi hm
        cases u with
        | t x =>
          rcases List.mem_cons.mp hm with z | z
          · cases z
          · exact ih h i hi z
        | io j =>
          obtain ⟨h1, h2⟩ := List.nodup_cons.mp (show (j :: slL us).Nodup from h)
          rcases List.mem_cons.mp hm with z | z
          · injection z with z
            rw [z] at hi
            exact h1 (roSl_sub hi)
          · exact ih h2 i hi z
        | ro j =>
          obtain ⟨h1, h2⟩ := List.nodup_cons.mp (show (j :: slL us).Nodup from h)
          rcases List.mem_cons.mp hm with z | z
          · cases z
          · rcases List.mem_cons.mp hi with q | q
            · rw [q] at z
              exact h1 (ioSl_sub z)
            · exact ih h2 i q z
    have ioT : ∀ {us : List Ax} {i : Nat}, i ∈ slL us → i ∉ roSl us → Ax.io i ∈ us := fun {us} => by
      induction us with
      | nil =>
        intro i h
        cases h
      | cons u us ih =>
        intro i h hn
        cases u with
        | t x => exact List.mem_cons_of_mem _ (ih h hn)
        | io j =>
          rcases List.mem_cons.mp (show i ∈ j :: slL us from h) with z | z
          · rw [z]
            exact List.mem_cons_self
          · exact List.mem_cons_of_mem _ (ih z hn)
        | ro j =>
          rcases List.mem_cons.mp (show i ∈ j :: slL us from h) with z | z
          · exact (hn (by rw [z]; exact List.mem_cons_self)).elim
          · exact List.mem_cons_of_mem _ (ih z fun q => hn (List.mem_cons_of_mem _ q))
    have io2 : ∀ i, Ax.io i ∈ us → as2[i]? = some none := a13
    have bk : (roTr f.ro xs ++ live as3).Perm (live as2) := by
      refine backR (is := roSl us) (rsl nd) ?_ (fun i hi => a10 i (roSl_sub hi)) (fun i hi => ?_) (by rw [a11, a7])
      · rw [hrt]
        refine List.map_congr_left fun i hi => ?_
        rw [a6 i (nio nd i hi)]
      · by_cases hs : i ∈ slL us
        · rw [a10 i hs, io2 i (ioT hs hi)]
        · rw [a9 i hs, a6 i fun z => hs (ioSl_sub z)]
    refine ⟨B1, xs, a4.symm, by rw [lxs, har], Gd.enter g0, ?_⟩
    rw [a1]
    cases ed : Γ f.id ws with
    | bad =>
      rw [ed] at h
      exact h.elim
    | ok w us' =>
      rw [ed] at h
      obtain ⟨⟨w', r'⟩, q1, q2⟩ := Kn.of h
      obtain ⟨r3, q3, q4⟩ := Option.map_eq_some_iff.mp q1
      injection q4 with q4 q5
      subst q4
      subst q5
      intro B2 H2 y ys sm gk ey eys evs
      have g1 : G c n B2 H2 ((y :: (ys ++ roTr f.ro xs)) ++ (live as3 ++ T)) := Gd.leave g0 gk
      have g2 : G c n B2 H2 (ys ++ (live as2 ++ (y :: T))) := g1.perm (by
        show (y :: ((ys ++ roTr f.ro xs) ++ (live as3 ++ T))).Perm _
        have p1 : ((ys ++ roTr f.ro xs) ++ (live as3 ++ T)).Perm (ys ++ (live as2 ++ T)) := by
          rw [List.append_assoc]
          refine List.Perm.append_left _ ?_
          rw [← List.append_assoc]
          exact List.Perm.append_right _ bk
        refine (p1.cons y).trans ?_
        rw [← List.append_assoc, ← List.append_assoc]
        exact List.perm_middle.symm)
      rw [← a2] at q3
      obtain ⟨as4, b1, b2, b3, b4⟩ := putA (T := y :: T) a3 q3 eys (evs.trans hiov) a8 hr g2
      refine q2 as4 y B2 H2 ⟨x1.sb.trans sm, b3, b2, fun i hi => ?_⟩ ey b1
      rw [b4 i fun z => hi (hM i z), a6 i fun z => hi (hM i z)]
      exact x1.fr i hi
    | ex cl p us' =>
      rw [ed] at h
      dsimp only at h
      cases e3 : putIo (us.map (Ax.er as1)) us' r2 with
      | none =>
        rw [e3] at h
        exact h.elim
      | some r3 =>
        rw [e3] at h
        have h' : KX c n σ as B Y cl r3 := h
        intro B2 H2 ys sm gk eys evs
        have g1 : G c n B2 H2 ((ys ++ roTr f.ro xs) ++ (live as3 ++ T)) := Gd.leave g0 gk
        have g2 : G c n B2 H2 (ys ++ (live as2 ++ T)) := g1.perm (by
          rw [List.append_assoc]
          refine List.Perm.append_left _ ?_
          rw [← List.append_assoc]
          exact List.Perm.append_right _ bk)
        rw [← a2] at e3
        obtain ⟨as4, b1, b2, b3, b4⟩ := putA (T := T) a3 e3 eys (evs.trans hiov) a8 hr g2
        refine h' as4 B2 H2 T M ⟨x1.sb.trans sm, b3, b2, fun i hi => ?_⟩ b1
        rw [b4 i fun z => hi (hM i z), a6 i fun z => hi (hM i z)]
        exact x1.fr i hi
end
end Vx
end

section
set_option maxHeartbeats 4000000
/-! Vx 14: calls, chains, truth, what is walked. -/
namespace Vx
open PySem L2
section
variable {c : Gx} {Γ : Den} {k : Ck} {X : Cx} {Y : WX} {n : En} {σ : St} {as as1 as2 : Sl} {B H B1 H1 B2 H2 : Hp} {T T1 T2 : List A} {M N : List Nat}
abbrev callSem (Γ : Den) (f : Nat) (ss : Sm (List (W ⊕ Nat))) : Sm W := fun r => (ss r).bind fun (vs, r1) => match takeIo vs r1 with
  | some (ws, r2) => match Γ f ws with
    | .ok w us => Res.of ((putIo vs us r2).map fun r3 => (w, r3))
    | .ex c p us => match putIo vs us r2 with
      | some r3 => .ex c p r3
      | none => .bad
    | .bad => .bad
  | none => .bad
/-- the slots among the arguments -/
def kSl : List (Option (Bool × Nat)) → List Nat
  | [] => []
  | some (_, i) :: ks => i :: kSl ks
  | none :: ks => kSl ks
theorem kSl_ax : ∀ us : List Ax, kSl (us.map axK) = slL us
  | [] => rfl
  | .t x :: us => kSl_ax us
  | .io i :: us => by
    show i :: kSl (us.map axK) = i :: slL us
    rw [kSl_ax us]
  | .ro i :: us => by
    show i :: kSl (us.map axK) = i :: slL us
    rw [kSl_ax us]
/-- what a def's numbers must be at a call -/
structure KOk (f : Fn) (ks : List (Option (Bool × Nat))) (M : List Nat) : Prop where
  io : f.io = kAt true 0 ks
  ro : f.ro = kAt false 0 ks
  ar : f.ar = ks.length
  nd : (kSl ks).Nodup
  m : ∀ i, some (true, i) ∈ ks → i ∈ M
theorem call_main {f : Fn} {us : List Ax} {ks : List (Option (Bool × Nat))} {Q : VK} {vs : List (W ⊕ Nat)} (hio : KOk f ks M) (x1 : Nx c n σ M as B as1 (atemps us ++ T) B1 H1) (exs : us.map (Ax.er as1) = vs) (ek : us.map axK = ks) (er : ∀ i ∈ roSl us, ∃ x, as1[i]? = some (some x))
    (h : Kn (match takeIo vs (ers as1) with
      | some (ws, r2) => match Γ f.id ws with
        | .ok w us => Res.of ((putIo vs us r2).map fun r3 => (w, r3))
        | .ex c p us => match putIo vs us r2 with
          | some r3 => .ex c p r3
          | none => .bad
        | .bad => .bad
      | none => .bad) (fun a => ∀ as2 y B2 H2, Nx c n σ M as B as2 (y :: T) B2 H2 → y.er = a.1 → ers as2 = a.2 → Q y.val H2) (KX c n σ as B Y)) :
    spOf c f.io f.ro (Γ f.id) f.ar (us.map (Ax.v σ)) H1 Q (WE Y σ) := by
  subst exs
  subst ek
  refine call_core x1 (fun i hi => hio.m i (List.mem_map.mpr ⟨_, hi, rfl⟩)) hio.io hio.ro (by rw [hio.ar, List.length_map]) (by rw [← kSl_ax]; exact hio.nd) er h
theorem snd_call (x : XS c Γ k X Y) {f : Fn} (hf : f ∈ k.fns) (hcl : f.cl = none) {e : Expr} {es : List Expr} {ss : Sm (List (W ⊕ Nat))} {ks : List (Option (Bool × Nat))} {p pos : Pos} (hs : ASnd c X Y (e :: es) M ss ks) (hb : k.bi f.name = true) (hd : (f.name == ("__debug__" : Str)) = false) (ok : (e :: es).all okE = true)
    (hio : KOk f ks M) : ESnd c X Y (.Call (.Name f.name p) (e :: es) [] pos) M (callSem Γ f.id ss) := by
  obtain ⟨a, fd, ps, lv, F, hl, room, hm, hk, hbi⟩ := x.fns f hf
  unfold FAt at hm
  rw [hcl] at hm
  obtain ⟨ts, pss, ks'⟩ := hs
  have ok' : (okE e && es.all okE) = true := ok
  obtain ⟨ok1, ok2⟩ := Bool.and_eq_true_iff.mp ok'
  have pe := pe_callS (X := X) (p := p) (pos := pos) F (room.mono (by omega)) (x.ok.gl hb) hm hk hbi (fun σ => passAt x.tk σ) (PEs.pa ok pss) hd (star_ok ok1) (star_any ok2)
  refine ⟨_, pe, plN pe rfl, fun n σ as B H T Q g s hk => ks' n σ as B H T _ g s (hk.bind.mono ?_ fun _ _ z => z)⟩
  rintro ⟨vs, r1⟩ ea h as1 us B1 H1 x1 (exs : us.map (Ax.er as1) = vs) (rfl : ers as1 = r1) ek er
  exact call_main hio x1 exs ek er h
theorem snd_call0 (x : XS c Γ k X Y) {f : Fn} (hf : f ∈ k.fns) (hcl : f.cl = none) {p pos : Pos} (hb : k.bi f.name = true) (hd : (f.name == ("__debug__" : Str)) = false) (h0 : f.ar = 0) (hi : f.io = []) (hro : f.ro = []) : ESnd c X Y (.Call (.Name f.name p) [] [] pos) [] (fun r => match Γ f.id [] with
    | .ok w [] => .ok (w, r)
    | _ => .bad) := by
  obtain ⟨a, fd, ps, lv, F, hl, room, hm, hk, hbi⟩ := x.fns f hf
  unfold FAt at hm
  rw [hcl] at hm
  have pass : Passes (L2.CX X.prog X.w) X E0 := fun pins σ H s e s' I cx => by
    obtain ⟨_, _, _, _, _, _, _, _, _, _, _, _, z⟩ := cx
    exact z.elim
  have pe := pe_call0 (X := X) (p := p) (pos := pos) F (room.mono (by omega)) (x.ok.gl hb) hm hk hbi .nil pass hd
  refine ⟨_, pe, plN pe rfl, fun n σ as B H T Q g s hk => ?_⟩
  show spOf c f.io f.ro (Γ f.id) f.ar [] H Q E0
  refine ⟨B, [], rfl, h0.symm, Gd.enter (xs := []) (R := live as ++ T) g, ?_⟩
  dsimp only at hk
  show (match Γ f.id [] with
    | .ok w us => _
    | .ex cl p us => _
    | .bad => False : Prop)
  cases ed : Γ f.id [] with
  | bad =>
    rw [ed] at hk
    exact hk.elim
  | ex cl p us =>
    rw [ed] at hk
    exact hk.elim
  | ok w us =>
    rw [ed] at hk
    cases us with
    | cons u us => exact hk.elim
    | nil =>
      have hk' : ∀ as1 x B1 H1, Nx c n σ [] as B as1 (x :: T) B1 H1 → x.er = w → ers as1 = ers as → Q x.val H1 := hk
      intro B' H' y ys sm gk ey eys _
      have e0 : ys = [] := by simpa using eys
      subst e0
      have g1 : G c n B' H' ((y :: []) ++ (live as ++ T)) := Gd.leave (xs := []) (R := live as ++ T) g (by rw [hro] at gk; exact gk)
      exact hk' as y B' H' ⟨sm, g1.perm (List.perm_middle (a := y) (l₁ := live as) (l₂ := T)).symm, s, fun _ _ => rfl⟩ ey rfl
/-! ### methods -/
abbrev methSem (Γ : Den) (ci : Nat) (m : Str) (f : Nat) (rc : Env → Option W) (ss : Sm (List (W ⊕ Nat))) : Sm W := fun r => match rc r with
  | some w => if isIns ci m w then (ss r).bind fun (vs, r1) => match takeIo vs r1 with
    | some (ws, r2) => match Γ f ws with
      | .ok w us => Res.of ((putIo vs us r2).map fun r3 => (w, r3))
      | .ex c p us => match putIo vs us r2 with
        | some r3 => .ex c p r3
        | none => .bad
      | .bad => .bad
    | none => .bad
    else .bad
  | none => .bad
/-- what an instance in a slot is -/
theorem ins_slot {i ci : Nat} {m : Str} {x : A} (g : G c n B H (live as ++ T)) (s : SR σ as) (e : as[i]? = some (some x)) (h : isIns ci m x.er = true) :
    ∃ a dx fs, σ[i]? = some (some (.ref a)) ∧ H a = some (.ins (c.cls ci) dx fs) ∧ fs.lookup m = none := by
  unfold isIns at h
  split at h
  · rename_i j fs n0 ek
    obtain ⟨h1, h2⟩ := Bool.and_eq_true_iff.mp h
    have h1 := of_decide_eq_true h1
    subst h1
    have pa : PAt c B as (i, []) x.val x.er := ⟨x, e, rfl, rfl⟩
    obtain ⟨a, vs, g1, g2, g3, g4, _⟩ := PAt.kids g pa ek
    obtain ⟨dx, g2⟩ := g2
    refine ⟨a, dx, fs.zip vs, by rw [s.2 i x e, g1], g2, ?_⟩
    have hn : m ∉ fs := by simpa using h2
    cases q : (fs.zip vs).lookup m with
    | none => rfl
    | some v =>
      have hm : ∀ {fs : List Str} {vs : List V}, (fs.zip vs).lookup m = some v → m ∈ fs := by
        intro fs
        induction fs with
        | nil =>
          intro vs h
          cases h
        | cons b fs ih =>
          intro vs h
          cases vs with
          | nil => cases h
          | cons u vs =>
            have h' : ((b, u) :: fs.zip vs).lookup m = some v := h
            rw [List.lookup_cons] at h'
            cases e : (m == b) with
            | true =>
              rw [beq_iff_eq.mp e]
              exact List.mem_cons_self
            | false =>
              rw [e] at h'
              exact List.mem_cons_of_mem _ (ih h')
      exact (hn (hm q)).elim
  · cases h
theorem pes_cons {e : Expr} {es : List Expr} {ts : List TE} (h : PEs X (e :: es) ts) : ∃ t tr, ts = t :: tr ∧ PE X e t ∧ PEs X es tr := h
def recvIo (i : Nat) : Env → Option W := fun r => match r[i]? with
  | some (some w) => some w
  | _ => none
abbrev semIo (i : Nat) (ss : Sm (List (W ⊕ Nat))) : Sm (List (W ⊕ Nat)) := fun r => match r[i]? with
  | some (some _) => (ss r).bind fun (vs, r2) => .ok (.inr i :: vs, r2)
  | _ => .bad
abbrev semRo (i : Nat) (ss : Sm (List (W ⊕ Nat))) : Sm (List (W ⊕ Nat)) := fun r => match r[i]? with
  | some (some w) => (ss r).bind fun (vs, r2) => .ok (.inl w :: vs, r2)
  | _ => .bad
theorem all_of_any : ∀ {l : List (Bool × Sem Value)}, l.any (·.1) = false → l.all (fun x => !x.1) = true
  | [], _ => rfl
  | x :: l, h => by
    have h' : (x.1 || l.any (·.1)) = false := h
    obtain ⟨h1, h2⟩ := Bool.or_eq_false_iff.mp h'
    show (!x.1 && l.all fun x => !x.1) = true
    rw [h1, all_of_any h2]
    rfl
theorem form_ok {es : List Expr} {pos : Pos} {env : PySem.Env} (ok : es.all okE = true) (hz : es.length < 30) : methodCallForm (es.length + ([] : List Keyword).length) (backTo pos (starEach es env)) (backToKw pos (keywordEach [] env)) = true := by
  have h1 : (backTo pos (starEach es env)).all (fun x => !x.1) = true := all_of_any (star_any ok)
  unfold methodCallForm
  rw [h1]
  show (true && true && decide (es.length + 0 + 0 < 30)) = true
  rw [decide_eq_true (by omega)]
  rfl
theorem meth_eval {o : Expr} {m : Str} {apos pos : Pos} {es : List Expr} {env : PySem.Env} (ok : es.all okE = true) (hz : es.length < 30) (oo : okO o = true) (hl : (apos.endLine == pos.line) = true) :
    eval (.Call (.Attribute o m apos) es [] pos) env = (do
      let ov ← eval o env
      standAt apos.atName
      let (f, first) ← holding [ov] (getMethod ov m (do return (← importBound o env).getD true))
      callWith pos f first (backTo pos (starEach es env)) (backToKw pos (keywordEach [] env))) := by
  show (do
    let ov ← attributeBase o m env (eval o env)
    standAt apos.atName
    methodCall o m apos pos env ov (es.length + ([] : List Keyword).length) (backTo pos (starEach es env)) (backToKw pos (keywordEach [] env))) = _
  rw [base_ok oo]
  unfold methodCall
  rw [form_ok ok hz]
  unfold methodCallPos
  simp only [Bool.not_true, Bool.false_or, hl, if_true, calleeOf]
  rfl
/-- a method's text -/
theorem meth_pe (x : XS c Γ k X Y) {f : Fn} {a : Addr} {fd : FuncData} {ps : List Str} {lv ci : Nat} {sp : L2.Sp} (F : FnOk X.prog X.w X.K X.mg X.base (L2.CX X.prog X.w) lv a fd ps sp) (room : Room (lv + 2) X.A) (hm : Meth X.K (c.cls ci) f.name a) (hc : Cls X.K (c.cls ci)) (hbi : Binds X.K fd ps [])
    {i : Nat} {y : Str} {pos apos cpos : Pos} (hv : visB k i y = true) {es : List Expr} {ts : List TE} (ok : es.all okE = true) (hz : es.length < 30) (hl : (apos.endLine == cpos.line) = true) (h : PEs X es ts) :
    PE X (.Call (.Attribute (.Name y pos) f.name apos) es [] cpos) (tMethZ (c.cls ci) f.name sp (fun σ => WE Y σ) (tVar i) (tN ts)) := by
  have ev := meth_eval (o := .Name y pos) (m := f.name) (env := X.env) ok hz rfl hl
  cases es with
  | nil =>
    have e : ts = [] := h
    subst e
    exact pe_methZ0 (vis_pe x.ok hv) hc hm F (room.mono (by omega)) hbi (fun σ => passAt x.tk σ) ev
  | cons e es =>
    have ok' : (okE e && es.all okE) = true := ok
    obtain ⟨ok1, ok2⟩ := Bool.and_eq_true_iff.mp ok'
    exact pe_methZ (vis_pe x.ok hv) hc hm F (room.mono (by omega)) hbi (fun σ => passAt x.tk σ) (PEs.pa ok h) (star_ok ok1) (star_any ok2) ev
theorem snd_methIo (x : XS c Γ k X Y) {f : Fn} (hf : f ∈ k.fns) {ci : Nat} (hcl : f.cl = some ci) {i : Nat} {y : Str} {pos apos cpos : Pos} (hv : visB k i y = true) {es : List Expr} {ss : Sm (List (W ⊕ Nat))} {ks : List (Option (Bool × Nat))} (hs : ASnd c X Y es M ss ks)
    (ok : es.all okE = true) (hz : es.length < 30) (hl : (apos.endLine == cpos.line) = true) (hio : KOk f (some (true, i) :: ks) (i :: M)) :
    ESnd c X Y (.Call (.Attribute (.Name y pos) f.name apos) es [] cpos) (i :: M) (methSem Γ ci f.name f.id (recvIo i) (semIo i ss)) := by
  obtain ⟨a, fd, ps, lv, F, _, room, hm, hk, hbi⟩ := x.fns f hf
  unfold FAt at hm
  rw [hcl] at hm
  obtain ⟨ts, pss, ks'⟩ := hs
  have pe := meth_pe (apos := apos) (cpos := cpos) (pos := pos) x F room hm.1 hm.2 hbi hv ok hz hl pss
  refine ⟨_, pe, plN pe rfl, fun n σ as B H T Q g s hk => ?_⟩
  unfold methSem recvIo at hk
  dsimp only at hk
  have e0 := ers_get (as := as) (i := i)
  cases e : as[i]? with
  | none =>
    rw [e0, e] at hk
    exact hk.elim
  | some z =>
    cases z with
    | none =>
      rw [e0, e] at hk
      exact hk.elim
    | some z =>
      rw [e0, e] at hk
      dsimp only [Option.map] at hk
      split at hk
      · rename_i hin
        unfold semIo at hk
        rw [e0, e] at hk
        dsimp only [Option.map] at hk
        obtain ⟨b, dx, fs, h1, h2, h3⟩ := ins_slot g s e hin
        refine ⟨.ref b, h1, b, dx, fs, rfl, h2, h3, ?_⟩
        refine ks' n σ as B H T _ g s ((Kn.bind (Kn.bind hk)).mono ?_ fun _ _ z => z)
        rintro ⟨ws, r2⟩ eb h4 as2 us B2 H2 x2 (exs : us.map (Ax.er as2) = ws) (rfl : ers as2 = r2) ek er
        have ev : Ax.v σ (.io i) = .ref b := by
          show (match σ[i]? with
            | some (some v) => v
            | _ => V.non) = _
          rw [h1]
        have := call_main (us := .io i :: us) (vs := .inr i :: ws) (Q := Q) (Y := Y) (B := B) (as := as) hio (x2.mono fun j hj => List.mem_cons_of_mem _ hj) (by rw [List.map_cons, exs]; rfl) (by rw [List.map_cons]; exact congrArg _ ek) er h4
        rw [List.map_cons, ev] at this
        exact this
      · exact hk.elim
theorem snd_methRo (x : XS c Γ k X Y) {f : Fn} (hf : f ∈ k.fns) {ci : Nat} (hcl : f.cl = some ci) {i : Nat} {y : Str} {pos apos cpos : Pos} (hv : visB k i y = true) {es : List Expr} {ss : Sm (List (W ⊕ Nat))} {ks : List (Option (Bool × Nat))} (hs : ASnd c X Y es M ss ks)
    (ok : es.all okE = true) (hz : es.length < 30) (hl : (apos.endLine == cpos.line) = true) (hi : i ∉ M) (hio : KOk f (some (false, i) :: ks) M) :
    ESnd c X Y (.Call (.Attribute (.Name y pos) f.name apos) es [] cpos) M (methSem Γ ci f.name f.id (recvIo i) (semRo i ss)) := by
  obtain ⟨a, fd, ps, lv, F, _, room, hm, hk, hbi⟩ := x.fns f hf
  unfold FAt at hm
  rw [hcl] at hm
  obtain ⟨ts, pss, ks'⟩ := hs
  have pe := meth_pe (apos := apos) (cpos := cpos) (pos := pos) x F room hm.1 hm.2 hbi hv ok hz hl pss
  refine ⟨_, pe, plN pe rfl, fun n σ as B H T Q g s hk => ?_⟩
  unfold methSem recvIo at hk
  dsimp only at hk
  have e0 := ers_get (as := as) (i := i)
  cases e : as[i]? with
  | none =>
    rw [e0, e] at hk
    exact hk.elim
  | some z =>
    cases z with
    | none =>
      rw [e0, e] at hk
      exact hk.elim
    | some z =>
      rw [e0, e] at hk
      dsimp only [Option.map] at hk
      split at hk
      · rename_i hin
        unfold semRo at hk
        rw [e0, e] at hk
        dsimp only [Option.map] at hk
        obtain ⟨b, dx, fs, h1, h2, h3⟩ := ins_slot g s e hin
        refine ⟨.ref b, h1, b, dx, fs, rfl, h2, h3, ?_⟩
        refine ks' n σ as B H T _ g s ((Kn.bind (Kn.bind hk)).mono ?_ fun _ _ z => z)
        rintro ⟨ws, r2⟩ eb h4 as2 us B2 H2 x2 (exs : us.map (Ax.er as2) = ws) (rfl : ers as2 = r2) ek er
        have ei : as2[i]? = some (some z) := (x2.fr i hi).trans e
        have ev : Ax.v σ (.ro i) = .ref b := by
          show (match σ[i]? with
            | some (some v) => v
            | _ => V.non) = _
          rw [h1]
        have := call_main (us := .ro i :: us) (vs := .inl z.er :: ws) (Q := Q) (Y := Y) (B := B) (as := as) hio x2 (by
          rw [List.map_cons, exs]
          show (match as2[i]? with
            | some (some x) => Sum.inl x.er
            | _ => .inr i) :: ws = _
          rw [ei]) (by rw [List.map_cons]; exact congrArg _ ek) (fun j hj => by
          rcases List.mem_cons.mp hj with q | q
          · rw [q]
            exact ⟨z, ei⟩
          · exact er j q) h4
        rw [List.map_cons, ev] at this
        exact this
      · exact hk.elim
/-! ### instances made -/
/-- a new instance, without fields -/
theorem Nx.made {xs : List A} {ci : Nat} {p dx : Addr} (h : Nx c n σ M as B as1 T B1 H1) (hp : H1 p = none) (hd : H1 dx = none) (ne : dx ≠ p) :
    Nx c n σ M as B as1 (.nd p ⟨dx, (0 : Gh).od⟩ (.ins ci []) [] :: T) B1 (upd (upd H1 dx (.own p)) p (.ins (c.cls ci) dx [])) := by
  have g := h.gd
  have hbp := g.b_none hp
  have hbd := g.b_none hd
  have hmp := not_mem_of_none g hp
  have hmd := not_mem_of_none g hd
  have gg : G c n B1 (upd (upd H1 dx (.own p)) p (.ins (c.cls ci) dx [])) (.nd p ⟨dx, (0 : Gh).od⟩ (.ins ci []) [] :: (live as1 ++ T)) := by
    have e : objsL c (.nd p ⟨dx, (0 : Gh).od⟩ (.ins ci []) [] :: (live as1 ++ T)) = (p, HO.ins (c.cls ci) dx []) :: (dx, .own p) :: objsL c (live as1 ++ T) := rfl
    refine ⟨g.b0, fun b o q => ?_, fun q hq => ?_, ?_, fun x hx => ?_, fun b o q hA => ?_, fun b hb' => ?_⟩
    · rw [upd_ne (ne_of_none q hbp), upd_ne (ne_of_none q hbd)]
      exact g.sub b o q
    · rw [e] at hq
      rcases List.mem_cons.mp hq with rfl | hq
      · exact ⟨upd_same, hbp⟩
      · rcases List.mem_cons.mp hq with rfl | hq
        · exact ⟨by rw [upd_ne ne, upd_same], hbd⟩
        · obtain ⟨q1, q2⟩ := g.hold q hq
          exact ⟨by rw [upd_ne (ne_of_none q1 hp), upd_ne (ne_of_none q1 hd)]; exact q1, q2⟩
    · rw [e]
      refine List.nodup_cons.mpr ⟨fun z => ?_, List.nodup_cons.mpr ⟨hmd, g.nd⟩⟩
      rcases List.mem_cons.mp z with z | z
      · exact ne z.symm
      · exact hmp z
    · rcases List.mem_cons.mp hx with rfl | hx
      · exact ⟨rfl, trivial⟩
      · exact g.lf x hx
    · rw [upd_ne (ne_of_none (g.fr b o q hA) hp), upd_ne (ne_of_none (g.fr b o q hA) hd)]
      exact g.fr b o q hA
    · rw [e] at hb'
      rcases hb' with q | q
      · exact g.nw b (Or.inl q)
      · rcases List.mem_cons.mp q with rfl | q
        · exact Or.inr (g.new_ok hp)
        · rcases List.mem_cons.mp q with rfl | q
          · exact Or.inr (g.new_ok hd)
          · exact g.nw b (Or.inr q)
  exact ⟨h.sb, Gd.perm gg (List.perm_middle (a := A.nd p ⟨dx, (0 : Gh).od⟩ (.ins ci []) [])).symm, h.sr, h.fr⟩
theorem new_pe (x : XS c Γ k X Y) {f : Fn} {a : Addr} {fd : FuncData} {ps : List Str} {lv ci : Nat} {nm : Str} {sp : L2.Sp} (F : FnOk X.prog X.w X.K X.mg X.base (L2.CX X.prog X.w) lv a fd ps sp) (room : Room (lv + 2) X.A) (hm : Meth X.K (c.cls ci) "__init__" a) (hbi : Binds X.K fd ps [])
    (hg : X.mg nm = some (.ref (c.cls ci))) (hmk : PySem.W.makesIn X.K (c.cls ci) = true) (hkp : PySem.W.keepIn X.K (.ref (c.cls ci)) = true) {pos cpos : Pos} (hb : k.bi nm = true) (hd : (nm == ("__debug__" : Str)) = false) {es : List Expr} {ts : List TE} (ok : es.all okE = true) (h : PEs X es ts) :
    PE X (.Call (.Name nm pos) es [] cpos) (tMake (c.cls ci) sp [] E0 (tN ts)) := by
  have mk : Mk X.K (c.cls ci) a := ⟨hmk, hm.at_, hm.fn, hkp⟩
  have pass : Passes (L2.CX X.prog X.w) X E0 := fun pins σ H s e s' I cx => by
    obtain ⟨_, _, _, _, _, _, _, _, _, _, _, _, z⟩ := cx
    exact z.elim
  cases es with
  | nil =>
    have e : ts = [] := h
    subst e
    exact pe_make0 mk F (room.mono (by omega)) (x.ok.gl hb) hg hbi .nil pass hd
  | cons e es =>
    have ok' : (okE e && es.all okE) = true := ok
    obtain ⟨ok1, ok2⟩ := Bool.and_eq_true_iff.mp ok'
    exact pe_make mk F (room.mono (by omega)) (x.ok.gl hb) hg hbi .nil pass (PEs.pa ok h) hd (star_ok ok1) (star_any ok2)
theorem snd_new (x : XS c Γ k X Y) {f : Fn} (hf : f ∈ k.fns) {q : Kls} (hq : q ∈ k.clss) (hqm : q.mkb = true) (hcl : f.cl = some q.ci) (hn : f.name = "__init__") (hio : f.io = [0]) (hro : f.ro = []) {pos cpos : Pos} {es : List Expr} {ss : Sm (List W)} (hs : LSnd c X Y es M ss) (har : f.ar = es.length + 1)
    (hlen : ∀ r ws r1, ss r = .ok (ws, r1) → ws.length = es.length) (ok : es.all okE = true) (hb : k.bi q.name = true) (hd : (q.name == ("__debug__" : Str)) = false) :
    ESnd c X Y (.Call (.Name q.name pos) es [] cpos) M (fun r => (ss r).bind fun (ws, r1) => match Γ f.id (.nd (.ins q.ci []) [] :: ws) with
      | .ok (.fl .non) [w] => .ok (w, r1)
      | _ => .bad) := by
  obtain ⟨a, fd, ps, lv, F, hl, room, hm, hk, hbi⟩ := x.fns f hf
  unfold FAt at hm
  rw [hcl] at hm
  obtain ⟨c1, c2, c3⟩ := (x.clss q hq).made hqm
  obtain ⟨ts, pss, ks'⟩ := hs
  have pe := new_pe (f := f) (pos := pos) (cpos := cpos) x F room (by rw [← hn]; exact hm.1) hbi c1 c2 c3 hb hd ok pss
  refine ⟨_, pe, plN pe rfl, fun n σ as B H T Q g s hk => ks' n σ as B H T _ g s (hk.bind.mono ?_ fun _ _ z => z)⟩
  rintro ⟨ws, r1⟩ ea h as1 xs B1 H1 x1 (exs : xs.map A.er = ws) (rfl : ers as1 = r1)
  intro p dx hp hdx ne
  have x2 := Nx.made (xs := []) (ci := q.ci) x1 hp hdx ne
  have g2 : G c n B1 (upd (upd H1 dx (.own p)) p (.ins (c.cls q.ci) dx [])) ((A.nd p ⟨dx, (0 : Gh).od⟩ (.ins q.ci []) [] :: xs) ++ (live as1 ++ T)) := Gd.perm x2.gd (by
    show (live as1 ++ (A.nd p ⟨dx, (0 : Gh).od⟩ (.ins q.ci []) [] :: (xs ++ T))).Perm _
    rw [List.cons_append]
    refine List.perm_middle.trans (List.Perm.cons _ ?_)
    rw [← List.append_assoc, ← List.append_assoc]
    exact List.Perm.append_right _ List.perm_append_comm)
  refine ⟨B1, A.nd p ⟨dx, (0 : Gh).od⟩ (.ins q.ci []) [] :: xs, by rw [List.append_nil]; rfl, ?_, Gd.enter g2, ?_⟩
  · have := hlen _ _ _ ea
    rw [List.length_cons, har, ← this, ← exs, List.length_map]
  · have e1 : (A.nd p ⟨dx, (0 : Gh).od⟩ (.ins q.ci []) [] :: xs).map A.er = W.nd (.ins q.ci []) [] :: ws := by
      rw [List.map_cons, exs, A.er_nd]
      rfl
    rw [e1]
    dsimp only at h
    cases ed : Γ f.id (.nd (.ins q.ci []) [] :: ws) with
    | bad =>
      rw [ed] at h
      exact h.elim
    | ex cl p us =>
      rw [ed] at h
      exact h.elim
    | ok w us =>
      rw [ed] at h
      match w, us, h with
      | .fl .non, [w], h =>
        have h' : ∀ as2 y B2 H2, Nx c n σ M as B as2 (y :: T) B2 H2 → y.er = w → ers as2 = ers as1 → Q y.val H2 := h
        intro B2 H2 y ys sm gk ey eys evs
        rw [hio] at evs
        rw [hro] at gk
        match ys, eys, evs, gk with
        | [z], eys, evs, gk =>
          have ez : z.er = w := by simpa using eys
          have vz : z.val = .ref p := by
            have evs' : [z.val] = [V.ref p] := evs
            injection evs'
          have gl : G c n B2 H2 ([y, z] ++ (live as1 ++ T)) := Gd.leave g2 gk
          have yv : y.val = .non := by
            have r := gl.lf y List.mem_cons_self
            cases y with
            | fl v d =>
              have e2 : d = .non := W.fl.inj ey
              subst e2
              exact r
            | nd a dx k cs =>
              rw [A.er_nd] at ey
              cases ey
          refine ⟨yv, ?_⟩
          rw [← vz]
          refine h' as1 z B2 H2 ⟨x1.sb.trans sm, ?_, x1.sr, x1.fr⟩ ez rfl
          have g3 : G c n B2 H2 (z :: (live as1 ++ T)) := Gd.drop1 (x := y) gl
          exact Gd.perm g3 (List.perm_middle (a := z)).symm
        | [], eys, _, _ => cases eys
        | _ :: _ :: _, eys, _, _ => cases eys
/-! ### a < b < c -/
theorem marks_ok {op op' : CmpOp} {b d : Expr} (h1 : okE b = true) (h2 : okE d = true) : lastMarks [op, op'] [b, d] = false := by
  cases b <;> first | (cases h1; done) | (cases d <;> first | (cases h2; done) | with_unfolding_all rfl)
theorem snd_chn {o p : Rop} {op op' : CmpOp} {g g' : Int → Int → Bool} {a b d : Expr} {Ma Mb Md : List Nat} {sa sb sd : Sm W} {pos : Pos} (ho : OpR X (compareOp op) (rI0 fun i j => .bl (g i j))) (ho' : OpR X (compareOp op') (rI0 fun i j => .bl (g' i j)))
    (hr : o.run = on2I fun i j => pB (g i j)) (hr' : p.run = on2I fun i j => pB (g' i j)) (ha : ESnd c X Y a Ma sa) (hb : ESnd c X Y b Mb sb) (hd : ESnd c X Y d Md sd) (ok1 : okE b = true) (ok2 : okE d = true) :
    ESnd c X Y (.Compare a [op, op'] [b, d] pos) (Ma ++ (Mb ++ Md)) (fun r => (sa r).bind fun (x, r1) => (sb r1).bind fun (y, r2) => match o.run [x, y] with
      | some (.fl (.bl k)) => if k then (sd r2).bind fun (z, r3) => Res.of ((p.run [y, z]).map fun w => (w, r3)) else .ok (.fl (.bl false), r2)
      | _ => .bad) := by
  obtain ⟨ta, pa, _, ka⟩ := ha
  obtain ⟨tb, pb, _, kb⟩ := hb
  obtain ⟨td, pd, _, kd⟩ := hd
  have pe := pe_chain (X := X) (pos := pos) ho ho' pa pb pd (marks_ok ok1 ok2)
  refine ⟨_, pe, fun _ => pt_chain ho ho' pa pb pd (marks_ok ok1 ok2), fun n σ as B H T Q g0 s hk => ka n σ as B H T _ g0 s (hk.bind.mono ?_ fun _ _ z => z)⟩
  rintro ⟨wa, r1⟩ ea h as1 x B1 H1 x1 (ex : x.er = wa) (rfl : ers as1 = r1)
  refine kb n σ as1 B1 H1 (x :: T) _ x1.gd x1.sr ((Kn.bind h).mono ?_ fun _ _ z => KX.trans x1 _ _ z)
  rintro ⟨wb, r2⟩ eb h2 as2 y B2 H2 x2 (ey : y.er = wb) (rfl : ers as2 = r2)
  dsimp only at h2
  have x12 := x1.trans x2
  cases hrun : o.run [wa, wb] with
  | none =>
    rw [hrun] at h2
    exact h2.elim
  | some w =>
    have hrun' := hrun
    rw [hr] at hrun'
    obtain ⟨i, j, e1, e2⟩ := on2I_inv hrun'
    injection e1 with e11 e12
    injection e12 with e12 _
    have e3 : W.fl (.bl (g i j)) = w := Option.some.inj e2
    rw [hrun, ← e3] at h2
    dsimp only at h2
    have hx : x.val = .int i := x1.int (ex.trans e11)
    have hy : y.val = .int j := x2.int (ey.trans e12)
    refine ⟨i, j, hx, hy, g i j, rfl, ?_⟩
    cases hg : g i j with
    | true =>
      rw [hg, if_pos rfl] at h2
      refine iteT (kd n σ as2 B2 H2 (y :: x :: T) _ x2.gd x2.sr ((Kn.bind h2).mono ?_ fun _ _ z => KX.trans x2 _ _ (KX.trans x1 _ _ z)))
      rintro ⟨wd, r3⟩ ed h3 as3 z B3 H3 x3 (ez : z.er = wd) (rfl : ers as3 = r3)
      obtain ⟨⟨w', r'⟩, e4, h4⟩ := Kn.of h3
      obtain ⟨w2, e5, e6⟩ := Option.map_eq_some_iff.mp e4
      injection e6 with e61 e62
      subst e61
      subst e62
      rw [hr'] at e5
      obtain ⟨i2, j2, e7, e8⟩ := on2I_inv e5
      injection e7 with e71 e72
      injection e72 with e72 _
      have e9 : W.fl (.bl (g' i2 j2)) = w2 := Option.some.inj e8
      have hz : z.val = .int j2 := x3.int (ez.trans e72)
      have hy2 : y.val = .int i2 := x2.int (ey.trans e71)
      refine ⟨i2, j2, hy2, hz, ?_⟩
      have xx := (x12.trans x3).dropT.dropT.dropT
      refine h4 as3 (.fl (.bl (g' i2 j2)) (.bl (g' i2 j2))) B3 H3 ((xx.add (v := .bl (g' i2 j2)) (d := .bl (g' i2 j2)) rfl).mono fun q hq => ?_) e9 rfl
      rw [List.append_assoc] at hq
      exact hq
    | false =>
      rw [hg, if_neg Bool.false_ne_true] at h2
      have h2' : ∀ as3 z B3 H3, Nx c n σ (Ma ++ (Mb ++ Md)) as B as3 (z :: T) B3 H3 → z.er = .fl (.bl false) → ers as3 = ers as2 → Q z.val H3 := h2
      refine iteF (h2' as2 (.fl (.bl false) (.bl false)) B2 H2 ((x12.dropT.dropT.add (v := .bl false) (d := .bl false) rfl).mono fun q hq => ?_) rfl rfl)
      rcases List.mem_append.mp hq with z | z
      · exact List.mem_append_left _ z
      · exact List.mem_append_right _ (List.mem_append_left _ z)
/-! ### truth -/
/-- one operand -/
def O1Snd (c : Gx) (X : Cx) (Y : WX) (e : Expr) (M : List Nat) (sem : Sm Rv) : Prop :=
  ∃ t, PE X e t ∧ ∀ (n : En) (σ : St) (as : Sl) (B H : Hp) (T : List A) (Q : VK), G c n B H (live as ++ T) → SR σ as →
    Kn (sem (ers as)) (fun a => ∀ as1 (u : Ov) B1 H1, Nx c n σ M as B as1 (temps [u] ++ T) B1 H1 → u.rv = a.1 → ers as1 = a.2 → POk c B1 as1 [u] → Q u.v H1) (KX c n σ as B Y) → t σ H Q
theorem o1_t {e : Expr} {se : Sm W} (he : ESnd c X Y e M se) : O1Snd c X Y e M (fun r => (se r).bind fun (w, r1) => .ok (Rv.t w, r1)) := by
  obtain ⟨t, pe, _, ke⟩ := he
  refine ⟨t, pe, fun n σ as B H T Q g s hk => ke n σ as B H T Q g s (hk.bind.mono ?_ fun _ _ z => z)⟩
  rintro ⟨w, r1⟩ ea h as1 x B1 H1 x1 (ex : x.er = w) (rfl : ers as1 = r1)
  have h' : ∀ as2 (u : Ov) B2 H2, Nx c n σ M as B as2 (temps [u] ++ T) B2 H2 → u.rv = Rv.t w → ers as2 = ers as1 → POk c B2 as2 [u] → Q u.v H2 := h
  refine h' as1 (.t x) B1 H1 x1 (by rw [← ex]; rfl) rfl fun q v hm => ?_
  rcases List.mem_cons.mp hm with z | z <;> cases z
theorem o1_p {e : Expr} {se : Sm (Nat × List Nat)} (he : PSnd c X Y e M se) : O1Snd c X Y e M (fun r => (se r).bind fun (q, r1) => .ok (Rv.p q, r1)) := by
  obtain ⟨t, pe, ke⟩ := he
  refine ⟨t, pe, fun n σ as B H T Q g s hk => ke n σ as B H T Q g s (hk.bind.mono ?_ fun _ _ z => z)⟩
  rintro ⟨q0, r1⟩ ea h as1 v w B1 H1 x1 (rfl : ers as1 = r1) pa
  have h' : ∀ as2 (u : Ov) B2 H2, Nx c n σ M as B as2 (temps [u] ++ T) B2 H2 → u.rv = Rv.p q0 → ers as2 = ers as1 → POk c B2 as2 [u] → Q u.v H2 := h
  refine h' as1 (.p q0 v) B1 H1 x1 rfl rfl fun q v' hm w' e => ?_
  rcases List.mem_cons.mp hm with z | z
  · injection z with z1 z2
    subst z1
    subst z2
    have := pa.get
    dsimp only at this
    rw [this] at e
    rw [← Option.some.inj e]
    exact pa
  · cases z
/-- an operand, ready for use -/
theorem o1_ov {u : Ov} {w : W} (x1 : Nx c n σ M as B as1 (temps [u] ++ T) B1 H1) (po : POk c B1 as1 [u]) (hv : u.rv.val (ers as1) = some w) : ∃ B2, Nx c n σ M as B as1 T B2 H1 ∧ Same B1 B2 ∧ OV c B2 H1 w u.v := by
  obtain ⟨B2, x2, s2, r2⟩ := x1.freezeL
  have ov := ovs_of (us := [u]) (ws := [w]) rfl x2.gd (fun y hy => r2 y (mem_temps hy)) (po.mono s2) (by simp [hv])
  obtain ⟨v, e1, e2⟩ := ov.one
  injection e1 with e1 _
  rw [← e1] at e2
  exact ⟨B2, x2, s2, e2⟩
theorem truth_ok {w : W} {v : V} {b : Bool} (h : OV c B H w v) (e : w.truth = some b) : TruV c.K v H b := by
  cases w with
  | fl d => cases d with
    | bl x =>
      have e1 : x = b := Option.some.inj e
      have e2 : v = .bl x := h.1
      rw [e2, e1]
      exact rfl
    | int x =>
      have e1 : (x != 0) = b := Option.some.inj e
      have e2 : v = .int x := h.1
      rw [e2, ← e1]
      exact rfl
    | nd kd ds => cases kd with
      | lst =>
        have e1 : (!ds.isEmpty) = b := Option.some.inj e
        obtain ⟨a, us, r1, _, r2, r3⟩ := h.1
        have e2 : ds.isEmpty = us.isEmpty := by
          have := r3.len
          cases ds <;> cases us <;> first | rfl | (simp at this)
        rw [r1, ← e1, e2]
        exact .inl ⟨us, .inl (.inl r2), rfl⟩
      | _ => cases e
    | _ => cases e
  | nd kd cs => cases kd with
    | lst =>
      have e1 : (!cs.isEmpty) = b := Option.some.inj e
      have r := h.1
      rw [W.dat_nd] at r
      obtain ⟨a, us, r1, _, r2, r3⟩ := r
      have e2 : cs.isEmpty = us.isEmpty := by
        have := r3.len
        rw [List.length_map] at this
        cases cs <;> cases us <;> first | rfl | (simp at this)
      rw [r1, ← e1, e2]
      exact .inl ⟨us, .inl (.inl r2), rfl⟩
    | _ => cases e
theorem tsnd_tru {e : Expr} {se : Sm Rv} (hK : X.K = c.K) (he : O1Snd c X Y e M se) (ho : okT e = true) : TSnd c X Y e M (fun r => ((se r).bind fun (v, r1) => Res.of (((v.val r1).bind W.truth).map fun b => (.fl (.bl b), r1))).bind bool?) := by
  obtain ⟨t, pe, ke⟩ := he
  refine ⟨_, pt_truth pe (test_ok ho), fun n σ as B H T Q g s hk => ke n σ as B H T _ g s (hk.bind.bind.mono ?_ fun _ _ z => z)⟩
  rintro ⟨v, r1⟩ ea h as1 u B1 H1 x1 (eu : u.rv = v) (rfl : ers as1 = r1) po
  obtain ⟨⟨w', r'⟩, e4, h3⟩ := Kn.of h
  obtain ⟨b, e5, e6⟩ := Option.map_eq_some_iff.mp e4
  injection e6 with e61 e62
  subst e61
  subst e62
  obtain ⟨w, e7, e8⟩ := Option.bind_eq_some_iff.mp e5
  rw [← eu] at e7
  obtain ⟨B2, x2, s2, ov⟩ := o1_ov x1 po e7
  have h3' : ∀ as2 B2 H2, Nx c n σ M as B as2 T B2 H2 → ers as2 = ers as1 → Q b H2 := h3
  rw [hK]
  exact ⟨b, truth_ok ov e8, h3' as1 B2 H1 x2 rfl⟩
end
end Vx
end

section
set_option maxHeartbeats 4000000
/-! Vx 15: what is walked. -/
namespace Vx
open PySem L2
section
variable {c : Gx} {Γ : Den} {k : Ck} {X : Cx} {Y : WX} {n : En} {σ : St} {as as1 as2 : Sl} {B H B1 H1 B2 H2 : Hp} {T T1 T2 : List A} {M N : List Nat}
/-- a later state: what is known has grown, the slots P are as they were -/
def Lat (c : Gx) (P : List Nat) (as1 : Sl) (B1 : Hp) (as2 : Sl) (B2 H2 : Hp) : Prop := Same B1 B2 ∧ (∃ n T2, G c n B2 H2 (live as2 ++ T2)) ∧ ∀ i ∈ P, as2[i]? = as1[i]?
/-- J walks the items ws -/
def WkOk (c : Gx) (P : List Nat) (as1 : Sl) (B1 : Hp) (J : L2.It) (ws : List W) : Prop := ∃ (S : Hp → Prop) (Yd : Nat → Hp → V → Hp → Prop), Walk J ws.length S Yd ∧ (∀ as2 B2 H2, Lat c P as1 B1 as2 B2 H2 → S H2) ∧
  ∀ i w as2 B2 H2 x H3 n T2, ws[i]? = some w → Lat c P as1 B1 as2 B2 H2 → Yd i H2 x H3 → G c n B2 H2 (live as2 ++ T2) → ∃ B3 y, Same B2 B3 ∧ G c n B3 H3 (live as2 ++ y :: T2) ∧ y.val = x ∧ y.er = w
def ISnd (c : Gx) (X : Cx) (Y : WX) (tg e : Expr) (M P : List Nat) (sem : Sm (List W)) : Prop :=
  ∃ wi, PI X tg e wi ∧ ∀ (n : En) (σ : St) (as : Sl) (B H : Hp) (T : List A) (R : L2.It → Hp → Prop), G c n B H (live as ++ T) → SR σ as →
    Kn (sem (ers as)) (fun a => ∀ as1 B1 H1 J, Nx c n σ M as B as1 T B1 H1 → ers as1 = a.2 → WkOk c P as1 B1 J a.1 → R J H1) (KX c n σ as B Y) → wi σ H R
/-- the slot of a borrowed operand -/
def Rv.root : Rv → List Nat
  | .t _ => []
  | .p q => [q.1]
/-- a container of known things stays -/
theorem cont_ok {u : Ov} {w : W} {kd : Kd} {ds : List D} {P : List Nat} (x1 : Nx c n σ M as B as1 (temps [u] ++ T) B1 H1) (po : POk c B1 as1 [u]) (hv : u.rv.val (ers as1) = some w) (hs : w.shal = some (kd, ds)) (hP : ∀ i ∈ u.rv.root, i ∈ P)
    (hkd : kd = .lst ∨ kd = .tup) : ∃ B2 a us, Nx c n σ M as B as1 T B2 H1 ∧ Same B1 B2 ∧ u.v = .ref a ∧ RepDs c B2 ds us ∧ ∀ as2 B3 H3, Lat c P as1 B2 as2 B3 H3 → H3 a = some (kd.ho c 0 us) := by
  obtain ⟨B2, x2, s2, ov⟩ := o1_ov x1 po hv
  obtain ⟨a, us, e1, _, e2, e3⟩ := ov.2.2 _ _ hs
  refine ⟨B2, a, us, x2, s2, e1, e3, fun as2 B3 H3 hl => ?_⟩
  have e2' : H1 a = some (kd.ho c 0 us) := by
    rcases hkd with rfl | rfl <;> exact e2
  obtain ⟨l1, ⟨n2, T2, g2⟩, l3⟩ := hl
  cases w with
  | fl d =>
    have r := ov.2.1 d rfl
    cases d with
    | nd kd' ds' =>
      have e4 : (some (kd', ds') : Option (Kd × List D)) = some (kd, ds) := hs
      injection e4 with e4
      injection e4 with e5 e6
      subst e5
      subst e6
      obtain ⟨a', us', r1, _, r2, r3⟩ := r
      have ea : a' = a := by
        have := r1.symm.trans e1
        injection this
      subst ea
      have b2 : B2 a' = some (kd'.ho c 0 us') := by
        rcases hkd with rfl | rfl <;> exact r2
      have h1 := x2.gd.sub _ _ b2
      rw [e2'] at h1
      have b3 := g2.sub _ _ (l1 _ _ b2)
      rw [b3, ← h1]
    | _ => cases hs
  | nd kd' cs =>
    -- an owned container in a slot
    cases u with
    | t x =>
      have e4 : W.fl x.er.dat = .nd kd' cs := Option.some.inj hv
      cases e4
    | p q v =>
      have hq : q.1 ∈ P := hP q.1 (List.mem_singleton.mpr rfl)
      have pa := po q v List.mem_cons_self _ hv
      obtain ⟨y, y1, y2⟩ := pa
      obtain ⟨a', dx, xs, s1, s2', s3⟩ := A.at_sub y2
      have hs' : (if cs.all W.isFl then some (kd', cs.map W.unfl) else none) = some (kd, ds) := hs
      split at hs'
      · injection hs' with hs'
        injection hs' with e5 e6
        subst e5
        have ea : a' = a := by
          have e7 : v = .ref a := e1
          have := s3.symm.trans e7
          injection this
        subst ea
        have h1 := (x1.gd.hold _ (mem_objsL (List.mem_append_left _ (live_mem y1)) (sub_objs (c := c) s1 (a', kd'.ho c dx (vals xs)) List.mem_cons_self))).1
        have y3 : as2[q.1]? = some (some y) := (l3 q.1 hq).trans y1
        have h3 := (g2.hold _ (mem_objsL (List.mem_append_left _ (live_mem y3)) (sub_objs (c := c) s1 (a', kd'.ho c dx (vals xs)) List.mem_cons_self))).1
        have h1' : H1 a' = some (kd'.ho c dx (vals xs)) := h1
        have h3' : H3 a' = some (kd'.ho c dx (vals xs)) := h3
        rw [h3', ← h1', e2']
      · cases hs'
/-- a locked dict stays -/
theorem lock_ok {u : Ov} {w : W} {ks : List Key} {m : Nat} {P : List Nat} (x1 : Nx c n σ M as B as1 (temps [u] ++ T) B1 H1) (po : POk c B1 as1 [u]) (hv : u.rv.val (ers as1) = some w) (hs : w.kids = some (.lK ks, m)) (hP : ∀ i ∈ u.rv.root, i ∈ P) :
    ∃ B2 a o us, Nx c n σ M as B as1 T B2 H1 ∧ Same B1 B2 ∧ u.v = .ref a ∧ us.length = m ∧ ∀ as2 B3 H3, Lat c P as1 B2 as2 B3 H3 → H3 a = some (.frz o (.dK (ks.zip us))) := by
  obtain ⟨B2, x2, s2, ov⟩ := o1_ov x1 po hv
  cases w with
  | fl d =>
    have r := ov.2.1 d rfl
    cases d with
    | nd kd' ds' =>
      have e4 : (some (kd', ds'.length) : Option (Kd × Nat)) = some (.lK ks, m) := hs
      injection e4 with e4
      injection e4 with e5 e6
      subst e5
      obtain ⟨a', us', r1, _, ⟨o, r2⟩, r3⟩ := r
      exact ⟨B2, a', o, us', x2, s2, r1, by rw [← r3.len]; exact e6, fun as2 B3 H3 ⟨l1, ⟨n2, T2, g2⟩, l3⟩ => g2.sub _ _ (l1 _ _ r2)⟩
    | _ => cases hs
  | nd kd' cs =>
    cases u with
    | t x =>
      have e4 : W.fl x.er.dat = .nd kd' cs := Option.some.inj hv
      cases e4
    | p q v =>
      have e4 : (some (kd', cs.length) : Option (Kd × Nat)) = some (.lK ks, m) := hs
      injection e4 with e4
      injection e4 with e5 e6
      subst e5
      have hq : q.1 ∈ P := hP q.1 (List.mem_singleton.mpr rfl)
      have pa := po q v List.mem_cons_self _ hv
      obtain ⟨y, y1, y2⟩ := pa
      obtain ⟨a', dx, xs, s1, s2', s3⟩ := A.at_sub y2
      refine ⟨B2, a', dx.od, vals xs, x2, s2, s3, by rw [← e6, ← s2', List.length_map, List.length_map], fun as2 B3 H3 ⟨l1, ⟨n2, T2, g2⟩, l3⟩ => ?_⟩
      have y3 : as2[q.1]? = some (some y) := (l3 q.1 hq).trans y1
      exact (g2.hold _ (mem_objsL (List.mem_append_left _ (live_mem y3)) (sub_objs (c := c) s1 (a', (Kd.lK ks).ho c dx (vals xs)) List.mem_cons_self))).1
theorem key_v (k : Key) : RepD c B (keyD k) (kV k) := by
  cases k with
  | inl i => exact rfl
  | inr i => exact rfl
theorem item_fl {ds : List D} {us : List V} {i : Nat} {w : W} {v : V} (r : RepDs c B ds us) (h1 : (ds.map W.fl)[i]? = some w) (h2 : us[i]? = some v) : ∃ d, w = .fl d ∧ RepD c B d v := by
  rw [List.getElem?_map] at h1
  cases e : ds[i]? with
  | none =>
    rw [e] at h1
    cases h1
  | some d =>
    rw [e] at h1
    exact ⟨d, (Option.some.inj h1).symm, RepDs.at r e h2⟩
theorem add_y {v : V} {d : D} (g : G c n B H (live as ++ T)) (r : RepD c B d v) : G c n B H (live as ++ A.fl v d :: T) := Gd.perm (Gd.add g r) (List.perm_middle (a := A.fl v d)).symm
theorem isnd_sq {tg e : Expr} {se : Sm Rv} {P : List Nat} (hK : X.K = c.K) (he : O1Snd c X Y e M se) (hP : ∀ r v r1, se r = .ok (v, r1) → ∀ i ∈ v.root, i ∈ P) :
    ISnd c X Y tg e M P (fun r => (se r).bind fun (v, r1) => Res.of (((v.val r1).bind W.lstD).map fun ds => (ds.map .fl, r1))) := by
  obtain ⟨t, pe, ke⟩ := he
  refine ⟨iList X.K t, pi_list pe, fun n σ as B H T R g s hk => ke n σ as B H T _ g s (hk.bind.mono ?_ fun _ _ z => z)⟩
  rintro ⟨v, r1⟩ ea h as1 u B1 H1 x1 (eu : u.rv = v) (rfl : ers as1 = r1) po
  obtain ⟨⟨ws, r'⟩, e4, h3⟩ := Kn.of h
  obtain ⟨ds, e5, e6⟩ := Option.map_eq_some_iff.mp e4
  injection e6 with e61 e62
  subst e61
  subst e62
  obtain ⟨w, e7, e8⟩ := Option.bind_eq_some_iff.mp e5
  have hp := hP _ _ _ ea
  rw [← eu] at e7 hp
  obtain ⟨B2, a, us, x2, s2, e9, rp, st⟩ := cont_ok x1 po e7 (lstD_inv e8) hp (.inl rfl)
  have l0 : Lat c P as1 B2 as1 B2 H1 := ⟨Same.refl _, ⟨n, T, x2.gd⟩, fun _ _ => rfl⟩
  have hl : (ds.map W.fl).length = us.length := by rw [List.length_map]; exact rp.len
  refine ⟨a, e9, ⟨us, .inl (.inl (st _ _ _ l0))⟩, h3 as1 B2 H1 (Itl X.K a) x2 rfl ⟨fun H => SqL X.K H a us, YAt us, by rw [hl]; exact walk_list, fun as2 B3 H3 l => .inl (.inl (st _ _ _ l)), ?_⟩⟩
  intro i w as2 B3 H3 x H4 n2 T2 hw l y g2
  obtain ⟨rfl, hy⟩ := y
  obtain ⟨d, ed, rd⟩ := item_fl rp hw hy
  exact ⟨B3, .fl x d, Same.refl _, add_y g2 (RepD.mono l.1 rd), rfl, ed.symm⟩
theorem isnd_ks {tg e : Expr} {se : Sm Rv} {P : List Nat} (he : O1Snd c X Y e M se) (hP : ∀ r v r1, se r = .ok (v, r1) → ∀ i ∈ v.root, i ∈ P) :
    ISnd c X Y tg e M P (fun r => (se r).bind fun (v, r1) => Res.of (((v.val r1).bind W.lockedK).map fun ds => (ds.map .fl, r1))) := by
  obtain ⟨t, pe, ke⟩ := he
  refine ⟨iKeys t, pi_keys pe, fun n σ as B H T R g s hk => ke n σ as B H T _ g s (hk.bind.mono ?_ fun _ _ z => z)⟩
  rintro ⟨v, r1⟩ ea h as1 u B1 H1 x1 (eu : u.rv = v) (rfl : ers as1 = r1) po
  obtain ⟨⟨ws, r'⟩, e4, h3⟩ := Kn.of h
  obtain ⟨ds, e5, e6⟩ := Option.map_eq_some_iff.mp e4
  injection e6 with e61 e62
  subst e61
  subst e62
  obtain ⟨w, e7, e8⟩ := Option.bind_eq_some_iff.mp e5
  have hp := hP _ _ _ ea
  rw [← eu] at e7 hp
  unfold W.lockedK at e8
  split at e8
  · rename_i ks m ek
    split at e8
    · rename_i hkm
      have e9 := Option.some.inj e8
      subst e9
      obtain ⟨B2, a, o, us, x2, s2, r1, r2, st⟩ := lock_ok x1 po e7 ek hp
      have l0 : Lat c P as1 B2 as1 B2 H1 := ⟨Same.refl _, ⟨n, T, x2.gd⟩, fun _ _ => rfl⟩
      have hz : (ks.zip us).length = ks.length := by rw [List.length_zip, r2, hkm, Nat.min_self]
      have hl : ((ks.map keyD).map W.fl).length = (ks.zip us).length := by rw [List.length_map, List.length_map, hz]
      refine ⟨a, o, r1, .inl ⟨ks.zip us, st _ _ _ l0, h3 as1 B2 H1 (Itk a o (ks.zip us)) x2 rfl ⟨fun H => H a = some (.frz o (.dK (ks.zip us))), fun i H x H' => H' = H ∧ ∃ k v, (ks.zip us)[i]? = some (k, v) ∧ x = kV k, by rw [hl]; exact walk_keys, fun as2 B3 H3 l => st _ _ _ l, ?_⟩⟩⟩
      intro i w as2 B3 H3 x H4 n2 T2 hw l y g2
      obtain ⟨rfl, kk, vv, hkv, rfl⟩ := y
      have e10 : (ks.map keyD)[i]? = some (keyD kk) := by
        have e11 : ks[i]? = some kk := by
          have := congrArg (Option.map Prod.fst) hkv
          rw [← List.getElem?_map, List.map_fst_zip (by omega)] at this
          exact this
        rw [List.getElem?_map, e11]
        rfl
      rw [List.getElem?_map, e10] at hw
      exact ⟨B3, .fl (kV kk) (keyD kk), Same.refl _, add_y g2 (key_v kk), rfl, Option.some.inj hw⟩
    · cases e8
  · cases e8
theorem isnd_tq {tg e : Expr} {se : Sm Rv} {P : List Nat} (hK : X.K = c.K) (he : O1Snd c X Y e M se) (hP : ∀ r v r1, se r = .ok (v, r1) → ∀ i ∈ v.root, i ∈ P) :
    ISnd c X Y tg e M P (fun r => (se r).bind fun (v, r1) => Res.of (((v.val r1).bind W.tupD).map fun ds => (ds.map .fl, r1))) := by
  obtain ⟨t, pe, ke⟩ := he
  refine ⟨iTup X.K t, pi_tup pe, fun n σ as B H T R g s hk => ke n σ as B H T _ g s (hk.bind.mono ?_ fun _ _ z => z)⟩
  rintro ⟨v, r1⟩ ea h as1 u B1 H1 x1 (eu : u.rv = v) (rfl : ers as1 = r1) po
  obtain ⟨⟨ws, r'⟩, e4, h3⟩ := Kn.of h
  obtain ⟨ds, e5, e6⟩ := Option.map_eq_some_iff.mp e4
  injection e6 with e61 e62
  subst e61
  subst e62
  obtain ⟨w, e7, e8⟩ := Option.bind_eq_some_iff.mp e5
  have hp := hP _ _ _ ea
  rw [← eu] at e7 hp
  obtain ⟨B2, a, us, x2, s2, e9, rp, st⟩ := cont_ok x1 po e7 (tupD_inv e8) hp (.inr rfl)
  have l0 : Lat c P as1 B2 as1 B2 H1 := ⟨Same.refl _, ⟨n, T, x2.gd⟩, fun _ _ => rfl⟩
  have hl : (ds.map W.fl).length = us.length := by rw [List.length_map]; exact rp.len
  refine ⟨a, e9, ⟨us, .inl (.inl (st _ _ _ l0))⟩, h3 as1 B2 H1 (Itt X.K a) x2 rfl ⟨fun H => SqT X.K H a us, YAt us, by rw [hl]; exact walk_tup, fun as2 B3 H3 l => .inl (.inl (st _ _ _ l)), ?_⟩⟩
  intro i w as2 B3 H3 x H4 n2 T2 hw l y g2
  obtain ⟨rfl, hy⟩ := y
  obtain ⟨d, ed, rd⟩ := item_fl rp hw hy
  exact ⟨B3, .fl x d, Same.refl _, add_y g2 (RepD.mono l.1 rd), rfl, ed.symm⟩
theorem range_wk {lo hi : Int} {P : List Nat} : WkOk c P as1 B1 (Itr lo (hi - lo).toNat) (rangeW lo hi) := by
  have hl : (rangeW lo hi).length = (hi - lo).toNat := by simp [rangeW]
  refine ⟨fun _ => True, YFn fun i => .int (lo + i), by rw [hl]; exact walk_range, fun _ _ _ _ => trivial, ?_⟩
  intro i w as2 B3 H3 x H4 n2 T2 hw l y g2
  obtain ⟨rfl, hy⟩ := y
  have hi' : i < (hi - lo).toNat := by
    rw [← hl]
    exact (List.getElem?_eq_some_iff.mp hw).1
  have e : (rangeW lo hi)[i]? = some (.fl (.int (lo + (i : Int)))) := by
    unfold rangeW
    rw [List.getElem?_map, List.getElem?_range hi']
    rfl
  rw [hw] at e
  have hy' : x = .int (lo + (i : Int)) := hy
  subst hy'
  exact ⟨B3, .fl (.int (lo + (i : Int))) (.int (lo + (i : Int))), Same.refl _, add_y (d := .int (lo + (i : Int))) g2 rfl, rfl, (Option.some.inj e).symm⟩
theorem within_b {i : Int} (h : within i = true) : -(2 ^ 62) ≤ i ∧ i < 2 ^ 62 := by
  have h' := of_decide_eq_true h
  omega
theorem isnd_r1 {tg e : Expr} {se : Sm W} {p pos : Pos} {P : List Nat} (x : XOk c k X) (hb : k.bi "range" = true) (ok : okE e = true) (he : ESnd c X Y e M se) :
    ISnd c X Y tg (.Call (.Name "range" p) [e] [] pos) M P (fun r => (se r).bind fun (w, r1) => match w with
      | .fl (.int n) => if within n then .ok (rangeW 0 n, r1) else .bad
      | _ => .bad) := by
  obtain ⟨t, pe, _, ke⟩ := he
  refine ⟨_, pi_range1 (x.gl hb) (x.free _ (by decide)) (pa_cons pe pa_nil (star_ok ok)) (star_ok ok), fun n σ as B H T R g s hk => ke n σ as B H T _ g s (hk.bind.mono ?_ fun _ _ z => z)⟩
  rintro ⟨w, r1⟩ ea h as1 y B1 H1 x1 (ey : y.er = w) (rfl : ers as1 = r1)
  match w, ey, h with
  | .fl (.int m), ey, h =>
    dsimp only at h
    by_cases hw : within m = true
    · rw [if_pos hw] at h
      have h' : ∀ as2 B2 H2 J, Nx c n σ M as B as2 T B2 H2 → ers as2 = ers as1 → WkOk c P as2 B2 J (rangeW 0 m) → R J H2 := h
      obtain ⟨b1, b2⟩ := within_b hw
      refine ⟨m, by rw [x1.int ey], b1, b2, h' as1 B1 H1 _ x1.dropT rfl ?_⟩
      have := range_wk (c := c) (as1 := as1) (B1 := B1) (lo := 0) (hi := m) (P := P)
      rw [Int.sub_zero] at this
      exact this
    · rw [if_neg hw] at h
      exact h.elim
theorem isnd_r2 {tg e d : Expr} {Md : List Nat} {se sd : Sm W} {p pos : Pos} {P : List Nat} (x : XOk c k X) (hb : k.bi "range" = true) (ok : okE e = true) (ok2 : okE d = true) (he : ESnd c X Y e M se) (hd : ESnd c X Y d Md sd) :
    ISnd c X Y tg (.Call (.Name "range" p) [e, d] [] pos) (M ++ Md) P (fun r => (se r).bind fun (x, r1) => (sd r1).bind fun (y, r2) => match x, y with
      | .fl (.int m), .fl (.int n) => if within m && within n then .ok (rangeW m n, r2) else .bad
      | _, _ => .bad) := by
  obtain ⟨t, pe, _, ke⟩ := he
  obtain ⟨td, pd, _, kd⟩ := hd
  refine ⟨_, pi_range2 (x.gl hb) (x.free _ (by decide)) (pa_cons pe (pa_cons pd pa_nil (star_ok ok2)) (star_ok ok)) (by rw [star_ok ok, star_ok ok2]; rfl) (by rw [star_ok ok2]; rfl), fun n σ as B H T R g s hk => ke n σ as B H T _ g s (hk.bind.mono ?_ fun _ _ z => z)⟩
  rintro ⟨w, r1⟩ ea h as1 y B1 H1 x1 (ey : y.er = w) (rfl : ers as1 = r1)
  refine kd n σ as1 B1 H1 (y :: T) _ x1.gd x1.sr ((Kn.bind h).mono ?_ fun _ _ z => KX.trans x1 _ _ z)
  rintro ⟨w2, r2⟩ eb h2 as2 z B2 H2 x2 (ez : z.er = w2) (rfl : ers as2 = r2)
  dsimp only at h2
  split at h2
  · rename_i m m2
    split at h2
    · rename_i hw
      obtain ⟨w1, w2'⟩ := Bool.and_eq_true_iff.mp hw
      have h' : ∀ as3 B3 H3 J, Nx c n σ (M ++ Md) as B as3 T B3 H3 → ers as3 = ers as2 → WkOk c P as3 B3 J (rangeW m m2) → R J H3 := h2
      obtain ⟨b1, b2⟩ := within_b w1
      obtain ⟨b3, b4⟩ := within_b w2'
      exact ⟨m, m2, by rw [x1.int ey, x2.int ez], ⟨b1, b2, b3, b4⟩, h' as2 B2 H2 _ (x1.trans x2).dropT.dropT rfl range_wk⟩
    · exact h2.elim
  · exact h2.elim
/-- a pair just laid -/
theorem pair_y {T : Addr} {x z : V} {d e : D} {T2 : List A} (g : G c n B H (live as ++ T2)) (hT : H T = none) (r1 : RepD c B d x) (r2 : RepD c B e z) : ∃ B3, Same B B3 ∧ G c n B3 (upd H T (.tup [x, z])) (live as ++ A.fl (.ref T) (.nd .tup [d, e]) :: T2) := by
  have g1 := add_y (T := T2) g r2
  have g2 := add_y (T := A.fl z e :: T2) g1 r1
  have g3 : G c n B H ([A.fl x d, A.fl z e] ++ (live as ++ T2)) := g2.perm (by
    refine List.perm_middle.trans (List.Perm.cons _ ?_)
    exact List.perm_middle)
  have g4 := Gd.alloc (k := .tup) g3 hT rfl trivial
  obtain ⟨B3, s3, g5⟩ := Gd.freeze g4
  refine ⟨B3, s3, Gd.perm g5 ?_⟩
  exact (List.perm_middle (a := A.fl (.ref T) (.nd .tup [d, e])) (l₁ := live as) (l₂ := T2)).symm
theorem zipW_len : ∀ (ds es : List D), (zipW ds es).length = min ds.length es.length
  | [], es => by simp [zipW]
  | d :: ds, [] => by simp [zipW]
  | d :: ds, e :: es => by
    show (zipW ds es).length + 1 = min (ds.length + 1) (es.length + 1)
    rw [zipW_len ds es]
    omega
theorem zipW_get : ∀ {ds es : List D} {i : Nat} {w : W}, (zipW ds es)[i]? = some w → ∃ d e, ds[i]? = some d ∧ es[i]? = some e ∧ w = .fl (.nd .tup [d, e])
  | [], es, i, w, h => by simp [zipW] at h
  | d :: ds, [], i, w, h => by simp [zipW] at h
  | d :: ds, e :: es, 0, w, h => ⟨d, e, rfl, rfl, (Option.some.inj h).symm⟩
  | d :: ds, e :: es, i + 1, w, h => by
    obtain ⟨d', e', h1, h2, h3⟩ := zipW_get (ds := ds) (es := es) (i := i) (w := w) (by simpa [zipW] using h)
    exact ⟨d', e', by simpa using h1, by simpa using h2, h3⟩
theorem enumW_get : ∀ {ds : List D} {n i : Nat} {w : W}, (enumW n ds)[i]? = some w → ∃ d, ds[i]? = some d ∧ w = .fl (.nd .tup [.int ((n + i : Nat) : Int), d])
  | [], n, i, w, h => by simp [enumW] at h
  | d :: ds, n, 0, w, h => ⟨d, rfl, (Option.some.inj h).symm⟩
  | d :: ds, n, i + 1, w, h => by
    obtain ⟨d', h1, h2⟩ := enumW_get (ds := ds) (n := n + 1) (i := i) (w := w) (by simpa [enumW] using h)
    exact ⟨d', by simpa using h1, by rw [h2, show n + 1 + i = n + (i + 1) by omega]⟩
theorem enumW_len : ∀ (ds : List D) (n : Nat), (enumW n ds).length = ds.length
  | [], n => rfl
  | d :: ds, n => by
    show (enumW (n + 1) ds).length + 1 = ds.length + 1
    rw [enumW_len ds]
theorem isnd_en {elts : List Expr} {kk : Nat} {tpos : Pos} {e : Expr} {se : Sm Rv} {p pos : Pos} {P : List Nat} (x : XOk c k X) (hb : k.bi "enumerate" = true) (ok : okE e = true) (he : O1Snd c X Y e M se) (hP : ∀ r v r1, se r = .ok (v, r1) → ∀ i ∈ v.root, i ∈ P) :
    ISnd c X Y (.Tuple elts kk tpos) (.Call (.Name "enumerate" p) [e] [] pos) M P (fun r => (se r).bind fun (v, r1) => Res.of (((v.val r1).bind W.lstD).map fun ds => (enumW 0 ds, r1))) := by
  obtain ⟨t, pe, ke⟩ := he
  refine ⟨_, pi_enum (x.gl hb) (x.free _ (by decide)) (pa_cons pe pa_nil (star_ok ok)) (star_ok ok), fun n σ as B H T R g s hk => ke n σ as B H T _ g s (hk.bind.mono ?_ fun _ _ z => z)⟩
  rintro ⟨v, r1⟩ ea h as1 u B1 H1 x1 (eu : u.rv = v) (rfl : ers as1 = r1) po
  obtain ⟨⟨ws, r'⟩, e4, h3⟩ := Kn.of h
  obtain ⟨ds, e5, e6⟩ := Option.map_eq_some_iff.mp e4
  injection e6 with e61 e62
  subst e61
  subst e62
  obtain ⟨w, e7, e8⟩ := Option.bind_eq_some_iff.mp e5
  have hp := hP _ _ _ ea
  rw [← eu] at e7 hp
  obtain ⟨B2, a, us, x2, s2, e9, rp, st⟩ := cont_ok x1 po e7 (lstD_inv e8) hp (.inl rfl)
  have l0 : Lat c P as1 B2 as1 B2 H1 := ⟨Same.refl _, ⟨n, T, x2.gd⟩, fun _ _ => rfl⟩
  have hl : (enumW 0 ds).length = us.length := by rw [enumW_len]; exact rp.len
  refine ⟨a, us, by rw [e9], .inl (.inl (st _ _ _ l0)), h3 as1 B2 H1 (Ite X.K a) x2 rfl ⟨fun H => SqL X.K H a us, _, by rw [hl]; exact walk_enum, fun as2 B3 H3 l => .inl (.inl (st _ _ _ l)), ?_⟩⟩
  intro i w as2 B3 H3 x H4 n2 T2 hw l y g2
  obtain ⟨Ta, q1, q2, h1, h2, h4, h5, h6⟩ := y
  obtain ⟨d, d1, d2⟩ := enumW_get hw
  have rd := RepDs.at rp d1 h6
  have e10 : q1 = .int ((i : Nat) : Int) := (Option.some.inj h5).symm
  subst e10
  obtain ⟨B4, s4, g4⟩ := pair_y (d := .int ((i : Nat) : Int)) (e := d) (x := .int ((i : Nat) : Int)) (z := q2) g2 h2 rfl (RepD.mono l.1 rd)
  rw [h4]
  exact ⟨B4, _, s4, g4, h1.symm, by rw [d2, Nat.zero_add]; rfl⟩
/-- two operands -/
def sem2 (se sd : Sm Rv) : Sm (List Rv) := fun r => (se r).bind fun (v, r1) => ((sd r1).bind fun (u, r2) => (Res.ok (([] : List Rv), r2)).bind fun (vs, r3) => Res.ok (u :: vs, r3)).bind fun (vs, r2) => Res.ok (v :: vs, r2)
theorem isnd_zp {elts : List Expr} {kk : Nat} {tpos : Pos} {e d : Expr} {Md : List Nat} {se sd : Sm Rv} {p pos : Pos} {P : List Nat} (x : XOk c k X) (hb : k.bi "zip" = true) (ok : okE e = true) (ok2 : okE d = true) (hs : OLSnd c X Y [e, d] M (sem2 se sd))
    (hP : ∀ r v r1, se r = .ok (v, r1) → ∀ i ∈ v.root, i ∈ P) (hP2 : ∀ r v r1, sd r = .ok (v, r1) → ∀ i ∈ v.root, i ∈ P) :
    ISnd c X Y (.Tuple elts kk tpos) (.Call (.Name "zip" p) [e, d] [] pos) M P (fun r => (se r).bind fun (v, r1) => (sd r1).bind fun (u, r2) => match (v.val r2).bind W.lstD, (u.val r2).bind W.lstD with
      | some ds, some es => .ok (zipW ds es, r2)
      | _, _ => .bad) := by
  obtain ⟨ts, ps, ks⟩ := hs
  obtain ⟨t, u, e2, pe, pd⟩ := ps.two
  subst e2
  refine ⟨_, pi_zip (x.gl hb) (x.free _ (by decide)) (pa_cons pe (pa_cons pd pa_nil (star_ok ok2)) (star_ok ok)) (star_ok ok) (star_any (es := [d]) (by simp [ok2])), fun n σ as B H T R g s hk => ?_⟩
  have hk' : Kn (sem2 se sd (ers as)) (fun a => ∃ v u, a.1 = [v, u] ∧ (∀ i ∈ v.root, i ∈ P) ∧ (∀ i ∈ u.root, i ∈ P) ∧ Kn (match (v.val a.2).bind W.lstD, (u.val a.2).bind W.lstD with
      | some ds, some es => Res.ok (zipW ds es, a.2)
      | _, _ => .bad) (fun a => ∀ as1 B1 H1 J, Nx c n σ M as B as1 T B1 H1 → ers as1 = a.2 → WkOk c P as1 B1 J a.1 → R J H1) (KX c n σ as B Y)) (KX c n σ as B Y) := by
    dsimp only at hk
    unfold sem2
    cases e1 : se (ers as) with
    | bad =>
      rw [e1] at hk
      exact hk
    | ex cl p r =>
      rw [e1] at hk
      exact hk
    | ok a =>
      obtain ⟨v, r1⟩ := a
      rw [e1] at hk
      cases e2 : sd r1 with
      | bad =>
        dsimp only [Res.bind] at hk ⊢
        rw [e2] at hk ⊢
        exact hk
      | ex cl p r =>
        dsimp only [Res.bind] at hk ⊢
        rw [e2] at hk ⊢
        exact hk
      | ok b =>
        obtain ⟨u, r2⟩ := b
        dsimp only [Res.bind] at hk ⊢
        rw [e2] at hk ⊢
        exact ⟨v, u, rfl, hP _ _ _ e1, hP2 _ _ _ e2, hk⟩
  refine ks n σ as B H T _ g s (hk'.mono ?_ fun _ _ z => z)
  rintro ⟨vs, r1⟩ ea ⟨v, u', evs, p1, p2, h⟩ as1 us B1 H1 x1 (eus : us.map Ov.rv = vs) (rfl : ers as1 = r1) po
  dsimp only at evs
  subst evs
  match us, eus, x1, po with
  | [o1, o2], eus, x1, po =>
    injection eus with eu1 eus
    injection eus with eu2 _
    subst eu1
    subst eu2
    dsimp only at h
    split at h
    · rename_i ds es z1 z2
      have h' : ∀ as2 B2 H2 J, Nx c n σ M as B as2 T B2 H2 → ers as2 = ers as1 → WkOk c P as2 B2 J (zipW ds es) → R J H2 := h
      obtain ⟨w1, y1, y2⟩ := Option.bind_eq_some_iff.mp z1
      obtain ⟨w2, y3, y4⟩ := Option.bind_eq_some_iff.mp z2
      have po1 : POk c B1 as1 [o1] := fun q v hq => po q v (by
        rcases List.mem_cons.mp hq with z | z
        · rw [z]
          exact List.mem_cons_self
        · cases z)
      have po2 : POk c B1 as1 [o2] := fun q v hq => po q v (by
        rcases List.mem_cons.mp hq with z | z
        · rw [z]
          exact List.mem_cons_of_mem _ List.mem_cons_self
        · cases z)
      have x1' : Nx c n σ M as B as1 (temps [o1] ++ (temps [o2] ++ T)) B1 H1 := by
        cases o1 <;> cases o2 <;> exact x1
      obtain ⟨B2, a, us, x2, s2, e9, rp, st⟩ := cont_ok x1' po1 y1 (lstD_inv y2) p1 (.inl rfl)
      obtain ⟨B3, b, us2, x3, s3, e10, rp2, st2⟩ := cont_ok x2 (po2.mono s2) y3 (lstD_inv y4) p2 (.inl rfl)
      have st' : ∀ as2 B4 H3, Lat c P as1 B3 as2 B4 H3 → H3 a = some (.lst us) := fun as2 B4 H3 l => st as2 B4 H3 ⟨s3.trans l.1, l.2.1, l.2.2⟩
      have st2' : ∀ as2 B4 H3, Lat c P as1 B3 as2 B4 H3 → H3 b = some (.lst us2) := st2
      have l0 : Lat c P as1 B3 as1 B3 H1 := ⟨Same.refl _, ⟨n, T, x3.gd⟩, fun _ _ => rfl⟩
      have hl : (zipW ds es).length = min us.length us2.length := by rw [zipW_len, rp.len, rp2.len]
      refine ⟨a, b, us, us2, by (show [o1.v, o2.v] = _; rw [e9, e10]), .inl (.inl (st' _ _ _ l0)), .inl (.inl (st2' _ _ _ l0)), h' as1 B3 H1 (Itz X.K a b) x3 rfl ⟨fun H => SqL X.K H a us ∧ SqL X.K H b us2, _, walk_zip hl, fun as2 B4 H3 l => ⟨.inl (.inl (st' _ _ _ l)), .inl (.inl (st2' _ _ _ l))⟩, ?_⟩⟩
      intro i w as2 B4 H3 x H4 n2 T2 hw l y g2
      obtain ⟨Ta, q1, q2, h1, h2, h4, h5, h6⟩ := y
      obtain ⟨d, e, d1, d2, d3⟩ := zipW_get hw
      have rd := RepDs.at (RepDs.mono s3 rp) d1 h5
      have re := RepDs.at rp2 d2 h6
      obtain ⟨B5, s5, g5⟩ := pair_y g2 h2 (RepD.mono l.1 rd) (RepD.mono l.1 re)
      rw [h4]
      exact ⟨B5, _, s5, g5, h1.symm, d3.symm⟩
    · exact h.elim
end
end Vx
end

section
set_option maxHeartbeats 4000000
/-! Vx 16: targets, comprehensions. -/
namespace Vx
open PySem L2
section
variable {c : Gx} {Γ : Den} {k : Ck} {X : Cx} {Y : WX} {n : En} {σ : St} {as as1 as2 : Sl} {B H B1 H1 B2 H2 : Hp} {T T1 T2 : List A} {M N : List Nat}
/-! ### targets -/
mutual
def Tg.tg (K : PySem.W.Frag) : Tg → TG
  | .nm i => gName i
  | .tp ts => gTup K ts.length (Tg.tgs K ts)
def Tg.tgs (K : PySem.W.Frag) : List Tg → TGs
  | [] => gNil
  | t :: ts => gCons (t.tg K) (Tg.tgs K ts)
end
mutual
def Tg.slots : Tg → List Nat
  | .nm i => [i]
  | .tp ts => Tg.slotsL ts
def Tg.slotsL : List Tg → List Nat
  | [] => []
  | t :: ts => t.slots ++ Tg.slotsL ts
end
mutual
def Tg.chk (k : Ck) : Tg → Expr → Bool
  | .nm i, .Name x _ => decide (k.N[i]? = some x) && (decide (k.sc.names.lookup x = some .local) || (k.cel x && decide (k.sc.names.lookup x = some .cell)))
  | .tp ts, .Tuple es _ _ => decide (es.length = ts.length) && Tg.chks k ts es
  | _, _ => false
def Tg.chks (k : Ck) : List Tg → List Expr → Bool
  | [], [] => true
  | t :: ts, e :: es => t.chk k e && Tg.chks k ts es
  | _, _ => false
end
theorem assign_star : ∀ {es : List Expr} {env : PySem.Env}, (∀ e ∈ es, okE e = true) → (assignEach es env).length = es.length ∧ (assignEach es env).findIdx? (·.1) = none ∧ (∀ e r, es = e :: r → (assignEach (e :: r) env).map (·.2) = assign e env :: (assignEach r env).map (·.2))
  | [], _, _ => ⟨rfl, rfl, fun e r h => by cases h⟩
  | e :: es, env, h => by
    obtain ⟨h1, h2, _⟩ := assign_star (es := es) (env := env) fun x hx => h x (List.mem_cons_of_mem _ hx)
    have he := h e List.mem_cons_self
    have e1 : assignEach (e :: es) env = (false, assign e env) :: assignEach es env := by
      cases e <;> first | rfl | (cases he; done)
    refine ⟨by rw [e1]; simp [h1], by rw [e1]; simp [List.findIdx?_cons, h2], fun e' r q => ?_⟩
    injection q with q1 q2
    subst q1
    subst q2
    rw [e1]
    rfl
theorem chk_okE (k : Ck) : ∀ {t : Tg} {e : Expr}, t.chk k e = true → okE e = true
  | .nm i, e, h => by
    cases e <;> first | rfl | (exact absurd h Bool.false_ne_true)
  | .tp ts, e, h => by
    cases e <;> first | rfl | (exact absurd h Bool.false_ne_true)
theorem chks_okE (k : Ck) : ∀ {ts : List Tg} {es : List Expr}, Tg.chks k ts es = true → ∀ e ∈ es, okE e = true
  | [], [], _, e, he => by cases he
  | [], _ :: _, h, _, _ => by cases h
  | _ :: _, [], h, _, _ => by cases h
  | t :: ts, e' :: es, h, e, he => by
    obtain ⟨h1, h2⟩ := Bool.and_eq_true_iff.mp (show (t.chk k e' && Tg.chks k ts es) = true from h)
    rcases List.mem_cons.mp he with q | q
    · rw [q]
      exact chk_okE k h1
    · exact chks_okE k h2 e q
mutual
theorem tg_ok (x : XOk c k X) : ∀ {t : Tg} {e : Expr}, t.chk k e = true → PG X e (t.tg c.K)
  | .nm i, e, h => by
    cases e with
    | Name y pos =>
      obtain ⟨h1, h2⟩ := Bool.and_eq_true_iff.mp (show (decide (k.N[i]? = some y) && (decide (k.sc.names.lookup y = some .local) || (k.cel y && decide (k.sc.names.lookup y = some .cell)))) = true from h)
      rcases Bool.or_eq_true_iff.mp h2 with h2 | h2
      · have hl : X.env.scope.names.lookup y = some .local := by rw [x.sc]; exact of_decide_eq_true h2
        exact pg_name (by rw [x.hN]; exact x.nd) (by rw [x.hN]; exact of_decide_eq_true h1) (.inl hl) (.inr hl)
      · obtain ⟨h3, h4⟩ := Bool.and_eq_true_iff.mp h2
        exact pg_name (by rw [x.hN]; exact x.nd) (by rw [x.hN]; exact of_decide_eq_true h1) (.inr (by rw [x.sc]; exact of_decide_eq_true h4)) (.inl (x.cel y h3))
    | _ => exact absurd h Bool.false_ne_true
  | .tp ts, e, h => by
    cases e with
    | Tuple es kk pos =>
      obtain ⟨h1, h2⟩ := Bool.and_eq_true_iff.mp (show (decide (es.length = ts.length) && Tg.chks k ts es) = true from h)
      obtain ⟨a1, a2, _⟩ := assign_star (env := X.env) (chks_okE k h2)
      have := pg_tup (X := X) (pos := pos) (k := kk) x.calm (tgs_ok x h2) a1 a2
      rw [x.K, of_decide_eq_true h1] at this
      exact this
    | _ => exact absurd h Bool.false_ne_true
theorem tgs_ok (x : XOk c k X) : ∀ {ts : List Tg} {es : List Expr}, Tg.chks k ts es = true → PGs X es (Tg.tgs c.K ts)
  | [], [], _ => pgs_nil
  | [], _ :: _, h => by cases h
  | _ :: _, [], h => by cases h
  | t :: ts, e :: es, h => by
    obtain ⟨h1, h2⟩ := Bool.and_eq_true_iff.mp (show (t.chk k e && Tg.chks k ts es) = true from h)
    have ha : ∀ e' ∈ e :: es, okE e' = true := fun e' he => by
      rcases List.mem_cons.mp he with q | q
      · rw [q]
        exact chk_okE k h1
      · exact chks_okE k h2 e' q
    exact pgs_cons (tg_ok x h1) (tgs_ok x h2) ((assign_star (env := X.env) ha).2.2 e es rfl)
end
/-- behind a binding -/
structure Bd (σ σ2 : St) (as as2 : Sl) (P : List Nat) : Prop where
  len : σ2.length = σ.length
  sig : ∀ i, i ∉ P → σ2[i]? = σ[i]?
  slo : ∀ i, i ∉ P → as2[i]? = as[i]?
  sr : SR σ2 as2
/-- an owned container is let go, its children kept -/
theorem G.openN {a : Addr} {dx : Gh} {kd : Kd} {cs : List A} (g : G c n B H (live as ++ A.nd a dx kd cs :: T)) : G c n B H (live as ++ (cs ++ T)) := by
  have lfx := g.lf (.nd a dx kd cs) (List.mem_append_right _ List.mem_cons_self)
  have p0 : (objsL c (live as ++ A.nd a dx kd cs :: T)).Perm (((a, kd.ho c dx (vals cs)) :: kd.xtr a dx) ++ objsL c (live as ++ (cs ++ T))) := by
    rw [objsL_append, objsL_append, objsL_append]
    show (objsL c (live as) ++ (((a, kd.ho c dx (vals cs)) :: (kd.xtr a dx ++ objsL c cs)) ++ objsL c T)).Perm _
    simp only [List.cons_append, List.append_assoc]
    refine List.perm_middle.trans (List.Perm.cons _ ?_)
    have sw : ∀ u v w : List (Addr × HO), (u ++ (v ++ w)).Perm (v ++ (u ++ w)) := fun u v w => by
      rw [← List.append_assoc, ← List.append_assoc]
      exact List.Perm.append_right _ List.perm_append_comm
    exact sw _ _ _
  exact {
    b0 := g.b0
    sub := g.sub
    hold := fun q hq => g.hold q (p0.mem_iff.mpr (List.mem_append_right _ hq))
    nd := by
      have h := (p0.map Prod.fst).nodup_iff.mp g.nd
      rw [List.map_append] at h
      exact (List.nodup_append.mp h).2.1
    lf := fun z hz => by
      rcases List.mem_append.mp hz with hz | hz
      · exact g.lf z (List.mem_append_left _ hz)
      · rcases List.mem_append.mp hz with hz | hz
        · obtain ⟨j, hj, e⟩ := List.mem_iff_getElem.mp hz
          exact okL_get lfx.2 (by rw [List.getElem?_eq_getElem hj, e])
        · exact g.lf z (List.mem_append_right _ (List.mem_cons_of_mem _ hz))
    fr := g.fr
    nw := fun b hb => g.nw b (hb.imp id fun z => by
      refine ((p0.map Prod.fst).mem_iff).mpr ?_
      rw [List.map_append]
      exact List.mem_append_right _ z) }
theorem G.addL : ∀ {ds : List D} {us : List V}, RepDs c B ds us → G c n B H (live as ++ T) → G c n B H (live as ++ (flz ds us ++ T))
  | [], us, r, g => by
    have e : us = [] := r
    subst e
    exact g
  | d :: ds, us, ⟨v, vr, e, r1, r2⟩, g => by
    subst e
    exact add_y (G.addL r2 g) r1
theorem tup_open {y : A} {ws : List W} (g : G c n B H (live as ++ y :: T)) (h : y.er.parts = some ws) : ∃ a xs, y.val = .ref a ∧ H a = some (.tup (vals xs)) ∧ xs.map A.er = ws ∧ G c n B H (live as ++ (xs ++ T)) := by
  cases y with
  | fl v d =>
    have r : RepD c B d v := g.lf (.fl v d) (List.mem_append_right _ List.mem_cons_self)
    cases d with
    | nd kd ds =>
      cases kd with
      | tup =>
        have e4 : (some (ds.map W.fl)) = some ws := h
        obtain ⟨a, us, r1, _, r2, r3⟩ := r
        obtain ⟨f1, f2, f3⟩ := flz_facts r3
        refine ⟨a, flz ds us, r1, ?_, by rw [f2]; exact Option.some.inj e4, G.addL r3 (Gd.drop1 (x := A.fl v (.nd .tup ds)) (Gd.perm g List.perm_middle))⟩
        rw [f1]
        exact g.sub _ _ r2
      | _ => cases h
    | _ => cases h
  | nd a dx kd cs =>
    rw [A.er_nd] at h
    cases kd with
    | tup =>
      have e4 : (some (cs.map A.er)) = some ws := h
      exact ⟨a, cs, rfl, (g.hold (a, HO.tup (vals cs)) (mem_objsL (x := .nd a dx .tup cs) (List.mem_append_right _ List.mem_cons_self) List.mem_cons_self)).1, Option.some.inj e4, g.openN⟩
    | _ => cases h
mutual
theorem bind_ok : ∀ {t : Tg} {y : A} {T : List A} {σ : St} {as : Sl} {r2 : Env} {B : Hp} {Q : St → Hp → Prop}, SR σ as → G c n B H (live as ++ y :: T) → t.bind y.er (ers as) = some r2 →
    (∀ σ2 as2, G c n B H (live as2 ++ T) → ers as2 = r2 → Bd σ σ2 as as2 t.slots → Q σ2 H) → t.tg c.K y.val σ H Q
  | .nm i, y, T, σ, as, r2, B, Q, s, g, h, q => by
    have h' : (if i < (ers as).length then some ((ers as).set i (some y.er)) else none) = some r2 := h
    rw [ers_len] at h'
    split at h'
    · rename_i hi
      have e := Option.some.inj h'
      refine q (σ.set i (some y.val)) (as.set i (some y)) ((g.forget (i := i)).give hi) (by rw [ers_set, ← e]; rfl) ⟨by rw [List.length_set], fun j hj => ?_, fun j hj => ?_, s.put⟩
      · exact List.getElem?_set_ne fun z => hj (by rw [z]; exact List.mem_singleton.mpr rfl)
      · exact List.getElem?_set_ne fun z => hj (by rw [z]; exact List.mem_singleton.mpr rfl)
    · cases h'
  | .tp ts, y, T, σ, as, r2, B, Q, s, g, h, q => by
    have h' : (match y.er.parts with
      | some ds => Tg.binds ts ds (ers as)
      | none => none) = some r2 := h
    cases e : y.er.parts with
    | none =>
      rw [e] at h'
      cases h'
    | some ds =>
      rw [e] at h'
      obtain ⟨a, xs, e1, e2, e3, g2⟩ := tup_open g e
      have hl : ds.length = ts.length := binds_len h'
      refine ⟨a, vals xs, e1, .inl (.inl e2), by rw [← hl, ← e3]; simp, ?_⟩
      rw [← e3] at h'
      exact binds_ok s g2 h' q
theorem binds_len : ∀ {ts : List Tg} {ds : List W} {r r2 : Env}, Tg.binds ts ds r = some r2 → ds.length = ts.length
  | [], [], _, _, _ => rfl
  | [], _ :: _, _, _, h => by cases h
  | _ :: _, [], _, _, h => by cases h
  | t :: ts, d :: ds, r, r2, h => by
    have h' : (t.bind d r).bind (fun r1 => Tg.binds ts ds r1) = some r2 := h
    obtain ⟨r1, _, h2⟩ := Option.bind_eq_some_iff.mp h'
    show ds.length + 1 = ts.length + 1
    rw [binds_len h2]
theorem binds_ok : ∀ {ts : List Tg} {xs : List A} {T : List A} {σ : St} {as : Sl} {r2 : Env} {B : Hp} {Q : St → Hp → Prop}, SR σ as → G c n B H (live as ++ (xs ++ T)) → Tg.binds ts (xs.map A.er) (ers as) = some r2 →
    (∀ σ2 as2, G c n B H (live as2 ++ T) → ers as2 = r2 → Bd σ σ2 as as2 (Tg.slotsL ts) → Q σ2 H) → Tg.tgs c.K ts (vals xs) σ H Q
  | [], [], T, σ, as, r2, B, Q, s, g, h, q => by
    have e2 : ers as = r2 := Option.some.inj h
    exact ⟨rfl, q σ as g e2 ⟨rfl, fun _ _ => rfl, fun _ _ => rfl, s⟩⟩
  | [], _ :: _, _, _, _, _, _, _, _, _, h, _ => by cases h
  | _ :: _, [], _, _, _, _, _, _, _, _, h, _ => by cases h
  | t :: ts, x :: xs, T, σ, as, r2, B, Q, s, g, h, q => by
    have h' : (t.bind x.er (ers as)).bind (fun r1 => Tg.binds ts (xs.map A.er) r1) = some r2 := h
    obtain ⟨rr, h1, h2⟩ := Option.bind_eq_some_iff.mp h'
    refine ⟨x.val, vals xs, rfl, bind_ok (t := t) (y := x) (T := xs ++ T) s g h1 fun σ2 as2 g2 e2 b => ?_⟩
    rw [← e2] at h2
    refine binds_ok b.sr g2 h2 fun σ3 as3 g3 e3 b3 => q σ3 as3 g3 e3 ⟨b3.len.trans b.len, fun i hi => ?_, fun i hi => ?_, b3.sr⟩
    · exact (b3.sig i fun z => hi (List.mem_append_right _ z)).trans (b.sig i fun z => hi (List.mem_append_left _ z))
    · exact (b3.slo i fun z => hi (List.mem_append_right _ z)).trans (b.slo i fun z => hi (List.mem_append_left _ z))
end

/-! ### comprehensions -/
def wipeA (as : Sl) : List Nat → Sl
  | [] => as
  | v :: vs => (wipeA as vs).set v none
theorem ers_wipe (as : Sl) : ∀ vs : List Nat, ers (wipeA as vs) = wipeE (ers as) vs
  | [] => rfl
  | v :: vs => by
    show ers ((wipeA as vs).set v none) = (wipeE (ers as) vs).set v none
    rw [ers_set, ers_wipe as vs]
    rfl
theorem wipeA_len (as : Sl) : ∀ vs : List Nat, (wipeA as vs).length = as.length
  | [] => rfl
  | v :: vs => by
    show ((wipeA as vs).set v none).length = _
    rw [List.length_set, wipeA_len as vs]
theorem wipeA_some {i : Nat} {x : A} : ∀ {vs : List Nat}, (wipeA as vs)[i]? = some (some x) → as[i]? = some (some x) ∧ i ∉ vs
  | [], h => ⟨h, by simp⟩
  | v :: vs, h => by
    have h' : ((wipeA as vs).set v none)[i]? = some (some x) := h
    rw [List.getElem?_set] at h'
    split at h'
    · split at h' <;> cases h'
    · rename_i hne
      obtain ⟨h1, h2⟩ := wipeA_some (vs := vs) h'
      exact ⟨h1, fun z => by
        rcases List.mem_cons.mp z with q | q
        · exact hne q.symm
        · exact h2 q⟩
theorem wipeA_out {i : Nat} : ∀ {vs : List Nat}, i ∉ vs → (wipeA as vs)[i]? = as[i]?
  | [], _ => rfl
  | v :: vs, h => by
    show ((wipeA as vs).set v none)[i]? = _
    rw [List.getElem?_set_ne fun z => h (by rw [z]; exact List.mem_cons_self)]
    exact wipeA_out fun z => h (List.mem_cons_of_mem _ z)
theorem SR.wipe (s : SR σ as) (vs : List Nat) : SR (L2.wipe σ vs) (wipeA as vs) := ⟨by rw [wipeA_len, wipe_length]; exact s.1, fun i x h => by
  obtain ⟨h1, h2⟩ := wipeA_some h
  rw [wipe_out h2]
  exact s.2 i x h1⟩
theorem G.wipe (g : G c n B H (live as ++ T)) : ∀ vs : List Nat, G c n B H (live (wipeA as vs) ++ T)
  | [] => g
  | v :: vs => (G.wipe g vs).forget
theorem wipe_in {σ : St} {i : Nat} : ∀ {vs : List Nat}, i ∈ vs → (L2.wipe σ vs)[i]? = if i < σ.length then some none else none
  | v :: vs, h => by
    show ((L2.wipe σ vs).set v none)[i]? = _
    rw [List.getElem?_set]
    by_cases e : v = i
    · subst e
      rw [if_pos rfl, wipe_length]
    · rw [if_neg e]
      rcases List.mem_cons.mp h with q | q
      · exact (e q.symm).elim
      · exact wipe_in q
theorem wipe_congr {σ σ2 : St} {vs : List Nat} (hl : σ2.length = σ.length) (h : ∀ i, i ∉ vs → σ2[i]? = σ[i]?) : L2.wipe σ2 vs = L2.wipe σ vs := by
  refine List.ext_getElem? fun i => ?_
  by_cases hi : i ∈ vs
  · rw [wipe_in hi, wipe_in hi, hl]
  · rw [wipe_out hi, wipe_out hi, h i hi]
/-- the context of a comprehension's block -/
def Blk (X : Cx) (scope : Scope) (X' : Cx) : Prop := ∃ (s : Shared) (H : Hp) (C : Addr) (cl : List (Str × Addr)) (fp : List Addr), X' = X.blk s H scope (compEnvC scope cl C X.env) fp
theorem blk_takes {X' : Cx} {scope : Scope} (h : Blk X scope X') : Takes X' (fun _ _ _ _ => False) := fun u s' hx => by
  obtain ⟨_, _, _, _, _, _, _, _, _, _, _, _, _, _, _, _, w⟩ := hx
  exact w.elim
theorem blk_xs {X' : Cx} {scope : Scope} (x : XS c Γ k X Y) (h : Blk X scope X') : XS c Γ { k with sc := relS scope k.sc, cel := fun y => scope.names.lookup y == some .cell } X' (fun _ _ _ _ => False) := by
  have tk := blk_takes h
  obtain ⟨s, H, C, cl, fp, rfl⟩ := h
  exact ⟨⟨x.ok.hN, x.ok.nd, (by show relabel scope X.env = relS scope k.sc; rw [← x.ok.sc]; rfl), x.ok.calm, x.ok.K, x.ok.room, x.ok.free, fun y h => h⟩, tk, x.fns, x.cons, x.clss, x.tups⟩
/-- one reading for all blocks -/
theorem uni_e {F : Cx → Prop} {e : Expr} {sem : Sm W} (h : ∀ X', F X' → ESnd c X' Y e M sem) : ∃ t, (∀ X', F X' → PE X' e t) ∧ ∀ (n : En) (σ : St) (as : Sl) (B H : Hp) (T : List A) (Q : VK), G c n B H (live as ++ T) → SR σ as →
    Kn (sem (ers as)) (fun a => ∀ as1 x B1 H1, Nx c n σ M as B as1 (x :: T) B1 H1 → x.er = a.1 → ers as1 = a.2 → Q x.val H1) (KX c n σ as B Y) → t σ H Q := by
  refine ⟨fun σ H Q => ∀ X' (hX : F X'), (h X' hX).choose σ H Q, fun X' hX => ⟨fun pins s σ H Q I q => (h X' hX).choose_spec.1.run pins s σ H Q I (q X' hX)⟩, fun n σ as B H T Q g s hk X' hX => (h X' hX).choose_spec.2.2 n σ as B H T Q g s hk⟩
theorem uni_t {F : Cx → Prop} {e : Expr} {sem : Sm Bool} (h : ∀ X', F X' → TSnd c X' Y e M sem) : ∃ t, (∀ X', F X' → PT X' e t) ∧ ∀ (n : En) (σ : St) (as : Sl) (B H : Hp) (T : List A) (Q : Bool → Hp → Prop), G c n B H (live as ++ T) → SR σ as →
    Kn (sem (ers as)) (fun a => ∀ as1 B1 H1, Nx c n σ M as B as1 T B1 H1 → ers as1 = a.2 → Q a.1 H1) (KX c n σ as B Y) → t σ H Q := by
  refine ⟨fun σ H Q => ∀ X' (hX : F X'), (h X' hX).choose σ H Q, fun X' hX => ⟨fun pins s σ H Q I q => (h X' hX).choose_spec.1.run pins s σ H Q I (q X' hX)⟩, fun n σ as B H T Q g s hk X' hX => (h X' hX).choose_spec.2 n σ as B H T Q g s hk⟩
/-- the tests of a comprehension -/
def ITst (c : Gx) (F : Cx → Prop) (ifs : List Expr) (M : List Nat) (sem : Sm Bool) : Prop := ∃ t, (∀ X', F X' → PTs X' ifs t) ∧ ∀ (n : En) (σ : St) (as : Sl) (B H : Hp) (T : List A) (Q : Bool → Hp → Prop), G c n B H (live as ++ T) → SR σ as →
    Kn (sem (ers as)) (fun a => ∀ as1 B1 H1, Nx c n σ M as B as1 T B1 H1 → ers as1 = a.2 → Q a.1 H1) (KX c n σ as B (fun _ _ _ _ => False)) → t σ H Q
theorem itst_nil {F : Cx → Prop} : ITst c F [] [] (fun r => .ok (true, r)) := ⟨tYes, fun _ _ => pts_nil, fun n σ as B H T Q g s hk => by
  have hk' : ∀ as1 B1 H1, Nx c n σ [] as B as1 T B1 H1 → ers as1 = ers as → Q true H1 := hk
  exact hk' as B H (Nx.refl g s) rfl⟩
theorem itst_one {F : Cx → Prop} {e : Expr} {sem : Sm Bool} (h : ∀ X', F X' → TSnd c X' (fun _ _ _ _ => False) e M sem) : ITst c F [e] M sem := by
  obtain ⟨t, h1, h2⟩ := uni_t h
  exact ⟨t, fun X' hX => pts_one (h1 X' hX), h2⟩
theorem Kn.noEx {α : Type} {x : Res α} {ko : α → Prop} {kx kx' : Nat → Env → Prop} (h : Kn x.noEx ko kx) : Kn x ko kx' := by
  cases x with
  | ok a => exact h
  | ex c p r => exact (show False from h).elim
  | bad => exact h
/-- what a comprehension's text computes -/
def LcK (c : Gx) (X : Cx) (Y : WX) (t : TE) (M : List Nat) (sem : Sm W) : Prop := ∀ (n : En) (σ : St) (as : Sl) (B H : Hp) (T : List A) (Q : VK), G c n B H (live as ++ T) → SR σ as →
  Kn (sem (ers as)) (fun a => ∀ as1 x B1 H1, Nx c n σ M as B as1 (x :: T) B1 H1 → x.er = a.1 → ers as1 = a.2 → Q x.val H1) (KX c n σ as B Y) → t σ H Q
theorem snd_lc0 (x : XS c Γ k X Y) {elt tg iter : Expr} {ifs : List Expr} {scope : Scope} {own : List (Str × Nat)} {t : Tg} {Mi P Mt Me : List Nat} {si : Sm (List W)} {st : Sm Bool} {se : Sm W}
    (hb : blkC k.N k.sc scope own = true) (ht : t.chk { k with sc := relS scope k.sc, cel := fun y => scope.names.lookup y == some .cell } tg = true) (hsl : ∀ i ∈ t.slots, i ∈ own.map (·.2)) (hi : ISnd c X Y tg iter Mi P si) (hit : ITst c (Blk X scope) ifs Mt st)
    (he : ∀ X', Blk X scope X' → ESnd c X' (fun _ _ _ _ => False) elt Me se) (hP : ∀ i ∈ P, i ∉ own.map (·.2) ∧ i ∉ Mt ∧ i ∉ Me) :
    ∃ wi tt te, PI X tg iter wi ∧ BlkOk X.N X.env.scope scope own ∧ (∀ X', Blk X scope X' → PG X' tg (t.tg c.K)) ∧ (∀ X', Blk X scope X' → PTs X' ifs tt) ∧ (∀ X', Blk X scope X' → PE X' elt te) ∧
    LcK c X Y (tLc wi (t.tg c.K) tt te (own.map (·.2))) (Mi ++ (own.map (·.2) ++ (Mt ++ Me))) (fun r => (si r).bind fun (ws, r1) =>
      (lcFold t.bind st se (own.map (·.2)) ws [] (wipeE r1 (own.map (·.2)))).bind fun (acc, r2) => .ok (.nd .lst acc, r2)) := by
  obtain ⟨wi, pi, ki⟩ := hi
  obtain ⟨tt, ptt, ktt⟩ := hit
  obtain ⟨te, pee, kee⟩ := uni_e he
  have bo : BlkOk X.N X.env.scope scope own := by
    rw [x.ok.hN, x.ok.sc]
    exact blkOk_by hb
  have pg : ∀ X', Blk X scope X' → PG X' tg (t.tg c.K) := fun X' hX => tg_ok (blk_xs x hX).ok ht
  refine ⟨wi, tt, te, pi, bo, pg, ptt, pee, fun n σ as B H T Q g s hk => ki n σ as B H T _ g s (hk.bind.mono ?_ fun _ _ z => z)⟩
  rintro ⟨ws, r1⟩ ea h as1 B1 H1 J x1 (rfl : ers as1 = r1) ⟨S, Yd, wk, wS, wY⟩ Da hD
  obtain ⟨vs, hvs⟩ : ∃ vs, vs = own.map (·.2) := ⟨_, rfl⟩
  rw [← hvs] at h hsl hP ⊢
  have x2 := Nx.alloc (xs := []) (kd := .lst) x1 hD rfl trivial
  -- the invariant
  refine lc_it wk (σ := σ) (Qd := fun H => Q (.ref Da) H) (fun i Hi => ∃ (ai : Sl) (acc : List A) (Bi : Hp), G c n Bi Hi (live ai ++ .nd Da 0 .lst acc :: T) ∧ SR (L2.wipe σ vs) ai ∧ Same B1 Bi ∧ (∀ j, j ∉ vs ++ (Mt ++ Me) → ai[j]? = as1[j]?) ∧
    Kn ((lcFold t.bind st se vs (ws.drop i) (acc.map A.er) (ers ai)).bind fun (acc, r2) => .ok (.nd .lst acc, r2)) (fun a => ∀ as3 y B3 H3, Nx c n σ (Mi ++ (vs ++ (Mt ++ Me))) as B as3 (y :: T) B3 H3 → y.er = a.1 → ers as3 = a.2 → Q y.val H3) (KX c n σ as B Y)) ?_ ?_ ?_ ?_
  · refine ⟨wipeA as1 vs, [], B1, G.wipe x2.gd vs, x1.sr.wipe vs, Same.refl _, fun j hj => wipeA_out fun z => hj (List.mem_append_left _ z), ?_⟩
    rw [ers_wipe, List.drop_zero]
    exact h
  · rintro i Hi _ ⟨ai, acc, Bi, gi, si', smi, fri, _⟩
    refine wS ai Bi Hi ⟨smi, ⟨n, _, gi⟩, fun j hj => fri j fun z => ?_⟩
    obtain ⟨p1, p2, p3⟩ := hP j hj
    rcases List.mem_append.mp z with z | z
    · exact p1 z
    · rcases List.mem_append.mp z with z | z
      · exact p2 z
      · exact p3 z
  · rintro i xv Hi Hi' hin ⟨ai, acc, Bi, gi, si', smi, fri, hki⟩ hy
    have lat : Lat c P as1 B1 ai Bi Hi := ⟨smi, ⟨n, _, gi⟩, fun j hj => fri j fun z => by
      obtain ⟨p1, p2, p3⟩ := hP j hj
      rcases List.mem_append.mp z with z | z
      · exact p1 z
      · rcases List.mem_append.mp z with z | z
        · exact p2 z
        · exact p3 z⟩
    obtain ⟨B3, y, s3, g3, ev, ew⟩ := wY i ws[i] ai Bi Hi xv Hi' n _ (List.getElem?_eq_getElem hin) lat hy gi
    rw [List.drop_eq_getElem_cons hin] at hki
    -- one turn of the fold
    have hki2 : Kn ((Res.of (t.bind ws[i] (ers ai))).bind fun r1 => (st r1).noEx.bind fun (b, r2) =>
        if b then (se r2).noEx.bind fun (x, r3) => if small (acc.map A.er).length then (lcFold t.bind st se vs (ws.drop (i + 1)) (acc.map A.er ++ [x]) (wipeE r3 vs)).bind fun (acc, r2) => .ok (W.nd .lst acc, r2) else .bad
        else (lcFold t.bind st se vs (ws.drop (i + 1)) (acc.map A.er) (wipeE r2 vs)).bind fun (acc, r2) => .ok (W.nd .lst acc, r2))
        (fun a => ∀ as3 y B3 H3, Nx c n σ (Mi ++ (vs ++ (Mt ++ Me))) as B as3 (y :: T) B3 H3 → y.er = a.1 → ers as3 = a.2 → Q y.val H3) (KX c n σ as B Y) := by
      have e0 : lcFold t.bind st se vs (ws[i] :: ws.drop (i + 1)) (acc.map A.er) (ers ai) = (Res.of (t.bind ws[i] (ers ai))).bind fun r1 => (st r1).noEx.bind fun (b, r2) =>
        if b then (se r2).noEx.bind fun (x, r3) => if small (acc.map A.er).length then lcFold t.bind st se vs (ws.drop (i + 1)) (acc.map A.er ++ [x]) (wipeE r3 vs) else .bad
        else lcFold t.bind st se vs (ws.drop (i + 1)) (acc.map A.er) (wipeE r2 vs) := rfl
      rw [e0] at hki
      clear e0
      cases q1 : t.bind ws[i] (ers ai) with
      | none =>
        rw [q1] at hki
        exact hki
      | some r1 =>
        rw [q1] at hki
        simp only [Res.of_some, Res.bind_ok] at hki ⊢
        cases q2 : (st r1).noEx with
        | bad =>
          rw [q2] at hki
          exact hki
        | ex cl p r =>
          rw [q2] at hki
          exact hki
        | ok b =>
          obtain ⟨b, r2⟩ := b
          rw [q2] at hki
          simp only [Res.bind_ok] at hki ⊢
          cases b with
          | false => exact hki
          | true =>
            simp only [if_true] at hki ⊢
            cases q3 : (se r2).noEx with
            | bad =>
              rw [q3] at hki
              exact hki
            | ex cl p r =>
              rw [q3] at hki
              exact hki
            | ok z =>
              obtain ⟨z, r3⟩ := z
              rw [q3] at hki
              simp only [Res.bind_ok] at hki ⊢
              split
              · rename_i hs
                rw [if_pos hs] at hki
                exact hki
              · rename_i hs
                rw [if_neg hs] at hki
                exact hki
    obtain ⟨rb, q1, hki3⟩ := Kn.of hki2.bind
    rw [← ev]
    rw [← ew] at q1
    refine bind_ok si' g3 q1 fun σ2 a2 g4 e4 bd => ?_
    have wcg : L2.wipe σ2 vs = L2.wipe σ vs := by
      have : L2.wipe σ2 vs = L2.wipe (L2.wipe σ vs) vs := wipe_congr bd.len fun j hj => bd.sig j fun z => hj (hsl j z)
      rw [this]
      exact wipe_congr (wipe_length σ vs) fun j hj => wipe_out hj
    refine ⟨wcg, ?_⟩
    subst e4
    refine ktt n σ2 a2 B3 Hi' _ _ g4 bd.sr (Kn.noEx (Kn.bind hki3) |>.mono ?_ fun _ _ z => z)
    rintro ⟨b, r2⟩ eb hb a3 B4 H4 x4 (rfl : ers a3 = r2)
    have frm : ∀ {a : Sl}, (∀ j, j ∉ vs ++ (Mt ++ Me) → a[j]? = a3[j]?) → ∀ j, j ∉ vs ++ (Mt ++ Me) → a[j]? = as1[j]? := fun ha j hj => by
      rw [ha j hj, x4.fr j fun z => hj (List.mem_append_right _ (List.mem_append_left _ z)), bd.slo j fun z => hj (List.mem_append_left _ (hsl j z)), fri j hj]
    cases b with
    | false =>
      refine iteF ⟨wipeA a3 vs, acc, B4, G.wipe x4.gd vs, by rw [← wcg]; exact x4.sr.wipe vs, (smi.trans s3).trans x4.sb, frm fun j hj => wipeA_out fun z => hj (List.mem_append_left _ z), ?_⟩
      rw [ers_wipe]
      exact hb
    | true =>
      refine iteT (kee n σ2 a3 B4 H4 _ _ x4.gd x4.sr (Kn.noEx (Kn.bind hb) |>.mono ?_ fun _ _ z => z))
      rintro ⟨we, r3⟩ ee he2 a4 z B5 H5 x5 (ez : z.er = we) (rfl : ers a4 = r3)
      dsimp only at he2
      by_cases hs : small (acc.map A.er).length = true
      · rw [if_pos hs] at he2
        have hDa : H5 Da = some (.lst (vals acc)) := (x5.gd.hold (Da, HO.lst (vals acc)) (mem_objsL (x := .nd Da 0 .lst acc) (List.mem_append_right _ (List.mem_cons_of_mem _ List.mem_cons_self)) List.mem_cons_self)).1
        refine ⟨vals acc, hDa, by rw [List.length_map] at hs ⊢; exact small_lt hs, wipeA a4 vs, acc ++ [z], B5, ?_, by rw [← wcg]; exact x5.sr.wipe vs, ((smi.trans s3).trans x4.sb).trans x5.sb, frm fun j hj => ?_, ?_⟩
        · refine G.wipe (as := a4) ?_ vs
          have g5 : G c n B5 H5 (live a4 ++ z :: .nd Da 0 .lst acc :: T) := x5.gd
          refine Gd.write (o := HO.lst (vals acc)) (R := objsL c acc ++ (z.objs c ++ objsL c (live a4 ++ T))) (X := []) g5 ?_ ?_ fun u hu => ?_
          · rw [List.append_nil, objsL_append, objsL_append]
            show (objsL c (live a4) ++ (z.objs c ++ (((Da, HO.lst (vals acc)) :: ([] ++ objsL c acc)) ++ objsL c T))).Perm _
            have sw : ∀ u v w : List (Addr × HO), (u ++ (v ++ w)).Perm (v ++ (u ++ w)) := fun u v w => by
              rw [← List.append_assoc, ← List.append_assoc]
              exact List.Perm.append_right _ List.perm_append_comm
            simp only [List.nil_append, List.cons_append]
            refine List.Perm.trans (List.Perm.append_left _ List.perm_middle) (List.perm_middle.trans (List.Perm.cons _ ?_))
            -- l ++ (z ++ (acc ++ T)) ~ acc ++ (z ++ (l ++ T))
            refine (List.Perm.append_left _ (sw _ _ _)).trans ((sw _ _ _).trans (List.Perm.append_left _ (sw _ _ _)))
          · rw [objsL_append]
            show (objsL c (live a4) ++ (((Da, HO.lst (vals (acc ++ [z]))) :: ([] ++ objsL c (acc ++ [z]))) ++ objsL c T)).Perm ((Da, HO.lst (vals acc ++ [z.val])) :: _)
            have ev2 : vals (acc ++ [z]) = vals acc ++ [z.val] := by simp
            rw [ev2, objsL_append, objsL_append]
            simp only [List.nil_append, List.cons_append]
            refine List.perm_middle.trans (List.Perm.cons _ ?_)
            show (objsL c (live a4) ++ ((objsL c acc ++ (z.objs c ++ [])) ++ objsL c T)).Perm _
            rw [List.append_nil, List.append_assoc]
            have sw : ∀ u v w : List (Addr × HO), (u ++ (v ++ w)).Perm (v ++ (u ++ w)) := fun u v w => by
              rw [← List.append_assoc, ← List.append_assoc]
              exact List.Perm.append_right _ List.perm_append_comm
            exact (sw _ _ _).trans (List.Perm.append_left _ (sw _ _ _))
          · rcases List.mem_append.mp hu with hu | hu
            · exact g5.lf u (List.mem_append_left _ hu)
            · rcases List.mem_cons.mp hu with e | hu
              · rw [e]
                have l1 := g5.lf (.nd Da 0 .lst acc) (List.mem_append_right _ (List.mem_cons_of_mem _ List.mem_cons_self))
                have l2 := g5.lf z (List.mem_append_right _ List.mem_cons_self)
                refine ⟨trivial, okL_iff.mpr fun q hq => ?_⟩
                rcases List.mem_append.mp hq with hq | hq
                · exact okL_iff.mp l1.2 q hq
                · rw [List.mem_singleton.mp hq]
                  exact l2
              · exact g5.lf u (List.mem_append_right _ (List.mem_cons_of_mem _ (List.mem_cons_of_mem _ hu)))
        · rw [wipeA_out fun z => hj (List.mem_append_left _ z)]
          exact x5.fr j fun z => hj (List.mem_append_right _ (List.mem_append_right _ z))
        · rw [ers_wipe, List.map_append]
          show Kn ((lcFold t.bind st se vs (ws.drop (i + 1)) (acc.map A.er ++ [z.er]) _).bind _) _ _
          rw [ez]
          exact he2
      · rw [if_neg hs] at he2
        exact he2.elim
  · rintro Hn ⟨ai, acc, Bi, gi, si', smi, fri, hki⟩
    rw [List.drop_length] at hki
    have hki' : ∀ as3 y B3 H3, Nx c n σ (Mi ++ (vs ++ (Mt ++ Me))) as B as3 (y :: T) B3 H3 → y.er = .nd .lst (acc.map A.er) → ers as3 = ers ai → Q y.val H3 := hki
    refine hki' ai (.nd Da 0 .lst acc) Bi Hn ⟨x1.sb.trans smi, gi, ⟨by rw [si'.1, wipe_length], fun j z hz => (wipe_some (si'.2 j z hz)).1⟩, fun j hj => ?_⟩ (A.er_nd _ _ _ _) rfl
    rw [fri j fun z => hj (List.mem_append_right _ z)]
    exact x1.fr j fun z => hj (List.mem_append_left _ z)
theorem snd_lc (x : XS c Γ k X Y) {elt tg iter : Expr} {ifs : List Expr} {scope : Scope} {own : List (Str × Nat)} {pos : Pos} {t : Tg} {Mi P Mt Me : List Nat} {si : Sm (List W)} {st : Sm Bool} {se : Sm W}
    (hb : blkC k.N k.sc scope own = true) (ht : t.chk { k with sc := relS scope k.sc, cel := fun y => scope.names.lookup y == some .cell } tg = true) (hsl : ∀ i ∈ t.slots, i ∈ own.map (·.2)) (hi : ISnd c X Y tg iter Mi P si) (hit : ITst c (Blk X scope) ifs Mt st)
    (he : ∀ X', Blk X scope X' → ESnd c X' (fun _ _ _ _ => False) elt Me se) (hP : ∀ i ∈ P, i ∉ own.map (·.2) ∧ i ∉ Mt ∧ i ∉ Me) (ok : okE iter = true) :
    ESnd c X Y (.ListComp elt [⟨tg, iter, ifs, 0⟩] scope pos) (Mi ++ (own.map (·.2) ++ (Mt ++ Me))) (fun r => (si r).bind fun (ws, r1) =>
      (lcFold t.bind st se (own.map (·.2)) ws [] (wipeE r1 (own.map (·.2)))).bind fun (acc, r2) => .ok (.nd .lst acc, r2)) := by
  obtain ⟨wi, tt, te, pi, bo, pg, ptt, pee, kk⟩ := snd_lc0 x hb ht hsl hi hit he hP
  have pe : PE X (.ListComp elt [⟨tg, iter, ifs, 0⟩] scope pos) (tLc wi (t.tg c.K) tt te (own.map (·.2))) := pe_lc x.ok.calm (by rw [x.ok.hN]; exact x.ok.nd) pi bo (fun s H C cl fp => pg _ ⟨s, H, C, cl, fp, rfl⟩) (fun s H C cl fp => ptt _ ⟨s, H, C, cl, fp, rfl⟩) (fun s H C cl fp => pee _ ⟨s, H, C, cl, fp, rfl⟩) (fold_ok ok)
  exact ⟨_, pe, plN pe rfl, kk⟩
end
end Vx
end

section
set_option maxHeartbeats 4000000
/-! sorted by a def, slices with two ends, walks over texts and over a tuple beside a text. -/
namespace Vx
open PySem L2
section
variable {c : Gx} {Γ : Den} {k : Ck} {X : Cx} {Y : WX} {n : En} {σ : L2.St} {as as1 as2 : Sl} {B H B1 H1 B2 H2 : Hp} {T T1 T2 : List A} {M N : List Nat}
/-- the keys of known items -/
theorem keys_ok {f : Nat} {R : List A} : ∀ {ds : List D} {us : List V} {ks : List Int} {B H : Hp} {fin : List Int → Hp → Prop}, ds.mapM (keyOf Γ f) = some ks → G c n B H R → RepDs c B ds us →
    (∀ B2 H2, Same B B2 → G c n B2 H2 R → fin ks H2) → rKeys (fun vs H Q E => spOf c [] [] (Γ f) 1 (vs ++ []) H Q E) us H fin
  | [], us, ks, B, H, fin, hm, g, r, hf => by
    have e : us = [] := r
    subst e
    have ek : ([] : List Int) = ks := Option.some.inj hm
    subst ek
    exact hf B H (Same.refl _) g
  | d :: ds, us, ks, B, H, fin, hm, g, r, hf => by
    obtain ⟨v, vr, e, r1, r2⟩ := r
    subst e
    rw [List.mapM_cons] at hm
    obtain ⟨k0, h1, hm⟩ := Option.bind_eq_some_iff.mp hm
    obtain ⟨kr, h2, hm⟩ := Option.bind_eq_some_iff.mp hm
    have hm := Option.some.inj hm
    subst hm
    have g0 : G c n B H ([A.fl v d] ++ R) := Gd.add g r1
    unfold rKeys
    refine ⟨B, [A.fl v d], rfl, rfl, Gd.enter g0, ?_⟩
    show (match Γ f [.fl d] with
      | .ok w us => _
      | .ex cl _ us => _
      | .bad => False : Prop)
    unfold keyOf at h1
    split at h1
    · rename_i k1 e1
      have h1 := Option.some.inj h1
      subst h1
      rw [e1]
      intro B2 H2 y ys sm gk ey eys _
      have e0 : ys = [] := by simpa using eys
      subst e0
      have g1 : G c n B2 H2 ([y] ++ R) := Gd.leave g0 gk
      have yv : y.val = .int k1 := by
        have rv := A.view (g1.lf y List.mem_cons_self) g1.sub fun p hp => (g1.hold p (by rw [objsL_append]; exact List.mem_append_left _ (List.mem_append_left _ hp))).1
        rw [ey] at rv
        exact rv
      refine ⟨k1, yv, keys_ok h2 (Gd.drop1 g1) (RepDs.mono sm r2) fun B3 H3 s3 g3 => hf B3 H3 (sm.trans s3) g3⟩
    · cases h1
theorem sortBy_reps : ∀ {ks : List Int} {ds : List D} {us : List V}, ks.length = ds.length → RepDs c B ds us → RepDs c B (sortBy ks ds) (sortBy ks us) := by
  intro ks ds us hl r
  have hlu := r.len
  have e1 : sortBy ks ds = (sortBy ks (ds.zip us)).map Prod.fst := by
    unfold sortBy
    rw [List.map_map]
    have e : ks.zip ds = (ks.zip (ds.zip us)).map fun p => (p.1, p.2.1) := by
      refine List.ext_getElem (by simp [hl, hlu]) fun i h1 h2 => by simp
    rw [e, ← List.map_mergeSort (r := fun p q : Int × D × V => decide (p.1 ≤ q.1)) (f := fun p : Int × D × V => (p.1, p.2.1)) (fun _ _ _ _ => rfl), List.map_map]
    rfl
  have e2 : sortBy ks us = (sortBy ks (ds.zip us)).map Prod.snd := by
    unfold sortBy
    rw [List.map_map]
    have e : ks.zip us = (ks.zip (ds.zip us)).map fun p => (p.1, p.2.2) := by
      refine List.ext_getElem (by simp [hl, hlu]) fun i h1 h2 => by simp
    rw [e, ← List.map_mergeSort (r := fun p q : Int × D × V => decide (p.1 ≤ q.1)) (f := fun p : Int × D × V => (p.1, p.2.2)) (fun _ _ _ _ => rfl), List.map_map]
    rfl
  rw [e1, e2]
  have hm : ∀ p ∈ sortBy ks (ds.zip us), RepD c B p.1 p.2 := by
    intro p hp
    unfold sortBy at hp
    obtain ⟨q, hq, e⟩ := List.mem_map.mp hp
    have hq' : q ∈ ks.zip (ds.zip us) := List.mem_mergeSort.mp hq
    have := (List.of_mem_zip hq').2
    rw [e] at this
    obtain ⟨i, hi, ei⟩ := List.mem_iff_getElem.mp this
    have i1 : i < ds.length := by simp at hi; omega
    have i2 : i < us.length := by omega
    have := RepDs.at r (List.getElem?_eq_getElem i1) (List.getElem?_eq_getElem i2)
    rw [← ei]
    simpa using this
  generalize sortBy ks (ds.zip us) = l at hm
  induction l with
  | nil => rfl
  | cons p l ih => exact ⟨p.2, _, rfl, hm p List.mem_cons_self, ih fun q hq => hm q (List.mem_cons_of_mem _ hq)⟩
theorem mapM_len {f : D → Option Int} : ∀ {ds : List D} {ks : List Int}, ds.mapM f = some ks → ks.length = ds.length
  | [], ks, h => by
    have e : ([] : List Int) = ks := Option.some.inj h
    rw [← e]
    rfl
  | d :: ds, ks, h => by
    rw [List.mapM_cons] at h
    obtain ⟨k0, _, h⟩ := Option.bind_eq_some_iff.mp h
    obtain ⟨kr, h2, h⟩ := Option.bind_eq_some_iff.mp h
    have h := Option.some.inj h
    rw [← h]
    simp [mapM_len h2]
theorem snd_srtK (x : XS c Γ k X Y) {f : Fn} (hf : f ∈ k.fns) {a : Expr} {so : Sm Rv} {p kp2 kpos pos : Pos} (ho : O1Snd c X Y a M so) (hs : k.bi "sorted" = true) (hb : k.bi f.name = true) (hd : (f.name == ("__debug__" : Str)) = false) (ok : okE a = true) (hio : f.io = []) (hro : f.ro = []) (hcl : f.cl = none) (har : f.ar = 1) :
    ESnd c X Y (.Call (.Name "sorted" p) [a] [⟨some "key", .Name f.name kp2, kpos⟩] pos) M (fun r => (so r).bind fun (v, r1) => Res.of (((v.val r1).bind W.lstD).bind fun ds => (ds.mapM (keyOf Γ f.id)).map fun ks => (newL (sortBy ks ds), r1))) := by
  obtain ⟨ad, fd, ps, lv, F, hl, room, hm, hk, hbi⟩ := x.fns f hf
  obtain ⟨t, pe, ke⟩ := ho
  unfold FAt at hm
  rw [hcl] at hm
  have Fn := F.raw hbi (.nil)
  rw [hio, hro, har] at Fn
  have pk : PK X [⟨some "key", .Name f.name kp2, kpos⟩] (tCons (tC (.ref ad)) tNil) := pk_cons (pe_glob (x.ok.gl hb) hm rfl hd) pk_nil
  have pc : PE X (.Call (.Name "sorted" p) [a] [⟨some "key", .Name f.name kp2, kpos⟩] pos) (tCKw (rSortF X.K ad _) (tCons t tNil) (tCons (tC (.ref ad)) tNil)) :=
    pe_callBK (cr_sortF room x.ok.calm Fn) (x.ok.gl hs) (x.ok.free _ (by decide)) (by decide +kernel) (pa_cons pe pa_nil (star_ok ok)) pk (by decide) (by decide) (by rw [star_ok ok]; rfl) (star_any (es := [a]) (by simp [ok])) (by rfl) (by rfl) (by rfl)
  refine ⟨_, pc, plN pc rfl, fun n σ as B H T Q g s hk => ke n σ as B H T _ g s (hk.bind.mono ?_ fun _ _ z => z)⟩
  rintro ⟨v, r1⟩ ea h as1 u B1 H1 x1 (eu : u.rv = v) (rfl : ers as1 = r1) po
  obtain ⟨⟨w', r'⟩, e4, h3⟩ := Kn.of h
  obtain ⟨ds, e5, e6⟩ := Option.bind_eq_some_iff.mp e4
  obtain ⟨ks, e7, e8⟩ := Option.map_eq_some_iff.mp e6
  injection e8 with e81 e82
  subst e81
  subst e82
  obtain ⟨w, e9, e10⟩ := Option.bind_eq_some_iff.mp e5
  rw [← eu] at e9
  obtain ⟨B2, x2, s2, ov⟩ := o1_ov x1 po e9
  obtain ⟨q, us, ev, hH, rp⟩ := ov.lst e10
  refine ⟨q, us, by rw [ev], rfl, .inl (.inl hH), keys_ok e7 x2.gd rp fun B3 H3 s3 g3 p hp => ?_⟩
  have x3 : Nx c n σ M as B as1 T B3 H3 := ⟨x2.sb.trans s3, g3, x2.sr, x2.fr⟩
  have r3 : RepDs c B3 (sortBy ks ds) (sortBy ks us) := sortBy_reps (mapM_len e7) (RepDs.mono s3 rp)
  exact newL_fin (w := newL (sortBy ks ds)) rfl (fin_of x3 fun y B4 H4 x4 e11 => h3 as1 y B4 H4 x4 e11 rfl) r3 hp
theorem snd_sl3 {a l h : Expr} {Ml Mh : List Nat} {so : Sm Rv} {sl sh : Sm W} {p2 pos : Pos} (hK : X.K = c.K) (ho : O1Snd c X Y a M so) (hl : ESnd c X Y l Ml sl) (hh : ESnd c X Y h Mh sh) (st : ∀ r q r1, so r = .ok (.p q, r1) → (q.2 = [] ∨ q.1 ∉ Ml ++ Mh) ∧ (eget r1 q).isSome = true) :
    ESnd c X Y (.Subscript a (.Slice (some l) (some h) none p2) pos) (M ++ (Ml ++ Mh)) (fun r => (so r).bind fun (v, r1) => (sl r1).bind fun (i, r2) => match i with
      | .fl (.int i) => (sh r2).bind fun (j, r3) => match j with
        | .fl (.int j) => Res.of (((v.val r3).bind fun w => slice? w (some i) (some j)).map fun w => (w.fzT, r3))
        | _ => .bad
      | _ => .bad) := by
  obtain ⟨t, pe, ke⟩ := ho
  obtain ⟨tl, pl, _, kl⟩ := hl
  obtain ⟨th, ph, _, kh⟩ := hh
  have slr : SlR X (rSl X.K) := SlR.or (SlR.or sl_list sl_tup) sl_str
  have pc : PE X (.Subscript a (.Slice (some l) (some h) none p2) pos) (tSl (rSl X.K) t (tPart tl) (tPart th)) := pe_slice slr pe (po_some pl) (po_some ph)
  refine ⟨_, pc, plN pc rfl, fun n σ as B H T Q g s hk => ke n σ as B H T _ g s (hk.bind.mono ?_ fun _ _ z => z)⟩
  rintro ⟨v, r1⟩ ea h1 as1 u B1 H1 x1 (eu : u.rv = v) (rfl : ers as1 = r1) po
  refine kl n σ as1 B1 H1 (temps [u] ++ T) _ x1.gd x1.sr (h1.bind.mono ?_ fun _ _ z => KX.trans x1 _ _ z)
  rintro ⟨i, r2⟩ eb h2 as2 y2 B2 H2 x2 (ey : y2.er = i) (rfl : ers as2 = r2)
  dsimp only at h2
  split at h2
  · rename_i i1
    refine ⟨i1, Nx.int x2 ey, ?_⟩
    refine kh n σ as2 B2 H2 (y2 :: (temps [u] ++ T)) _ x2.gd x2.sr (h2.bind.mono ?_ fun _ _ z => KX.trans (x1.trans x2) _ _ z)
    rintro ⟨j, r3⟩ ec h3 as3 y3 B3 H3 x3 (ey3 : y3.er = j) (rfl : ers as3 = r3)
    dsimp only at h3
    split at h3
    · rename_i j1
      refine ⟨j1, Nx.int x3 ey3, ?_⟩
      obtain ⟨⟨w', r'⟩, e4, h4⟩ := Kn.of h3
      obtain ⟨w, e5, e6⟩ := Option.map_eq_some_iff.mp e4
      injection e6 with e61 e62
      subst e61
      subst e62
      obtain ⟨w0, e7, e8⟩ := Option.bind_eq_some_iff.mp e5
      rw [← eu] at e7
      have x4 : Nx c n σ (M ++ (Ml ++ Mh)) as B as3 (temps [u] ++ T) B3 H3 := (x1.trans (x2.trans x3)).dropT.dropT
      have po3 : POk c B3 as3 [u] := fun q v0 hq w1 ew => by
        have hu : u = .p q v0 := (List.mem_singleton.mp hq).symm
        subst hu
        have pa := po q v0 List.mem_cons_self
        obtain ⟨s1, s2⟩ := st _ _ _ (show so (ers as) = .ok (.p q, ers as1) by rw [ea]; exact congrArg _ (by rw [← eu]; rfl))
        obtain ⟨w9, e9⟩ := Option.isSome_iff_exists.mp s2
        exact (pa w9 e9).stab (x2.trans x3) x1.sr s1 ew
      obtain ⟨B4, x5, s5, ov⟩ := o1_ov x4 po3 e7
      rw [hK]
      exact slice_rep e8 ov (fin_of x5 fun y B5 H5 x6 e11 => h4 as3 y B5 H5 x6 e11 rfl)
    · exact h3.elim
  · exact h2.elim
theorem rgV_reps (c : Gx) (B : Hp) (lo hi : Int) : RepDs c B (rangeD lo hi) (rgV lo hi) := by
  unfold rangeD rgV
  generalize (hi - lo).toNat = m
  generalize List.range m = l
  induction l with
  | nil => rfl
  | cons i l ih => exact ⟨_, _, rfl, rfl, ih⟩
/-- list(range(a, b)) -/
theorem snd_rng {a b : Expr} {Mb : List Nat} {sa sb : Sm W} {p p2 pos pos2 : Pos} (x : XOk c k X) (hl : k.bi "list" = true) (hr : k.bi "range" = true) (oka : okE a = true) (okb : okE b = true) (ha : ESnd c X Y a M sa) (hb : ESnd c X Y b Mb sb) :
    ESnd c X Y (.Call (.Name "list" p) [.Call (.Name "range" p2) [a, b] [] pos2] [] pos) (M ++ Mb) (fun r => (sa r).bind fun (x, r1) => (sb r1).bind fun (y, r2) => match x, y with
      | .fl (.int m), .fl (.int n) => if decide (-100000 ≤ m ∧ m ≤ 100000 ∧ -100000 ≤ n ∧ n ≤ 100000) then .ok (newL (rangeD m n), r2) else .bad
      | _, _ => .bad) := by
  obtain ⟨t, pe, _, ke⟩ := ha
  obtain ⟨u, pb, _, kb⟩ := hb
  have pc : PE X (.Call (.Name "list" p) [.Call (.Name "range" p2) [a, b] [] pos2] [] pos) (tLstRg (tRg2 t u)) := pe_listRg x.calm (x.gl hl) (x.free _ (by decide)) (prg_2 (x.gl hr) (x.free _ (by decide)) pe pb (star_ok oka) (star_ok okb) (star_any (es := [b]) (by simp [okb])))
  refine ⟨_, pc, plN pc rfl, fun n σ as B H T Q g s hk => ke n σ as B H T _ g s (hk.bind.mono ?_ fun _ _ z => z)⟩
  rintro ⟨w1, r1⟩ ea h1 as1 y1 B1 H1 x1 (ey : y1.er = w1) (rfl : ers as1 = r1)
  refine kb n σ as1 B1 H1 (y1 :: T) _ x1.gd x1.sr (h1.bind.mono ?_ fun _ _ z => KX.trans x1 _ _ z)
  rintro ⟨w2, r2⟩ eb h2 as2 y2 B2 H2 x2 (ey2 : y2.er = w2) (rfl : ers as2 = r2)
  dsimp only at h2
  split at h2
  · rename_i m' n'
    split at h2
    · rename_i hm
      obtain ⟨hm1, hm2, hm3, hm4⟩ := of_decide_eq_true hm
      have h2' : ∀ as3 y B3 H3, Nx c n σ (M ++ Mb) as B as3 (y :: T) B3 H3 → y.er = newL (rangeD m' n') → ers as3 = ers as2 → Q y.val H3 := h2
      have v1 : y1.val = .int m' := by
        have rv := Gd.view (show G c n B2 H2 (live as2 ++ (y2 :: y1 :: T)) from x2.gd) (x := y1) (List.mem_append_right _ (List.mem_cons_of_mem _ List.mem_cons_self))
        rw [ey] at rv
        exact rv
      refine ⟨m', n', v1, x2.int ey2, ?_, fun q hq => ?_⟩
      · exact ⟨by omega, by omega, by omega, by omega, by omega⟩
      · have x3 : Nx c n σ (M ++ Mb) as B as2 T B2 H2 := (x1.trans x2).drop2.dropT
        exact newL_fin (w := newL (rangeD m' n')) rfl (fin_of x3 fun y B4 H4 x4 e11 => h2' as2 y B4 H4 x4 e11 rfl) (rgV_reps c B2 m' n') hq
    · exact h2.elim
  · exact h2.elim
/-- a text, walked -/
theorem isnd_st {tg e : Expr} {se : Sm Rv} {P : List Nat} (he : O1Snd c X Y e M se) : ISnd c X Y tg e M P (fun r => (se r).bind fun (v, r1) => match v.val r1 with
    | some (.fl (.str z)) => .ok (signsW z, r1)
    | _ => .bad) := by
  obtain ⟨t, pe, ke⟩ := he
  refine ⟨iStr t, pi_str pe, fun n σ as B H T R g s hk => ke n σ as B H T _ g s (hk.bind.mono ?_ fun _ _ z => z)⟩
  rintro ⟨v, r1⟩ ea h as1 u B1 H1 x1 (eu : u.rv = v) (rfl : ers as1 = r1) po
  dsimp only at h
  split at h
  · rename_i z e7
    rw [← eu] at e7
    obtain ⟨B2, x2, s2, ov⟩ := o1_ov x1 po e7
    have h' : ∀ as2 B2 H2 J, Nx c n σ M as B as2 T B2 H2 → ers as2 = ers as1 → WkOk c P as2 B2 J (signsW z) → R J H2 := h
    have hl : (signsW z).length = z.cps.size := by simp [signsW]
    refine ⟨z, ov.str, h' as1 B2 H1 (Its z) x2 rfl ⟨fun _ => True, _, by rw [hl]; exact walk_str, fun _ _ _ _ => trivial, ?_⟩⟩
    intro i w as2 B3 H3 x H4 n2 T2 hw l y g2
    obtain ⟨rfl, cc, hc, rfl⟩ := y
    refine ⟨B3, .fl (.str ⟨#[cc]⟩) (.str ⟨#[cc]⟩), Same.refl _, add_y g2 rfl, rfl, ?_⟩
    unfold signsW at hw
    rw [List.getElem?_map] at hw
    have e : z.cps.toList[i]? = some cc := by simpa using hc
    rw [e] at hw
    exact Option.some.inj hw
  · exact h.elim
theorem walk_zipS {K : PySem.W.Frag} {a : Addr} {z : Str} {us : List V} {m : Nat} (hm : m = min us.length z.cps.size) : Walk (ItzS K a z) m (fun H => SqT K H a us) (YPair (fun i => us[i]?) (fun i => (z.cps[i]?).map fun cc => V.str ⟨#[cc]⟩)) := by
  subst hm
  refine ⟨fun i H hi q => ?_, fun H q => ⟨us, q, by omega, by omega, by omega⟩, fun i H v H' _ q y => ?_⟩
  · have h1 : i < us.length := by omega
    have h2 : i < z.cps.size := by omega
    exact ⟨us, us[i], z.cps[i], q, by simp [h1], by simp [h2]⟩
  · obtain ⟨T, x, cc, h1, h2, h3, h4, h5⟩ := y
    exact ⟨T, x, .str ⟨#[cc]⟩, h1, h2, h3, h4 us q, by dsimp only; rw [h5]; rfl⟩
/-- a tuple beside a text, walked -/
theorem isnd_zs {elts : List Expr} {kk : Nat} {tpos : Pos} {e d : Expr} {Md : List Nat} {se sd : Sm Rv} {p pos : Pos} {P : List Nat} (x : XOk c k X) (hb : k.bi "zip" = true) (ok : okE e = true) (ok2 : okE d = true) (he : O1Snd c X Y e M se) (hd : O1Snd c X Y d Md sd)
    (hP : ∀ r v r1, se r = .ok (v, r1) → ∀ i ∈ v.root, i ∈ P) (st : ∀ r q r1, se r = .ok (.p q, r1) → (q.2 = [] ∨ q.1 ∉ Md) ∧ (eget r1 q).isSome = true) :
    ISnd c X Y (.Tuple elts kk tpos) (.Call (.Name "zip" p) [e, d] [] pos) (M ++ Md) P (fun r => (se r).bind fun (v, r1) => (sd r1).bind fun (u, r2) => match (v.val r2).bind W.tupD, u.val r2 with
      | some ds, some (.fl (.str z)) => .ok (zipW ds (signsD z), r2)
      | _, _ => .bad) := by
  obtain ⟨t, pe, ke⟩ := he
  obtain ⟨td, pd, kd⟩ := hd
  refine ⟨_, pi_zipS (x.gl hb) (x.free _ (by decide)) (pa_cons pe (pa_cons pd pa_nil (star_ok ok2)) (star_ok ok)) (star_ok ok) (star_any (es := [d]) (by simp [ok2])), fun n σ as B H T R g s hk => ke n σ as B H T _ g s (hk.bind.mono ?_ fun _ _ z => z)⟩
  rintro ⟨v, r1⟩ ea h1 as1 u B1 H1 x1 (eu : u.rv = v) (rfl : ers as1 = r1) po
  refine kd n σ as1 B1 H1 (temps [u] ++ T) _ x1.gd x1.sr (h1.bind.mono ?_ fun _ _ z => KX.trans x1 _ _ z)
  rintro ⟨v2, r2⟩ eb h as2 u2 B2 H2 x2 (eu2 : u2.rv = v2) (rfl : ers as2 = r2) po2
  dsimp only at h
  split at h
  · rename_i ds z z1 z2
    have h' : ∀ as3 B3 H3 J, Nx c n σ (M ++ Md) as B as3 T B3 H3 → ers as3 = ers as2 → WkOk c P as3 B3 J (zipW ds (signsD z)) → R J H3 := h
    obtain ⟨w, y1, y2⟩ := Option.bind_eq_some_iff.mp z1
    have hp := hP _ _ _ ea
    rw [← eu] at y1 hp
    rw [← eu2] at z2
    obtain ⟨B3, x3, s3, ov⟩ := o1_ov x2 po2 z2
    have x4 : Nx c n σ (M ++ Md) as B as2 (temps [u] ++ T) B3 H2 := x1.trans x3
    have po4 : POk c B3 as2 [u] := fun q v0 hq w1 ew => by
      have hu : u = .p q v0 := (List.mem_singleton.mp hq).symm
      subst hu
      have pa := po q v0 List.mem_cons_self
      obtain ⟨s1, s2⟩ := st _ _ _ (show se (ers as) = .ok (.p q, ers as1) by rw [ea]; exact congrArg _ (by rw [← eu]; rfl))
      obtain ⟨w9, e9⟩ := Option.isSome_iff_exists.mp s2
      exact (pa w9 e9).stab x3 x1.sr s1 ew
    obtain ⟨B5, a, us, x5, s5, e9, rp, stt⟩ := cont_ok x4 po4 y1 (tupD_inv y2) hp (.inr rfl)
    have l0 : Lat c P as2 B5 as2 B5 H2 := ⟨Same.refl _, ⟨n, T, x5.gd⟩, fun _ _ => rfl⟩
    have hl : (zipW ds (signsD z)).length = min us.length z.cps.size := by rw [zipW_len, rp.len]; simp [signsD]
    refine ⟨a, z, us, by (show [u.v, u2.v] = _; rw [e9, ov.str]), .inl (.inl (stt _ _ _ l0)), h' as2 B5 H2 (ItzS X.K a z) x5 rfl ⟨fun H => SqT X.K H a us, _, walk_zipS hl, fun as3 B4 H3 l => .inl (.inl (stt _ _ _ l)), ?_⟩⟩
    intro i w as3 B4 H3 x H4 n2 T2 hw l y g2
    obtain ⟨Ta, q1, q2, h1, h2, h4, h5, h6⟩ := y
    obtain ⟨d1, e1, d2, d3, d4⟩ := zipW_get hw
    have rd := RepDs.at rp d2 h5
    have e3 : e1 = .str ⟨#[(z.cps[i]?).getD 0]⟩ ∧ q2 = .str ⟨#[(z.cps[i]?).getD 0]⟩ := by
      unfold signsD at d3
      rw [List.getElem?_map] at d3
      have h6 : (z.cps[i]?).map (fun cc => V.str ⟨#[cc]⟩) = some q2 := h6
      cases ez : z.cps[i]? with
      | none =>
        rw [ez] at h6
        cases h6
      | some cc =>
        have ez' : z.cps.toList[i]? = some cc := by simpa using ez
        rw [ez'] at d3
        rw [ez] at h6
        exact ⟨(Option.some.inj d3).symm, (Option.some.inj h6).symm⟩
    have re : RepD c B4 e1 q2 := by rw [e3.1, e3.2]; rfl
    obtain ⟨B6, s6, g6⟩ := pair_y g2 h2 (RepD.mono l.1 rd) re
    rw [h4]
    exact ⟨B6, _, s6, g6, h1.symm, d4.symm⟩
  · exact h.elim
end
end Vx
end

section
set_option maxHeartbeats 4000000
/-! Vx 16N: what is taken out of lists and dicts, d.get, keys of temporaries, what is locked for good. -/
namespace Vx
open PySem L2
theorem and2 {a b : Bool} (h : (a && b) = true) : a = true ∧ b = true := Bool.and_eq_true_iff.mp h
section
variable {c : Gx} {Γ : Den} {k : Ck} {X : Cx} {Y : WX} {n : En} {σ σ1 σ2 : St} {as as1 as2 : Sl} {B H B1 H1 B2 H2 : Hp} {T T1 T2 : List A} {M N Ws : List Nat}
theorem isl_ok {q : Nat × List Nat} {v : V} {w : W} (g : G c n B1 H1 (live as1 ++ T)) (pa : PAt c B1 as1 q v w) (h : isL (ers as1) q = true) : ∃ a xs, v = .ref a ∧ H1 a = some (.lst xs) := by
  unfold isL at h
  rw [pa.get] at h
  split at h
  · rename_i cs e
    have e := Option.some.inj e
    subst e
    obtain ⟨y, y1, y2⟩ := pa
    obtain ⟨a, dx, xs, z1, z2, z3⟩ := A.at_sub y2
    exact ⟨a, vals xs, z3, (g.hold (a, HO.lst (vals xs)) (mem_objsL (List.mem_append_left _ (live_mem y1)) (sub_objs z1 _ List.mem_cons_self))).1⟩
  · cases h
theorem write_core {q : Nat × List Nat} {v : V} {w : W} {f : List W → Option (List W)} {r4 : Env} {Ms : List A} (g : G c n B1 H1 (live as1 ++ (Ms ++ T))) (s1 : SR σ as1) (pa : PAt c B1 as1 q v w) (e : onL (ers as1) q f = some r4) :
    ∃ a xs cs', v = .ref a ∧ H1 a = some (.lst (vals xs)) ∧ w = .nd .lst (xs.map A.er) ∧ f (xs.map A.er) = some cs' ∧ small cs'.length = true ∧ ∀ xs' Xo, xs'.map A.er = cs' → (objsL c (xs ++ Ms)).Perm (objsL c xs' ++ Xo) → ((∀ z ∈ xs ++ Ms, z.ok c B1) → ∀ z ∈ xs', z.ok c B1) →
      ∃ as2, G c n B1 (upd H1 a (.lst (vals xs'))) (live as2 ++ T) ∧ SR σ as2 ∧ ers as2 = r4 ∧ ∀ i, i ≠ q.1 → as2[i]? = as1[i]? := by
  unfold onL at e
  rw [pa.get] at e
  split at e
  · rename_i cs ew
    have ew := Option.some.inj ew
    subst ew
    obtain ⟨y, y1, y2⟩ := pa
    obtain ⟨a, dx, xs, z1, z2, z3⟩ := A.at_sub y2
    have eg : (ers as1)[q.1]? = some (some y.er) := by
      rw [ers_get, y1]
      rfl
    rw [eg] at e
    dsimp only at e
    split at e
    · rename_i cs0 cs' _ hf
      split at e
      · rename_i hs
        obtain ⟨hs, _⟩ := and2 hs
        have e5 := Option.some.inj e
        refine ⟨a, xs, cs', z3, (g.hold (a, HO.lst (vals xs)) (mem_objsL (List.mem_append_left _ (live_mem y1)) (sub_objs z1 _ List.mem_cons_self))).1, by rw [z2], by rw [z2]; exact hf, hs, fun xs' Xo e1 hp hok => ?_⟩
        obtain ⟨R, p1, p2⟩ := A.put_at (c := c) z1
        have pv := (p2 (.nd a dx .lst xs') rfl).1
        refine ⟨as1.set q.1 (some (y.put q.2 (.nd a dx .lst xs'))), G.writeAt (k := .lst) (k' := .lst) g y1 z1 rfl trivial hp hok, s1.chg y1 pv, ?_, fun i hi => List.getElem?_set_ne (Ne.symm hi)⟩
        rw [← e5, ers_set]
        unfold W.setAt
        rw [eg]
        show (ers as1).set q.1 (some (y.put q.2 (.nd a dx .lst xs')).er) = _
        rw [A.er_put, A.er_nd, e1]
      · cases e
    · cases e
  · cases e
theorem map_era {α β : Type} (f : α → β) : ∀ (xs : List α) (j : Nat), (xs.map f).eraseIdx j = (xs.eraseIdx j).map f
  | [], _ => rfl
  | _ :: _, 0 => rfl
  | x :: xs, j + 1 => by
    show f x :: (xs.map f).eraseIdx j = f x :: (xs.eraseIdx j).map f
    rw [map_era f xs j]
theorem objs_erase {xs : List A} {j : Nat} {z : A} (h : xs[j]? = some z) : (objsL c (xs ++ [])).Perm (objsL c (xs.eraseIdx j) ++ z.objs c) := by
  rw [List.append_nil]
  induction xs generalizing j with
  | nil => simp at h
  | cons x xs ih =>
    cases j with
    | zero =>
      have e : x = z := by simpa using h
      subst e
      exact List.perm_append_comm
    | succ j =>
      have h' : xs[j]? = some z := by simpa using h
      show (x.objs c ++ objsL c xs).Perm ((x.objs c ++ objsL c (xs.eraseIdx j)) ++ z.objs c)
      rw [List.append_assoc]
      exact List.Perm.append_left _ (ih h')

/-! ### p.pop() -/
theorem objs_last {xs : List A} {z : A} (h : xs.getLast? = some z) : (objsL c xs).Perm (objsL c (xs.dropLast) ++ z.objs c) := by
  obtain ⟨ys, rfl⟩ : ∃ ys, xs = ys ++ [z] := by
    cases xs with
    | nil => cases h
    | cons x xs => exact ⟨(x :: xs).dropLast, by
        have e1 : (x :: xs).getLast? = some ((x :: xs).getLast (by simp)) := List.getLast?_eq_some_getLast _
        rw [e1] at h
        have e2 := Option.some.inj h
        rw [← e2]
        exact (List.dropLast_concat_getLast (by simp)).symm⟩
  rw [objsL_append, List.dropLast_concat]
  show (objsL c ys ++ (z.objs c ++ [])).Perm _
  rw [List.append_nil]
/-- an owned list at a place is given other items: trees taken out go on as temporaries -/
theorem take_core {q : Nat × List Nat} {v : V} {ks : Kd} {ws : List W} (g : G c n B1 H1 (live as1 ++ T)) (s1 : SR σ as1) (pa : PAt c B1 as1 q v (.nd ks ws)) :
    ∃ a dx xs, v = .ref a ∧ H1 a = some (ks.ho c dx (vals xs)) ∧ xs.map A.er = ws ∧ xs.length = ws.length ∧ ∀ xs' Ms k', (∀ a dx, ks.xtr a dx = k'.xtr a dx) → k'.fits xs'.length → (objsL c xs).Perm (objsL c xs' ++ objsL c Ms) → (∀ z ∈ xs', z ∈ xs) → (∀ z ∈ Ms, z ∈ xs) →
      ∃ as2, G c n B1 (upd H1 a (k'.ho c dx (vals xs'))) (live as2 ++ (Ms ++ T)) ∧ SR σ as2 ∧ ers as2 = W.setAt (ers as1) q.1 q.2 (.nd k' (xs'.map A.er)) ∧ ∀ i, i ≠ q.1 → as2[i]? = as1[i]? := by
  obtain ⟨y, y1, y2⟩ := pa
  obtain ⟨a, dx, xs, z1, z2, z3⟩ := A.at_sub y2
  have hH := (g.hold (a, ks.ho c dx (vals xs)) (mem_objsL (List.mem_append_left _ (live_mem y1)) (sub_objs z1 _ List.mem_cons_self))).1
  refine ⟨a, dx, xs, z3, hH, z2, by rw [← z2, List.length_map], fun xs' Ms k' hx hf hp m1 m2 => ?_⟩
  -- the slot's tree: a node whose items are taken out in part
  obtain ⟨R, p1, p2⟩ := A.put_at (c := c) z1
  obtain ⟨q1, q2⟩ := p2 (.nd a dx k' xs') rfl
  have hxo := g.lf y (List.mem_append_left _ ((live_get y1).mem_iff.mpr List.mem_cons_self))
  have hno := A.sub_ok hxo z1
  refine ⟨as1.set q.1 (some (y.put q.2 (.nd a dx k' xs'))), ?_, s1.chg y1 q1, ?_, fun i hi => List.getElem?_set_ne (Ne.symm hi)⟩
  · have sw : ∀ u v w : List (Addr × HO), (u ++ (v ++ w)).Perm (v ++ (u ++ w)) := fun u v w => by
      rw [← List.append_assoc, ← List.append_assoc]
      exact List.Perm.append_right _ List.perm_append_comm
    have perm1 : (objsL c (live as1 ++ T)).Perm ((a, ks.ho c dx (vals xs)) :: (ks.xtr a dx ++ (objsL c xs' ++ (objsL c Ms ++ (R ++ objsL c (live (as1.set q.1 none) ++ T))))) ++ []) := by
      rw [List.append_nil]
      refine (objsL_perm (c := c) (List.Perm.append_right T (live_get y1))).trans ?_
      show (y.objs c ++ objsL c (live (as1.set q.1 none) ++ T)).Perm _
      refine (List.Perm.append_right _ p1).trans ?_
      show (((a, ks.ho c dx (vals xs)) :: (ks.xtr a dx ++ objsL c xs)) ++ R ++ objsL c (live (as1.set q.1 none) ++ T)).Perm _
      simp only [List.cons_append, List.append_assoc]
      refine List.Perm.cons _ (List.Perm.append_left _ ?_)
      rw [← List.append_assoc (objsL c xs')]
      exact List.Perm.append_right _ hp
    have perm2 : (objsL c (live (as1.set q.1 (some (y.put q.2 (.nd a dx k' xs')))) ++ (Ms ++ T))).Perm ((a, k'.ho c dx (vals xs')) :: (ks.xtr a dx ++ (objsL c xs' ++ (objsL c Ms ++ (R ++ objsL c (live (as1.set q.1 none) ++ T)))))) := by
      refine (objsL_perm (c := c) (List.Perm.append_right (Ms ++ T) (live_set (x := y.put q.2 (.nd a dx k' xs')) (SR.lt y1)))).trans ?_
      show ((y.put q.2 (.nd a dx k' xs')).objs c ++ objsL c (live (as1.set q.1 none) ++ (Ms ++ T))).Perm _
      refine (List.Perm.append_right _ q2).trans ?_
      show (((a, k'.ho c dx (vals xs')) :: (k'.xtr a dx ++ objsL c xs')) ++ R ++ objsL c (live (as1.set q.1 none) ++ (Ms ++ T))).Perm _
      rw [← hx a dx, objsL_append, objsL_append, objsL_append]
      simp only [List.cons_append, List.append_assoc]
      refine List.Perm.cons _ (List.Perm.append_left _ (List.Perm.append_left _ ?_))
      exact ((List.Perm.append_left R (sw _ _ _)).trans (sw _ _ _))
    refine Gd.write g perm1 perm2 fun z hz => ?_
    rcases List.mem_append.mp hz with hz | hz
    · rcases List.mem_cons.mp ((live_set (SR.lt y1)).mem_iff.mp hz) with e | hz
      · rw [e]
        exact A.put_ok hxo ⟨hf, okL_iff.mpr fun z hz => okL_iff.mp hno.2 z (m1 z hz)⟩
      · exact g.lf z (List.mem_append_left _ ((live_get y1).mem_iff.mpr (List.mem_cons_of_mem _ hz)))
    · rcases List.mem_append.mp hz with hz | hz
      · exact okL_iff.mp hno.2 z (m2 z hz)
      · exact g.lf z (List.mem_append_right _ hz)
  · rw [ers_set]
    unfold W.setAt
    rw [ers_get, y1]
    show (ers as1).set q.1 (some (y.put q.2 (.nd a dx k' xs')).er) = (ers as1).set q.1 (some (y.er.put q.2 (.nd k' (xs'.map A.er))))
    rw [A.er_put, A.er_nd]
theorem onLx_at {r r2 : Env} {q : Nat × List Nat} {cs' : List W} (e : onLx r q cs' = some r2) : small cs'.length = true ∧ r2 = W.setAt r q.1 q.2 (.nd .lst cs') := by
  unfold onLx at e
  split at e
  · split at e
    · split at e
      · split at e
        · rename_i hs
          exact ⟨(and2 hs).1, (Option.some.inj e).symm⟩
        · cases e
      · cases e
    · cases e
  · cases e
theorem snd_popv {o : Expr} {Mp : List Nat} {sp : Sm (Nat × List Nat)} {root : Nat} {apos cpos : Pos} (hp : PSnd c X Y o Mp sp) (oo : okO o = true) (hl : (apos.endLine == cpos.line) = true) (hr : ∀ r q r1, sp r = .ok (q, r1) → q.1 = root) :
    ESnd c X Y (.Call (.Attribute o "pop" apos) [] [] cpos) (Mp ++ [root]) (fun r => (sp r).bind fun (q, r1) => match eget r1 q with
      | some (.nd .lst cs) => match cs.getLast? with
        | some w => Res.of ((onLx r1 q cs.dropLast).map fun r2 => (w, r2))
        | none => .bad
      | _ => .bad) := by
  obtain ⟨tp, pp, kp⟩ := hp
  have pc : PE X (.Call (.Attribute o "pop" apos) [] [] cpos) (tBM0 X.K "list" rPop tp) := pe_bm0 F.plainAttrs_list F.slot_list_pop F.type_list_pop (fun pins s σ H x xs v us Q I rx rv h => mt_pop pins s σ H x xs v us Q I rx rv h) pp (base_ok oo) hl
  refine ⟨_, pc, plN pc rfl, fun n σ as B H T Q g s hk => kp n σ as B H T _ g s (hk.bind.mono ?_ fun _ _ z => z)⟩
  rintro ⟨q, r1⟩ ea h as1 v w B1 H1 x1 (rfl : ers as1 = r1) pa
  have eg := pa.get
  dsimp only at eg h
  rw [eg] at h
  cases w with
  | fl d => exact h.elim
  | nd kd cs =>
    cases kd with
    | lst =>
      dsimp only at h
      cases el : cs.getLast? with
      | none =>
        rw [el] at h
        exact h.elim
      | some w =>
        rw [el] at h
        dsimp only at h
        obtain ⟨⟨w', r'⟩, q1, q2⟩ := Kn.of h
        obtain ⟨r2, q3, q4⟩ := Option.map_eq_some_iff.mp q1
        injection q4 with q4 q5
        subst q4
        subst q5
        obtain ⟨_, e2⟩ := onLx_at q3
        obtain ⟨a, dx, xs, rfl, hH, exs, ln, wr⟩ := take_core x1.gd x1.sr pa
        have hz : ∃ z, xs.getLast? = some z ∧ z.er = w := by
          rw [← exs, List.getLast?_map] at el
          exact Option.map_eq_some_iff.mp el
        obtain ⟨z, hz, ez⟩ := hz
        have hm : z ∈ xs := List.mem_of_getLast? hz
        obtain ⟨as2, g2, s2, e3, f2⟩ := wr xs.dropLast [z] .lst (fun _ _ => rfl) trivial (by
          have := objs_last (c := c) hz
          show (objsL c xs).Perm (objsL c xs.dropLast ++ (z.objs c ++ []))
          rw [List.append_nil]
          exact this) (fun y hy => List.dropLast_subset _ hy) (fun y hy => by
          rw [List.mem_singleton.mp hy]
          exact hm)
        refine ⟨.inl ⟨rfl, vals xs, .inl (.inl hH)⟩, a, vals xs, z.val, rfl, rfl, hH, ?_, ?_⟩
        · have e5 : (vals xs).getLast? = some z.val := by
            unfold vals
            rw [List.getLast?_map, hz]
            rfl
          rw [List.getLast?_eq_getElem?] at e5
          exact e5
        · have e6 : (vals xs).dropLast = vals xs.dropLast := by
            unfold vals
            exact List.map_dropLast.symm
          rw [e6]
          refine q2 as2 z B1 _ ⟨x1.sb, g2, s2, fun i hi => ?_⟩ ez ?_
          · rw [f2 i fun y => hi (List.mem_append_right _ (by rw [y, hr _ _ _ ea]; exact List.mem_cons_self))]
            exact x1.fr i fun y => hi (List.mem_append_left _ y)
          · rw [e3, e2, ← exs, List.map_dropLast]
    | _ => exact h.elim
/-! ### d.pop(k) -/
theorem drop_zip {α : Type} [DecidableEq α] {k : α} : ∀ {ks : List α} {us : List V} {j : Nat}, ks.Nodup → atZ ks k = some j → dropK (ks.zip us) k = (ks.eraseIdx j).zip (us.eraseIdx j)
  | [], _, _, _, h => by cases h
  | a :: ks, [], j, _, _ => by
    cases j <;> simp [dropK]
  | a :: ks, u :: us, j, nd, h => by
    obtain ⟨na, nd⟩ := List.nodup_cons.mp nd
    unfold atZ at h
    split at h
    · rename_i ha
      have hj := Option.some.inj h
      subst hj
      subst ha
      show (((a, u) :: ks.zip us).filter fun kv => decide (kv.1 ≠ a)) = ks.zip us
      rw [List.filter_cons, if_neg (by simp)]
      refine List.filter_eq_self.mpr fun p hp => decide_eq_true fun z => na ?_
      rw [← z]
      exact (List.of_mem_zip hp).1
    · rename_i ha
      obtain ⟨j', e, hj⟩ := Option.map_eq_some_iff.mp h
      subst hj
      have ih := drop_zip (us := us) nd e
      show (((a, u) :: ks.zip us).filter fun kv => decide (kv.1 ≠ k)) = (a, u) :: (ks.eraseIdx j').zip (us.eraseIdx j')
      rw [List.filter_cons, if_pos (decide_eq_true ha)]
      exact congrArg _ ih
theorem dropD_at {r r2 : Env} {q : Nat × List Nat} {k w : W} (e : dropD r q k = some (w, r2)) : ∃ ks cs x j, eget r q = some (.nd (.dK ks) cs) ∧ k.dat.key = some x ∧ atZ ks x = some j ∧ cs[j]? = some w ∧ ks.length = cs.length ∧ ks.Nodup ∧ r2 = W.setAt r q.1 q.2 (.nd (.dK (ks.eraseIdx j)) (cs.eraseIdx j)) := by
  unfold dropD at e
  split at e
  · rename_i ks cs eg
    split at e
    · rename_i x ex
      split at e
      · rename_i j ej
        split at e
        · rename_i w' ew
          split at e
          · rename_i hs
            obtain ⟨h1, h4⟩ := and2 hs
            obtain ⟨h1, h3⟩ := and2 h1
            obtain ⟨h1, h2⟩ := and2 h1
            have e := Option.some.inj e
            injection e with e1 e2
            subst e1
            exact ⟨ks, cs, x, j, eg, ex, ej, ew, of_decide_eq_true h2, of_decide_eq_true h3, e2.symm⟩
          · cases e
        · cases e
      · cases e
    · cases e
  · cases e
theorem snd_popk {o i : Expr} {Mp Mi : List Nat} {sp : Sm (Nat × List Nat)} {si : Sm W} {root : Nat} {apos cpos : Pos} (hp : PSnd c X Y o Mp sp) (hi : ESnd c X Y i Mi si) (m : M1 X o "pop" apos i cpos)
    (st : ∀ r q r1, sp r = .ok (q, r1) → q.2 = [] ∨ q.1 ∉ Mi) (hr : ∀ r q r1, sp r = .ok (q, r1) → q.1 = root) :
    ESnd c X Y (.Call (.Attribute o "pop" apos) [i] [] cpos) (Mp ++ (Mi ++ [root])) (fun r => (sp r).bind fun (q, r1) => if isDc r1 q then (si r1).bind fun (x, r2) => Res.of (dropD r2 q x) else .bad) := by
  obtain ⟨tp, pp, kp⟩ := hp
  obtain ⟨ti, pi, _, ki⟩ := hi
  have pc := pe_dpop1 pp pi m
  refine ⟨_, pc, plN pc rfl, fun n σ as B H T Q g s hk => kp n σ as B H T _ g s (hk.bind.mono ?_ fun _ _ z => z)⟩
  rintro ⟨q, r1⟩ ea h as1 v w B1 H1 x1 (rfl : ers as1 = r1) pa
  dsimp only at h
  split at h
  · rename_i hd
    have eg := pa.get
    dsimp only at eg
    unfold isDc at hd
    rw [eg] at hd
    cases w with
    | fl d => cases hd
    | nd kd cs =>
      cases kd with
      | dK ks =>
        obtain ⟨a, dx, xs, rfl, hH, exs, ln, _⟩ := take_core x1.gd x1.sr pa
        refine ⟨a, rfl, .inl ⟨_, .inl hH⟩, ?_⟩
        refine ki n σ as1 B1 H1 T _ x1.gd x1.sr ((Kn.bind h).mono ?_ fun _ _ z => KX.trans x1 _ _ z)
        rintro ⟨wi, r2⟩ eb h2 as2 u B2 H2 x2 (eu : u.er = wi) (rfl : ers as2 = r2)
        dsimp only at h2
        obtain ⟨⟨w', r'⟩, q1, q2⟩ := Kn.of h2
        obtain ⟨ks2, cs2, x, j, f1, f2, f3, f4, f5, f6, f7⟩ := dropD_at q1
        have pa2 := pa.stab x2 x1.sr (st _ _ _ ea) f1
        obtain ⟨a2, dx2, xs2, ev, hH2, exs2, ln2, wr⟩ := take_core x2.gd x2.sr pa2
        have eva : a = a2 := by injection ev
        subst eva
        have hj : j < xs2.length := by
          rw [ln2, ← f5]
          exact atZ_lt f3
        have ez : xs2[j].er = w' := by
          rw [← exs2, List.getElem?_map, List.getElem?_eq_getElem hj] at f4
          exact Option.some.inj f4
        have kv : u.val = kV x := by
          have ux : u.er.dat.key = some x := by rw [eu]; exact f2
          have rr := x2.gd.lf u (List.mem_append_right _ List.mem_cons_self)
          cases u with
          | nd b dy kd cs =>
            rw [A.er_nd, W.dat_nd] at ux
            cases ux
          | fl v d =>
            have rr : RepD c B2 d v := rr
            have ux : d.key = some x := ux
            exact key_rep (B := H2) ux rr
        obtain ⟨as3, g3, s3, e3, f8⟩ := wr (xs2.eraseIdx j) [xs2[j]] (.dK (ks2.eraseIdx j)) (fun _ _ => rfl) (by
          show (ks2.eraseIdx j).length = (xs2.eraseIdx j).length
          rw [List.length_eraseIdx, List.length_eraseIdx, ln2, f5]) (by
          have := objs_erase (c := c) (List.getElem?_eq_getElem hj)
          rw [List.append_nil] at this
          show (objsL c xs2).Perm (objsL c (xs2.eraseIdx j) ++ (xs2[j].objs c ++ []))
          rw [List.append_nil]
          exact this) (fun y hy => List.mem_of_mem_eraseIdx hy) (fun y hy => by
          rw [List.mem_singleton.mp hy]
          exact List.getElem_mem hj)
        refine ⟨ks2.zip (vals xs2), x, xs2[j].val, hH2, kv, look_at f3 (by unfold vals; rw [List.getElem?_map, List.getElem?_eq_getElem hj]; rfl), ?_⟩
        have e6 : dropK (ks2.zip (vals xs2)) x = (ks2.eraseIdx j).zip (vals (xs2.eraseIdx j)) := by
          rw [drop_zip f6 f3]
          unfold vals
          rw [map_era]
        rw [e6]
        have x2' := x1.trans x2
        refine q2 as3 xs2[j] B2 _ ⟨x2'.sb, ?_, s3, fun i hi => ?_⟩ ez ?_
        · have p1 : (live as3 ++ (xs2[j] :: (u :: T))).Perm (live as3 ++ (u :: (xs2[j] :: T))) := List.Perm.append_left _ (List.Perm.swap _ _ _)
          exact Gd.drop1 (x := u) (Gd.perm g3 (p1.trans List.perm_middle))
        · rw [f8 i fun y => hi (List.mem_append_right _ (List.mem_append_right _ (by rw [y, hr _ _ _ ea]; exact List.mem_cons_self)))]
          exact x2'.fr i fun y => hi (by
            rcases List.mem_append.mp y with y | y
            · exact List.mem_append_left _ y
            · exact List.mem_append_right _ (List.mem_append_left _ y))
        · rw [e3, f7, ← exs2, map_era]
      | _ => cases hd
  · exact h.elim
/-! ### e in the module's tuple -/
theorem inV_str (z : Str) : ∀ zs : List Str, inV (.str z) (zs.map V.str) = zs.contains z
  | [] => rfl
  | y :: zs => by
    show (eqV (.str y) (.str z) || inV (.str z) (zs.map V.str)) = (y :: zs).contains z
    rw [inV_str z zs, List.contains_cons]
    have : eqV (.str y) (.str z) = (z == y) := by
      by_cases h : z = y
      · subst h
        simp [eqV]
      · rw [beq_eq_false_iff_ne.mpr h]
        simp [eqV]
        exact fun z => h z.symm
    rw [this]
theorem snd_inG (x : XS c Γ k X Y) {neg : Bool} {e : Expr} {y : Str} {zs : List Str} {se : Sm W} {p pos : Pos} (he : ESnd c X Y e M se) (ht : (y, zs) ∈ k.tups) (hb : k.bi y = true) (hd : (y == ("__debug__" : Str)) = false) :
    ESnd c X Y (.Compare e [if neg then .NotIn else .In] [.Name y p] pos) M (fun r => (se r).bind fun (w, r1) => match w with
      | .fl (.str z) => .ok (.fl (.bl (zs.contains z != neg)), r1)
      | _ => .bad) := by
  obtain ⟨a, h1, h2⟩ := x.tups _ ht
  obtain ⟨te, pe, _, ke⟩ := he
  have pg := pe_glob (X := X) (v := .ref a) (pos := p) (x.ok.gl hb) h1 rfl hd
  have fin : ∀ (n : En) (σ : St) (as : Sl) (B H : Hp) (T : List A) (Q : VK), G c n B H (live as ++ T) → SR σ as → Kn ((se (ers as)).bind fun (w, r1) => match w with
      | .fl (.str z) => Res.ok (W.fl (.bl (zs.contains z != neg)), r1)
      | _ => .bad) (fun a => ∀ as1 x B1 H1, Nx c n σ M as B as1 (x :: T) B1 H1 → x.er = a.1 → ers as1 = a.2 → Q x.val H1) (KX c n σ as B Y) → tOp (rIn X.K neg) te (tC (.ref a)) σ H Q := fun n σ as B H T Q g s hk => by
    refine ke n σ as B H T _ g s (hk.bind.mono ?_ fun _ _ z => z)
    rintro ⟨w, r1⟩ ea h as1 u B1 H1 x1 (eu : u.er = w) (rfl : ers as1 = r1)
    dsimp only at h
    split at h
    · rename_i z
      have uv : u.val = .str z := by
        have rr := x1.gd.lf u (List.mem_append_right _ List.mem_cons_self)
        cases u with
        | nd b dy kd cs =>
          rw [A.er_nd] at eu
          cases eu
        | fl v d =>
          have e2 : d = .str z := W.fl.inj eu
          subst e2
          exact rr
      refine ⟨a, zs.map V.str, rfl, .inr (h2 H1), by rw [uv]; rfl, by rw [List.all_map]; exact List.all_eq_true.mpr fun _ _ => rfl, ?_⟩
      rw [uv, inV_str]
      have h' : ∀ as2 y B2 H2, Nx c n σ M as B as2 (y :: T) B2 H2 → y.er = .fl (.bl (zs.contains z != neg)) → ers as2 = ers as1 → Q y.val H2 := h
      have this : Q (V.bl (zs.contains z != neg)) H1 := h' as1 (.fl (.bl (zs.contains z != neg)) (.bl (zs.contains z != neg))) B1 H1 (x1.dropT.add rfl) rfl rfl
      cases neg
      · simpa using this
      · simpa using this
    · exact h.elim
  cases neg with
  | false =>
    have pc : PE X (.Compare e [.In] [.Name y p] pos) (tOp (rIn X.K false) te (tC (.ref a))) := pe_cmpR op_in_seq pe pg (mark_ok rfl)
    exact ⟨_, pc, fun _ => pt_cmpR op_in_seq pe pg (mark_ok rfl), fin⟩
  | true =>
    have pc : PE X (.Compare e [.NotIn] [.Name y p] pos) (tOp (rIn X.K true) te (tC (.ref a))) := pe_cmpR op_notIn_seq pe pg (mark_ok rfl)
    exact ⟨_, pc, fun _ => pt_cmpR op_notIn_seq pe pg (mark_ok rfl), fin⟩
theorem rgD_reps (c : Gx) (B : Hp) (hi lo : Int) : RepDs c B (downD hi lo) (rgD hi lo) := by
  unfold downD rgD
  generalize (hi - lo).toNat = m
  generalize List.range m = l
  induction l with
  | nil => rfl
  | cons i l ih => exact ⟨_, _, rfl, rfl, ih⟩
/-- list(range(a, b, -1)) -/
theorem snd_rngD {a b d : Expr} {ss : Sm (List W)} {p p2 pos pos2 : Pos} (x : XOk c k X) (hl : k.bi "list" = true) (hr : k.bi "range" = true) (ok : [a, b, d].all okE = true) (hs : LSnd c X Y [a, b, d] M ss) :
    ESnd c X Y (.Call (.Name "list" p) [.Call (.Name "range" p2) [a, b, d] [] pos2] [] pos) M (fun r => (ss r).bind fun (ws, r1) => match ws with
      | [.fl (.int m), .fl (.int n), .fl (.int d)] => if decide (d = -1 ∧ -100000 ≤ m ∧ m ≤ 100000 ∧ -100000 ≤ n ∧ n ≤ 100000) then .ok (newL (downD m n), r1) else .bad
      | _ => .bad) := by
  obtain ⟨ts, pss, ks⟩ := hs
  have ok' : (okE a && [b, d].all okE) = true := ok
  obtain ⟨ok1, ok2⟩ := and2 ok'
  have pc : PE X (.Call (.Name "list" p) [.Call (.Name "range" p2) [a, b, d] [] pos2] [] pos) (tLstRgD (tN ts)) := pe_listRgD x.calm (x.gl hl) (x.free _ (by decide)) (x.gl hr) (x.free _ (by decide)) (PEs.pa ok pss) (star_ok ok1) (star_any ok2)
  refine ⟨_, pc, plN pc rfl, fun n σ as B H T Q g s hk => ks n σ as B H T _ g s (hk.bind.mono ?_ fun _ _ z => z)⟩
  rintro ⟨ws, r1⟩ ea h as1 xs B1 H1 x1 (exs : xs.map A.er = ws) (rfl : ers as1 = r1)
  dsimp only at h
  split at h
  · rename_i m' n' d'
    split at h
    · rename_i hm
      obtain ⟨hd, hm1, hm2, hm3, hm4⟩ := of_decide_eq_true hm
      subst hd
      have h' : ∀ as3 y B3 H3, Nx c n σ M as B as3 (y :: T) B3 H3 → y.er = newL (downD m' n') → ers as3 = ers as1 → Q y.val H3 := h
      have vi : ∀ {y : A} {i : Int}, y ∈ xs → y.er = .fl (.int i) → y.val = .int i := fun {y i} hy e => by
        have rr := x1.gd.lf y (List.mem_append_right _ (List.mem_append_left _ hy))
        cases y with
        | nd b dy kd cs =>
          rw [A.er_nd] at e
          cases e
        | fl v dd =>
          have e2 : dd = .int i := W.fl.inj e
          subst e2
          exact rr
      have ev : vals xs = [.int m', .int n', .int (-1)] := by
        match xs, exs with
        | [y1, y2, y3], exs =>
          injection exs with e1 exs
          injection exs with e2 exs
          injection exs with e3 exs
          show [y1.val, y2.val, y3.val] = _
          rw [vi (by simp) e1, vi (by simp) e2, vi (by simp) e3]
        | [], exs => exact absurd (congrArg List.length exs) (by simp)
        | [_], exs => exact absurd (congrArg List.length exs) (by simp)
        | [_, _], exs => exact absurd (congrArg List.length exs) (by simp)
        | _ :: _ :: _ :: _ :: _, exs => exact absurd (congrArg List.length exs) (by simp)
      refine ⟨m', n', ev, ⟨by omega, by omega, by omega, by omega, by omega⟩, fun q hq => ?_⟩
      have x3 : Nx c n σ M as B as1 T B1 H1 := ⟨x1.sb, Gd.drop (M := xs) (Gd.perm x1.gd (by
        rw [← List.append_assoc, ← List.append_assoc]
        exact List.Perm.append_right _ List.perm_append_comm)), x1.sr, x1.fr⟩
      exact newL_fin (w := newL (downD m' n')) rfl (fin_of x3 fun y B4 H4 x4 e11 => h' as1 y B4 H4 x4 e11 rfl) (rgD_reps c B1 m' n') hq
    · exact h.elim
  · exact h.elim
end
end Vx
end

section
set_option maxHeartbeats 4000000
/-! Vx 17: expressions: the check of a text, and what it gives. -/
namespace Vx
open PySem L2
/-- where an expression stands: as a value, as a test, inside an and/or's test -/
inductive Md where
  | v | t | w
def okM : Md → Expr → Bool
  | .v, _ => true
  | .t, x => plT x
  | .w, _ => false
def D.conB : D → Expr → Bool
  | .int i, .Constant (.int j) _ _ => decide (i = j)
  | .bl i, .Constant (.bool j) _ _ => i == j
  | .str i, .Constant (.str j) _ _ => decide (i = j)
  | .non, .Constant .none _ _ => true
  | _, _ => false
def D.same : D → D → Bool
  | .int i, .int j => decide (i = j)
  | .bl i, .bl j => i == j
  | .str i, .str j => decide (i = j)
  | .non, .non => true
  | _, _ => false
theorem D.same_eq {a b : D} (h : a.same b = true) : a = b := by
  cases a <;> cases b <;> first | rfl | (cases h; done) | skip
  · have := (beq_iff_eq (a := _) (b := _)).mp h
    rw [this]
  · rw [of_decide_eq_true h]
  · rw [of_decide_eq_true h]
def Rop.cmpO : Rop → Option CmpOp
  | .lt => some .Lt
  | .le => some .LtE
  | .gt => some .Gt
  | .ge => some .GtE
  | _ => none
def dbg (x : Str) : Bool := x == ("__debug__" : Str)
def Pl.root : Pl → Nat
  | .sl i => i
  | .ix p _ => p.root
  | .ky p _ => p.root
  | .fd p _ _ => p.root
def Pl.triv : Pl → Bool
  | .sl _ => true
  | _ => false
/-- an operand that is a temporary or a name -/
def O.simp : O → Bool
  | .tm _ => true
  | .bo p => p.triv
def O.roots : O → List Nat
  | .tm _ => []
  | .bo p => [p.root]
def O.stab (ms : List Nat) : O → Bool
  | .tm _ => true
  | .bo p => p.triv || !ms.contains p.root
def It.roots : It → List Nat
  | .sq o => o.roots
  | .tq o => o.roots
  | .ks o => o.roots
  | .zp a b => a.roots ++ b.roots
  | .en a => a.roots
  | .zs a _ => a.roots
  | _ => []
mutual
def E.mods : E → List Nat
  | .rd p => p.root :: p.mods
  | .gt p => p.mods
  | .mv i => [i]
  | .con _ => []
  | .gl _ _ => []
  | .op _ xs => O.modsL xs
  | .ixT a b => a.mods ++ b.mods
  | .lst es => E.modsL es
  | .tup es => E.modsL es
  | .dnK => []
  | .dnT => []
  | .fz e => e.mods
  | .call _ xs => Ar.modsL xs
  | .call0 _ => []
  | .srtK _ o => o.mods
  | .sl3 o a b => o.mods ++ (a.mods ++ b.mods)
  | .rng a b => a.mods ++ b.mods
  | .ite c a b => c.mods ++ (a.mods ++ b.mods)
  | .and a b => a.mods ++ b.mods
  | .or a b => a.mods ++ b.mods
  | .not a => a.mods
  | .chn _ _ a b c => a.mods ++ (b.mods ++ c.mods)
  | .tru x => x.mods
  | .kyT a b => a.mods ++ b.mods
  | .rdl i => [i]
  | .inG _ e _ _ => e.mods
  | .meth _ _ _ xs => Ar.modsL xs
  | .new _ _ es => E.modsL es
  | .popv p => p.mods ++ [p.root]
  | .rngD es => E.modsL es
  | .popk p e => p.mods ++ (e.mods ++ [p.root])
  | .getd p a b => p.mods ++ (a.mods ++ b.mods)
  | .wlk q e => q.1 :: e.mods
  | .lc own _ it ifs e => it.mods ++ (own.map (·.2) ++ ((match ifs with
    | none => []
    | some c => c.mods) ++ e.mods))
def E.modsL : List E → List Nat
  | [] => []
  | e :: es => e.mods ++ E.modsL es
def O.mods : O → List Nat
  | .tm e => e.mods
  | .bo p => p.mods
def O.modsL : List O → List Nat
  | [] => []
  | o :: os => o.mods ++ O.modsL os
def Ar.modsL : List Ar → List Nat
  | [] => []
  | .va e :: xs => e.mods ++ Ar.modsL xs
  | .io i :: xs => i :: Ar.modsL xs
  | .ro _ :: xs => Ar.modsL xs
def Pl.mods : Pl → List Nat
  | .sl _ => []
  | .ix p e => p.mods ++ e.mods
  | .ky p e => p.mods ++ e.mods
  | .fd p _ _ => p.mods
def It.mods : It → List Nat
  | .sq o => o.mods
  | .tq o => o.mods
  | .ks o => o.mods
  | .r1 e => e.mods
  | .r2 a b => a.mods ++ b.mods
  | .zp a b => a.mods ++ (b.mods ++ [])
  | .en a => a.mods
  | .st o => o.mods
  | .zs a b => a.mods ++ b.mods
end
def Ar.kind : Ar → Option (Bool × Nat)
  | .va _ => none
  | .io i => some (true, i)
  | .ro i => some (false, i)
/-- do a def's numbers fit the arguments -/
def fitB (fn : Fn) (xs : List Ar) : Bool := decide (fn.io = kAt true 0 (xs.map Ar.kind)) && (decide (fn.ro = kAt false 0 (xs.map Ar.kind)) && (decide (fn.ar = xs.length) && decide (kSl (xs.map Ar.kind)).Nodup))
def clsBy (k : Ck) (ci : Nat) : Option Kls := k.clss.find? fun x => x.ci == ci
def fnBy (k : Ck) (f : Nat) : Option Fn := k.fns.find? fun x => x.id == f
mutual
def E.chk : E → Md → Ck → Expr → Bool
  | .rd p, m, k, x => okM m x && (okT x && p.chk k x)
  | .gt p, m, k, x => okM m x && (okT x && p.chk k x)
  | .mv i, m, k, x => okM m x && match x with
    | .Name y _ => visB k i y
    | _ => false
  | .con d, m, _, x => okM m x && d.conB x
  | .gl y d, m, k, x => okM m x && match x with
    | .Name z _ => decide (z = y) && (k.bi y && (!dbg y && (d.flat && match k.cons.lookup y with
      | some e => d.same e
      | none => false)))
    | _ => false
  | .op o xs, m, k, x => okM m x && match o.form k x with
    | some es => O.chks xs k es
    | none => false
  | .ixT a b, m, k, x => okM m x && match x with
    | .Subscript p q _ => okE q && (a.chk .v k p && b.chk .v k q)
    | _ => false
  | .lst es, m, k, x => okM m x && match x with
    | .List xs _ => xs.all okE && E.chks es k xs
    | _ => false
  | .tup es, m, k, x => okM m x && match x with
    | .Tuple xs _ _ => xs.all okE && E.chks es k xs
    | _ => false
  | .dnK, m, _, x => okM m x && match x with
    | .Dict [] [] _ => true
    | _ => false
  | .dnT, m, _, x => okM m x && match x with
    | .Dict [] [] _ => true
    | _ => false
  | .fz e, m, k, x => okM m x && e.chk .v k x
  | .call f xs, m, k, x => okM m x && match x with
    | .Call (.Name nm _) (y :: ys) [] _ => (match fnBy k f with
      | some fn => decide (fn.name = nm) && (k.bi nm && (!dbg nm && ((y :: ys).all okE && (fn.cl.isNone && fitB fn xs))))
      | none => false) && Ar.chks xs k (y :: ys)
    | _ => false
  | .call0 f, m, k, x => okM m x && match x with
    | .Call (.Name nm _) [] [] _ => (match fnBy k f with
      | some fn => decide (fn.name = nm) && (k.bi nm && (!dbg nm && (decide (fn.io = []) && (decide (fn.ar = 0) && (decide (fn.ro = []) && fn.cl.isNone)))))
      | none => false)
    | _ => false
  | .srtK f o, m, k, x => okM m x && match x with
    | .Call (.Name nm _) [a] [⟨some kn, .Name fnm _, _⟩] _ => decide (nm = "sorted") && (decide (kn = "key") && (k.bi "sorted" && (okE a && ((match fnBy k f with
      | some fn => decide (fn.name = fnm) && (k.bi fnm && (!dbg fnm && (decide (fn.io = []) && (decide (fn.ar = 1) && (decide (fn.ro = []) && fn.cl.isNone)))))
      | none => false) && o.chk k a))))
    | _ => false
  | .rng a b, m, k, x => okM m x && match x with
    | .Call (.Name nm _) [.Call (.Name rn _) [y, z] [] _] [] _ => decide (nm = "list") && (decide (rn = "range") && (k.bi "list" && (k.bi "range" && (okE y && (okE z && (a.chk .v k y && b.chk .v k z))))))
    | _ => false
  | .sl3 o a b, m, k, x => okM m x && match x with
    | .Subscript y (.Slice (some l) (some h) none _) _ => o.simp && (o.chk k y && (a.chk .v k l && b.chk .v k h))
    | _ => false
  | .ite c a b, m, k, x => okM m x && match x with
    | .IfExp d y z _ => c.chk .t k d && (a.chk .v k y && b.chk .v k z)
    | _ => false
  | .and a b, m, k, x => match x with
    | .BoolOp .And (y :: z :: rest) pos => match m with
      | .v => a.chk .v k y && (match rest with
        | [] => b.chk .v k z
        | _ => b.chk .v k (.BoolOp .And (z :: rest) pos))
      | _ => a.chk .t k y && (match rest with
        | [] => b.chk .t k z
        | _ => b.chk .w k (.BoolOp .And (z :: rest) pos))
    | _ => false
  | .or a b, m, k, x => match x with
    | .BoolOp .Or (y :: z :: rest) pos => match m with
      | .v => a.chk .v k y && (match rest with
        | [] => b.chk .v k z
        | _ => b.chk .v k (.BoolOp .Or (z :: rest) pos))
      | _ => a.chk .t k y && (match rest with
        | [] => b.chk .t k z
        | _ => b.chk .w k (.BoolOp .Or (z :: rest) pos))
    | _ => false
  | .not a, m, k, x => match x with
    | .UnaryOp .Not y _ => match m with
      | .v => a.chk .v k y
      | .t => a.chk .t k y
      | .w => false
    | _ => false
  | .chn o p a b c, m, k, x => okM m x && match x with
    | .Compare y [op, op'] [z, u] _ => decide (o.cmpO = some op) && (decide (p.cmpO = some op') && (okE z && (okE u && (a.chk .v k y && (b.chk .v k z && c.chk .v k u)))))
    | _ => false
  | .tru o, m, k, x => match m with
    | .t => okT x && o.chk k x
    | _ => false
  | .inG neg e y zs, m, k, x => okM m x && match x with
    | .Compare z [op] [.Name u _] _ => decide (u = y) && (decide (op = if neg then .NotIn else .In) && (k.tups.contains (y, zs) && (k.bi y && (!dbg y && e.chk .v k z))))
    | _ => false
  | .meth ci mn f (.io i :: xs), m, k, x => okM m x && match x with
    | .Call (.Attribute (.Name y _) nm apos) es [] cpos => decide (nm = mn) && ((match fnBy k f with
      | some fn => decide (fn.name = nm) && (decide (fn.cl = some ci) && fitB fn (.io i :: xs))
      | none => false) && (visB k i y && (es.all okE && (decide (es.length < 30) && ((apos.endLine == cpos.line) && Ar.chks xs k es)))))
    | _ => false
  | .meth ci mn f (.ro i :: xs), m, k, x => okM m x && match x with
    | .Call (.Attribute (.Name y _) nm apos) es [] cpos => decide (nm = mn) && ((match fnBy k f with
      | some fn => decide (fn.name = nm) && (decide (fn.cl = some ci) && fitB fn (.ro i :: xs))
      | none => false) && (visB k i y && (es.all okE && (decide (es.length < 30) && ((apos.endLine == cpos.line) && ((!(Ar.modsL xs).contains i) && Ar.chks xs k es))))))
    | _ => false
  | .new ci f es, m, k, x => okM m x && match x with
    | .Call (.Name nm _) xs [] _ => (match clsBy k ci with
      | some q => decide (q.name = nm) && (q.mkb && match fnBy k f with
        | some fn => decide (fn.name = "__init__") && (decide (fn.cl = some ci) && (decide (fn.io = [0]) && (decide (fn.ro = []) && decide (fn.ar = xs.length + 1))))
        | none => false)
      | none => false) && (xs.all okE && (k.bi nm && (!dbg nm && E.chks es k xs)))
    | _ => false
  | .popv p, m, k, x => okM m x && match x with
    | .Call (.Attribute o nm apos) [] [] cpos => decide (nm = "pop") && (okO o && ((apos.endLine == cpos.line) && p.chk k o))
    | _ => false
  | .popk p e, m, k, x => okM m x && match x with
    | .Call (.Attribute o nm apos) [y] [] cpos => decide (nm = "pop") && (okO o && (okE y && ((apos.endLine == cpos.line) && ((p.triv || !e.mods.contains p.root) && (p.chk k o && e.chk .v k y)))))
    | _ => false
  | .rngD es, m, k, x => okM m x && match x with
    | .Call (.Name nm _) [.Call (.Name rn _) [a, b, d] [] _] [] _ => decide (nm = "list") && (decide (rn = "range") && (k.bi "list" && (k.bi "range" && ([a, b, d].all okE && E.chks es k [a, b, d]))))
    | _ => false
  | .kyT a b, m, k, x => false
  | .rdl i, m, k, x => false
  | .getd p a b, m, k, x => false
  | .wlk q e, m, k, x => false
  | .meth _ _ _ _, _, _, _ => false
  | .lc own g it ifs e, m, k, x => okM m x && match x with
    | .ListComp elt [⟨tg, iter, fs, 0⟩] scope _ => blkC k.N k.sc scope own && (g.chk { k with sc := relS scope k.sc, cel := fun y => scope.names.lookup y == some .cell } tg && (g.slots.all (fun i => (own.map (·.2)).contains i) && (okE iter && (it.chk k tg iter && (e.chk .v { k with sc := relS scope k.sc, cel := fun y => scope.names.lookup y == some .cell } elt &&
      ((it.roots.all fun i => !(own.map (·.2)).contains i && (!(match ifs with
        | none => []
        | some c => c.mods).contains i && !e.mods.contains i)) && match ifs with
        | none => fs.isEmpty
        | some c => match fs with
          | [f] => c.chk .t { k with sc := relS scope k.sc, cel := fun y => scope.names.lookup y == some .cell } f
          | _ => false))))))
    | _ => false
def E.chks : List E → Ck → List Expr → Bool
  | [], _, xs => xs.isEmpty
  | e :: es, k, xs => match xs with
    | x :: xs => e.chk .v k x && E.chks es k xs
    | [] => false
def O.chk : O → Ck → Expr → Bool
  | .tm e, k, x => e.chk .v k x
  | .bo p, k, x => p.chk k x
def O.chks : List O → Ck → List Expr → Bool
  | [], _, xs => xs.isEmpty
  | o :: os, k, xs => match xs with
    | x :: xs => (o.stab (O.modsL os) && o.chk k x) && O.chks os k xs
    | [] => false
def Ar.chks : List Ar → Ck → List Expr → Bool
  | [], _, xs => xs.isEmpty
  | .va e :: es, k, xs => match xs with
    | x :: xs => e.chk .v k x && Ar.chks es k xs
    | [] => false
  | .io i :: es, k, xs => match xs with
    | x :: xs => (match x with
      | .Name y _ => visB k i y
      | _ => false) && Ar.chks es k xs
    | [] => false
  | .ro i :: es, k, xs => match xs with
    | x :: xs => (match x with
      | .Name y _ => visB k i y && !(Ar.modsL es).contains i
      | _ => false) && Ar.chks es k xs
    | [] => false
def Pl.chk : Pl → Ck → Expr → Bool
  | .sl i, k, x => match x with
    | .Name y _ => visB k i y
    | _ => false
  | .ix p e, k, x => match x with
    | .Subscript y z _ => okE z && ((p.triv || !e.mods.contains p.root) && (p.chk k y && e.chk .v k z))
    | _ => false
  | .ky p e, k, x => match x with
    | .Subscript y z _ => okE z && ((p.triv || !e.mods.contains p.root) && (p.chk k y && e.chk .v k z))
    | _ => false
  | .fd p ci f, k, x => match x with
    | .Attribute o nm _ => decide (nm = f) && (okO o && (clB k ci f && p.chk k o))
    | _ => false
def It.chk : It → Ck → Expr → Expr → Bool
  | .sq o, k, _, x => o.chk k x
  | .tq o, k, _, x => o.chk k x
  | .ks o, k, _, x => o.chk k x
  | .r1 e, k, _, x => match x with
    | .Call (.Name nm _) [y] [] _ => decide (nm = "range") && (k.bi "range" && (okE y && e.chk .v k y))
    | _ => false
  | .r2 a b, k, _, x => match x with
    | .Call (.Name nm _) [y, z] [] _ => decide (nm = "range") && (k.bi "range" && (okE y && (okE z && (a.chk .v k y && b.chk .v k z))))
    | _ => false
  | .zp a b, k, tg, x => match tg with
    | .Tuple _ _ _ => match x with
      | .Call (.Name nm _) [y, z] [] _ => decide (nm = "zip") && (k.bi "zip" && (okE y && (okE z && (a.stab (b.mods ++ []) && (a.chk k y && b.chk k z)))))
      | _ => false
    | _ => false
  | .en a, k, tg, x => match tg with
    | .Tuple _ _ _ => match x with
      | .Call (.Name nm _) [y] [] _ => decide (nm = "enumerate") && (k.bi "enumerate" && (okE y && a.chk k y))
      | _ => false
    | _ => false
  | .st o, k, _, x => o.chk k x
  | .zs a b, k, tg, x => match tg with
    | .Tuple _ _ _ => match x with
      | .Call (.Name nm _) [y, z] [] _ => decide (nm = "zip") && (k.bi "zip" && (okE y && (okE z && (a.simp && (a.chk k y && b.chk k z)))))
      | _ => false
    | _ => false
end
end Vx
end

section
set_option maxHeartbeats 4000000
/-! Vx 18: a checked expression computes what its sem says. -/
namespace Vx
open PySem L2
theorem res_bind {α β : Type} {x : Res α} {f : α → Res β} {b : β} (h : x.bind f = .ok b) : ∃ a, x = .ok a ∧ f a = .ok b := by
  cases x with
  | ok a => exact ⟨a, rfl, h⟩
  | ex c p r => cases h
  | bad => cases h
theorem res_of {α : Type} {x : Option α} {b : α} (h : Res.of x = .ok b) : x = some b := by
  cases x with
  | some a =>
    have : a = b := by
      have h' : (Res.ok a) = .ok b := h
      injection h'
    rw [this]
  | none => cases h
section
variable {c : Gx} {Γ : Den}
theorem Pl.root_of : ∀ {p : Pl} {r : Env} {q : Nat × List Nat} {r1 : Env}, p.sem Γ r = .ok (q, r1) → q.1 = p.root
  | .sl i, r, q, r1, h => by
    have h' : (match r[i]? with
      | some (some _) => Res.ok ((i, ([] : List Nat)), r)
      | _ => .bad) = .ok (q, r1) := h
    split at h'
    · injection h' with h'
      injection h' with e1 e2
      rw [← e1]
      rfl
    · cases h'
  | .ix p e, r, q, r1, h => by
    obtain ⟨⟨q0, r0⟩, h1, h2⟩ := res_bind (x := p.sem Γ r) h
    obtain ⟨⟨w, r2⟩, h3, h4⟩ := res_bind h2
    obtain ⟨j, h5, h6⟩ := Option.map_eq_some_iff.mp (res_of h4)
    injection h6 with e1 e2
    rw [← e1]
    exact (Pl.root_of h1 : q0.1 = p.root)
  | .ky p e, r, q, r1, h => by
    obtain ⟨⟨q0, r0⟩, h1, h2⟩ := res_bind (x := p.sem Γ r) h
    obtain ⟨⟨w, r2⟩, h3, h4⟩ := res_bind h2
    obtain ⟨j, h5, h6⟩ := Option.map_eq_some_iff.mp (res_of h4)
    injection h6 with e1 e2
    rw [← e1]
    exact (Pl.root_of h1 : q0.1 = p.root)
  | .fd p ci f, r, q, r1, h => by
    obtain ⟨⟨q0, r0⟩, h1, h2⟩ := res_bind (x := p.sem Γ r) h
    obtain ⟨j, h5, h6⟩ := Option.map_eq_some_iff.mp (res_of h2)
    injection h6 with e1 e2
    rw [← e1]
    exact (Pl.root_of h1 : q0.1 = p.root)
theorem Pl.triv_of {p : Pl} {r : Env} {q : Nat × List Nat} {r1 : Env} (ht : p.triv = true) (h : p.sem Γ r = .ok (q, r1)) : q.2 = [] := by
  cases p with
  | sl i =>
    have h' : (match r[i]? with
      | some (some _) => Res.ok ((i, ([] : List Nat)), r)
      | _ => .bad) = .ok (q, r1) := h
    split at h'
    · injection h' with h'
      injection h' with e1 e2
      rw [← e1]
    · cases h'
  | _ => cases ht
theorem Pl.stab_of {p : Pl} {ms : List Nat} (h : (p.triv || !ms.contains p.root) = true) : ∀ r q r1, p.sem Γ r = .ok (q, r1) → q.2 = [] ∨ q.1 ∉ ms := fun r q r1 e => by
  rcases Bool.or_eq_true_iff.mp h with h | h
  · exact .inl (Pl.triv_of h e)
  · refine .inr fun z => ?_
    rw [Pl.root_of e] at z
    have h2 : ms.contains p.root = true := List.contains_iff_mem.mpr z
    rw [h2] at h
    cases h
theorem O.root_of {o : O} {r : Env} {v : Rv} {r1 : Env} (h : o.sem Γ r = .ok (v, r1)) : ∀ i ∈ v.root, i ∈ o.roots := by
  cases o with
  | tm e =>
    obtain ⟨⟨w, r0⟩, h1, h2⟩ := res_bind (x := e.sem Γ r) h
    injection h2 with h2
    injection h2 with e1 e2
    rw [← e1]
    intro i hi
    cases hi
  | bo p =>
    obtain ⟨⟨q, r0⟩, h1, h2⟩ := res_bind (x := p.sem Γ r) h
    injection h2 with h2
    injection h2 with e1 e2
    rw [← e1]
    intro i hi
    have hi' : i ∈ [q.1] := hi
    rw [Pl.root_of h1] at hi'
    exact hi'
theorem E.sems_len : ∀ {es : List E} {r : Env} {ws : List W} {r1 : Env}, E.sems Γ es r = .ok (ws, r1) → ws.length = es.length
  | [], r, ws, r1, h => by
    have h' : (Res.ok (([] : List W), r)) = .ok (ws, r1) := h
    injection h' with h'
    injection h' with e1 e2
    rw [← e1]
    rfl
  | e :: es, r, ws, r1, h => by
    obtain ⟨⟨w, r0⟩, h1, h2⟩ := res_bind (x := e.sem Γ r) h
    obtain ⟨⟨us, r2⟩, h3, h4⟩ := res_bind (x := E.sems Γ es r0) h2
    injection h4 with h4
    injection h4 with e1 e2
    rw [← e1, List.length_cons, List.length_cons, E.sems_len h3]
theorem E.chks_len {k : Ck} : ∀ {es : List E} {xs : List Expr}, E.chks es k xs = true → xs.length = es.length
  | [], [], _ => rfl
  | [], _ :: _, h => by cases h
  | e :: es, [], h => by cases h
  | e :: es, x :: xs, h => by
    obtain ⟨h1, h2⟩ := and2 h
    rw [List.length_cons, List.length_cons, E.chks_len h2]
theorem Ar.io_mods : ∀ {xs : List Ar} {i : Nat}, some (true, i) ∈ xs.map Ar.kind → i ∈ Ar.modsL xs
  | .va e :: xs, i, h => by
    rcases List.mem_cons.mp h with z | z
    · cases z
    · exact List.mem_append_right _ (Ar.io_mods z)
  | .io j :: xs, i, h => by
    rcases List.mem_cons.mp h with z | z
    · have z' : some (true, i) = some (true, j) := z
      injection z' with z'
      injection z' with _ z'
      rw [z']
      exact List.mem_cons_self
    · exact List.mem_cons_of_mem _ (Ar.io_mods z)
  | .ro j :: xs, i, h => by
    rcases List.mem_cons.mp h with z | z
    · have z' : some (true, i) = some (false, j) := z
      injection z' with z'
      injection z' with z' _
      cases z'
    · exact Ar.io_mods (xs := xs) z
theorem fit_ok {fn : Fn} {xs : List Ar} {M : List Nat} (h : fitB fn xs = true) (hm : ∀ i, some (true, i) ∈ xs.map Ar.kind → i ∈ M) : KOk fn (xs.map Ar.kind) M := by
  obtain ⟨h1, h⟩ := and2 h
  obtain ⟨h2, h⟩ := and2 h
  obtain ⟨h3, h4⟩ := and2 h
  exact ⟨of_decide_eq_true h1, of_decide_eq_true h2, by rw [List.length_map]; exact of_decide_eq_true h3, of_decide_eq_true h4, hm⟩
theorem clsBy_ok {k : Ck} {ci : Nat} {q : Kls} (h : clsBy k ci = some q) : q ∈ k.clss ∧ q.ci = ci := ⟨List.mem_of_find?_eq_some h, by simpa using List.find?_some h⟩
def MSnd (c : Gx) (m : Md) (X : Cx) (Y : WX) (x : Expr) (M : List Nat) (sem : Sm W) : Prop := match m with
  | .v => ESnd c X Y x M sem
  | .t => TSnd c X Y x M (fun r => (sem r).bind bool?)
  | .w => WSnd c X Y x M (fun r => (sem r).bind bool?)
theorem msnd {m : Md} {X : Cx} {Y : WX} {x : Expr} {M : List Nat} {sem : Sm W} (h : okM m x = true) (q : ESnd c X Y x M sem) : MSnd c m X Y x M sem := by
  cases m with
  | v => exact q
  | t => exact tsnd_of q h
  | w => cases h
theorem MSnd.t' {m : Md} {X : Cx} {Y : WX} {x : Expr} {M : List Nat} {sem : Sm W} (hm : m ≠ .v) (q : WSnd c X Y x M (fun r => (sem r).bind bool?)) : MSnd c m X Y x M sem := by
  cases m with
  | v => exact (hm rfl).elim
  | t => exact q.t
  | w => exact q
theorem not_sem {sa : Sm W} : (fun r => (((sa r).bind bool?).bind fun ((k, r1) : Bool × Env) => (Res.ok ((.fl (.bl (!k)) : W), r1))).bind bool?) = fun r => ((sa r).bind bool?).bind fun (x, r1) => .ok (!x, r1) := by
  funext r
  cases (sa r).bind bool? <;> rfl
theorem and_sem {sa sb : Sm W} : (fun r => (((sa r).bind bool?).bind fun ((k, r1) : Bool × Env) => if k then sb r1 else (Res.ok ((.fl (.bl false) : W), r1))).bind bool?) = fun r => ((sa r).bind bool?).bind fun (x, r1) => if x then (sb r1).bind bool? else .ok (false, r1) := by
  funext r
  cases (sa r).bind bool? with
  | ok a =>
    obtain ⟨k, r1⟩ := a
    cases k <;> rfl
  | _ => rfl
theorem or_sem {sa sb : Sm W} : (fun r => (((sa r).bind bool?).bind fun ((k, r1) : Bool × Env) => if k then (Res.ok ((.fl (.bl true) : W), r1)) else sb r1).bind bool?) = fun r => ((sa r).bind bool?).bind fun (x, r1) => if x then .ok (true, r1) else (sb r1).bind bool? := by
  funext r
  cases (sa r).bind bool? with
  | ok a =>
    obtain ⟨k, r1⟩ := a
    cases k <;> rfl
  | _ => rfl
theorem cmpO_ok {X : Cx} {o : Rop} {op : CmpOp} (h : o.cmpO = some op) : ∃ g : Int → Int → Bool, OpR X (compareOp op) (rI0 fun i j => .bl (g i j)) ∧ o.run = on2I fun i j => pB (g i j) := by
  cases o <;> first | (cases h; done) | (have e := Option.some.inj h; subst e)
  · exact ⟨_, op_lt, rfl⟩
  · exact ⟨_, op_le, rfl⟩
  · exact ⟨_, op_gt, rfl⟩
  · exact ⟨_, op_ge, rfl⟩
theorem fnBy_ok {k : Ck} {f : Nat} {fn : Fn} (h : fnBy k f = some fn) : fn ∈ k.fns ∧ fn.id = f := ⟨List.mem_of_find?_eq_some h, by simpa using List.find?_some h⟩
theorem con_ok {X : Cx} {d : D} {x : Expr} (h : d.conB x = true) : PE X x (tC d.v) ∧ okT x = true ∧ d.flat = true := by
  unfold D.conB at h
  split at h
  · rw [of_decide_eq_true h]
    exact ⟨pe_int, rfl, rfl⟩
  · rw [(beq_iff_eq (a := _) (b := _)).mp h]
    exact ⟨pe_bl, rfl, rfl⟩
  · rw [of_decide_eq_true h]
    exact ⟨pe_str, rfl, rfl⟩
  · exact ⟨pe_non, rfl, rfl⟩
  · cases h
theorem lookup_mem {α β : Type} [BEq α] [LawfulBEq α] {y : α} {d : β} : ∀ {l : List (α × β)}, l.lookup y = some d → (y, d) ∈ l
  | [], h => by cases h
  | (a, b) :: l, h => by
    rw [List.lookup_cons] at h
    split at h
    · rename_i e
      have e1 := eq_of_beq e
      have e2 : b = d := Option.some.inj h
      rw [e1, e2]
      exact List.mem_cons_self
    · exact List.mem_cons_of_mem _ (lookup_mem h)
theorem noC {l : List Nat} {i : Nat} (w : i ∈ l) (h : (!l.contains i) = true) : False := by
  rw [List.contains_iff_mem.mpr w] at h
  cases h
theorem lc_none {own : List (Str × Nat)} {g : Tg} {it : It} {e : E} : E.sem Γ (.lc own g it none e) = fun r => (It.sem Γ it r).bind fun (ws, r1) => (lcFold g.bind (fun r => Res.ok (true, r)) (E.sem Γ e) (own.map (·.2)) ws [] (wipeE r1 (own.map (·.2)))).bind fun (acc, r2) => .ok (.nd .lst acc, r2) := by
  funext r
  rw [E.sem]
theorem lc_some {own : List (Str × Nat)} {g : Tg} {it : It} {d e : E} : E.sem Γ (.lc own g it (some d) e) = fun r => (It.sem Γ it r).bind fun (ws, r1) => (lcFold g.bind (fun r => (E.sem Γ d r).bind bool?) (E.sem Γ e) (own.map (·.2)) ws [] (wipeE r1 (own.map (·.2)))).bind fun (acc, r2) => .ok (.nd .lst acc, r2) := by
  funext r
  rw [E.sem]
theorem O.simp_of {o : O} {r : Env} {q : Nat × List Nat} {r1 : Env} {ms : List Nat} (hs : o.simp = true) (h : o.sem Γ r = .ok (.p q, r1)) : (q.2 = [] ∨ q.1 ∉ ms) ∧ (eget r1 q).isSome = true := by
  cases o with
  | tm e =>
    obtain ⟨⟨w, r2⟩, _, h2⟩ := res_bind (show ((e.sem Γ r).bind fun (w, r1) => Res.ok (Rv.t w, r1)) = _ from h)
    injection h2 with h2
    injection h2 with h2
    cases h2
  | bo p =>
    obtain ⟨⟨q', r2⟩, h1, h2⟩ := res_bind (show ((p.sem Γ r).bind fun (q, r1) => Res.ok (Rv.p q, r1)) = _ from h)
    injection h2 with h2
    injection h2 with h2 h3
    injection h2 with h2
    subst h2
    subst h3
    refine ⟨.inl (Pl.triv_of hs h1), ?_⟩
    cases p with
    | sl i =>
      unfold Pl.sem at h1
      split at h1
      · rename_i w hw
        injection h1 with h1
        injection h1 with h1 h2
        subst h1
        subst h2
        unfold eget
        rw [hw]
        show (w.get []).isSome = true
        rw [W.get_nil]
        rfl
      · cases h1
    | _ => cases hs
theorem star_few1 {e : Expr} {cpos : Pos} {env : PySem.Env} (ok : okE e = true) : ((backTo cpos (starEach [e] env)).all (fun x => !x.1) && (backToKw cpos (keywordEach [] env)).all (fun x => x.1.isSome)
      && decide ([e].length + ([] : List Keyword).length + (if ([] : List Keyword).isEmpty then 0 else 1) < 30)) = true := by
  rw [star_ok ok]
  rfl
theorem m1_ok {X : Cx} {o e : Expr} {m : Str} {apos cpos : Pos} (ok : okE e = true) (oo : okO o = true) (hl : (apos.endLine == cpos.line) = true) : M1 X o m apos e cpos :=
  ⟨base_ok oo, star_few1 ok, hl, by rw [star_ok ok]; rfl⟩
mutual
theorem E.snd : ∀ (e : E) {m : Md} {k : Ck} {X : Cx} {Y : WX} {x : Expr}, XS c Γ k X Y → e.chk m k x = true → MSnd c m X Y x e.mods (e.sem Γ)
  | .rd p, m, k, X, Y, x, s, h => by
    obtain ⟨h1, h2⟩ := and2 h
    obtain ⟨h2, h3⟩ := and2 h2
    exact msnd h1 (snd_rd (Pl.snd p s h3) h2 fun r q r1 e => Pl.root_of e)
  | .gt p, m, k, X, Y, x, s, h => by
    obtain ⟨h1, h2⟩ := and2 h
    obtain ⟨h2, h3⟩ := and2 h2
    exact msnd h1 (snd_gt (Pl.snd p s h3) h2)
  | .mv i, m, k, X, Y, x, s, h => by
    obtain ⟨h1, h2⟩ := and2 h
    split at h2
    · exact msnd h1 (snd_mv s.ok h2)
    · cases h2
  | .con d, m, k, X, Y, x, s, h => by
    obtain ⟨h1, h2⟩ := and2 h
    obtain ⟨a, b, d⟩ := con_ok h2
    exact msnd h1 (snd_flat a b d rfl)
  | .gl y d, m, k, X, Y, x, s, h => by
    obtain ⟨h1, h2⟩ := and2 h
    split at h2
    · obtain ⟨e1, h2⟩ := and2 h2
      obtain ⟨e2, h2⟩ := and2 h2
      obtain ⟨e3, h2⟩ := and2 h2
      obtain ⟨e4, h2⟩ := and2 h2
      split at h2
      · rename_i d' hl
        have e5 := D.same_eq h2
        subst e5
        obtain ⟨u, hu, ru⟩ := s.cons _ (lookup_mem hl)
        have e6 := of_decide_eq_true e1
        subst e6
        exact msnd h1 (snd_flat (pe_glob (s.ok.gl e2) hu ru (by simpa [dbg] using e3)) rfl e4 rfl)
      · cases h2
    · cases h2
  | .op o xs, m, k, X, Y, x, s, h => by
    obtain ⟨h1, h2⟩ := and2 h
    split at h2
    · rename_i es hf
      exact msnd h1 (snd_op s.ok hf (O.snds xs s h2))
    · cases h2
  | .ixT a b, m, k, X, Y, x, s, h => by
    obtain ⟨h1, h2⟩ := and2 h
    split at h2
    · obtain ⟨e1, h2⟩ := and2 h2
      obtain ⟨e2, e3⟩ := and2 h2
      exact msnd h1 (snd_ixT (E.snd a s e2) (E.snd b s e3) e1)
    · cases h2
  | .lst es, m, k, X, Y, x, s, h => by
    obtain ⟨h1, h2⟩ := and2 h
    split at h2
    · obtain ⟨e1, h2⟩ := and2 h2
      exact msnd h1 (snd_lst (E.snds es s h2) e1)
    · cases h2
  | .tup es, m, k, X, Y, x, s, h => by
    obtain ⟨h1, h2⟩ := and2 h
    split at h2
    · obtain ⟨e1, h2⟩ := and2 h2
      exact msnd h1 (snd_tup (E.snds es s h2) e1)
    · cases h2
  | .dnK, m, k, X, Y, x, s, h => by
    obtain ⟨h1, h2⟩ := and2 h
    split at h2
    · exact msnd h1 snd_dnK
    · cases h2
  | .dnT, m, k, X, Y, x, s, h => by
    obtain ⟨h1, h2⟩ := and2 h
    split at h2
    · exact msnd h1 snd_dnT
    · cases h2
  | .fz e, m, k, X, Y, x, s, h => by
    obtain ⟨h1, h2⟩ := and2 h
    exact msnd h1 (snd_fz (E.snd e s h2))
  | .call f xs, m, k, X, Y, x, s, h => by
    obtain ⟨h1, h2⟩ := and2 h
    split at h2
    · obtain ⟨h2, h3⟩ := and2 h2
      split at h2
      · rename_i fn hf
        obtain ⟨e1, h2⟩ := and2 h2
        obtain ⟨e2, h2⟩ := and2 h2
        obtain ⟨e3, h2⟩ := and2 h2
        obtain ⟨e4, h2⟩ := and2 h2
        obtain ⟨e5, e6⟩ := and2 h2
        obtain ⟨f1, f2⟩ := fnBy_ok hf
        have e1 := of_decide_eq_true e1
        subst e1
        subst f2
        exact msnd h1 (snd_call s f1 (Option.isNone_iff_eq_none.mp e5) (Ar.snds xs s h3) e2 (by simpa [dbg] using e3) e4 (fit_ok e6 fun i hi => Ar.io_mods hi))
      · cases h2
    · cases h2
  | .call0 f, m, k, X, Y, x, s, h => by
    obtain ⟨h1, h2⟩ := and2 h
    split at h2
    · split at h2
      · rename_i fn hf
        obtain ⟨e1, h2⟩ := and2 h2
        obtain ⟨e2, h2⟩ := and2 h2
        obtain ⟨e3, h2⟩ := and2 h2
        obtain ⟨e5, h2⟩ := and2 h2
        obtain ⟨e6, h2⟩ := and2 h2
        obtain ⟨e7, e8⟩ := and2 h2
        obtain ⟨f1, f2⟩ := fnBy_ok hf
        have e1 := of_decide_eq_true e1
        subst e1
        subst f2
        exact msnd h1 (snd_call0 s f1 (Option.isNone_iff_eq_none.mp e8) e2 (by simpa [dbg] using e3) (of_decide_eq_true e6) (of_decide_eq_true e5) (of_decide_eq_true e7))
      · cases h2
    · cases h2
  | .srtK f o, m, k, X, Y, x, s, h => by
    obtain ⟨h1, h2⟩ := and2 h
    split at h2
    · obtain ⟨e1, h2⟩ := and2 h2
      obtain ⟨e2, h2⟩ := and2 h2
      obtain ⟨e3, h2⟩ := and2 h2
      obtain ⟨e4, h2⟩ := and2 h2
      obtain ⟨h2, h3⟩ := and2 h2
      split at h2
      · rename_i fn hf
        obtain ⟨g1, h2⟩ := and2 h2
        obtain ⟨g2, h2⟩ := and2 h2
        obtain ⟨g3, h2⟩ := and2 h2
        obtain ⟨g4, h2⟩ := and2 h2
        obtain ⟨g5, h2⟩ := and2 h2
        obtain ⟨g6, g7⟩ := and2 h2
        obtain ⟨f1, f2⟩ := fnBy_ok hf
        have e1 := of_decide_eq_true e1
        have e2 := of_decide_eq_true e2
        have g1 := of_decide_eq_true g1
        subst e1
        subst e2
        subst g1
        subst f2
        exact msnd h1 (snd_srtK s f1 (O.snd1 o s h3) e3 g2 (by simpa [dbg] using g3) e4 (of_decide_eq_true g4) (of_decide_eq_true g6) (Option.isNone_iff_eq_none.mp g7) (of_decide_eq_true g5))
      · cases h2
    · cases h2
  | .rng a b, m, k, X, Y, x, s, h => by
    obtain ⟨h1, h2⟩ := and2 h
    split at h2
    · obtain ⟨e1, h2⟩ := and2 h2
      obtain ⟨e2, h2⟩ := and2 h2
      obtain ⟨e3, h2⟩ := and2 h2
      obtain ⟨e4, h2⟩ := and2 h2
      obtain ⟨e5, h2⟩ := and2 h2
      obtain ⟨e6, h2⟩ := and2 h2
      obtain ⟨e7, e8⟩ := and2 h2
      have e1 := of_decide_eq_true e1
      have e2 := of_decide_eq_true e2
      subst e1
      subst e2
      exact msnd h1 (snd_rng s.ok e3 e4 e5 e6 (E.snd a (m := .v) s e7) (E.snd b (m := .v) s e8))
    · cases h2
  | .sl3 o a b, m, k, X, Y, x, s, h => by
    obtain ⟨h1, h2⟩ := and2 h
    split at h2
    · obtain ⟨e1, h2⟩ := and2 h2
      obtain ⟨e2, h2⟩ := and2 h2
      obtain ⟨e3, e4⟩ := and2 h2
      exact msnd h1 (snd_sl3 s.ok.K (O.snd1 o s e2) (E.snd a (m := .v) s e3) (E.snd b (m := .v) s e4) fun r q r1 e => O.simp_of e1 e)
    · cases h2
  | .ite d a b, m, k, X, Y, x, s, h => by
    obtain ⟨h1, h2⟩ := and2 h
    split at h2
    · obtain ⟨e1, h2⟩ := and2 h2
      obtain ⟨e2, e3⟩ := and2 h2
      exact msnd h1 (snd_ite (E.snd d (m := .t) s e1) (E.snd a (m := .v) s e2) (E.snd b (m := .v) s e3))
    · cases h2
  | .and a b, m, k, X, Y, x, s, h => by
    unfold E.chk at h
    split at h
    · split at h
      · obtain ⟨e1, h2⟩ := and2 h
        refine snd_and (E.snd a (m := .v) s e1) ?_
        split at h2
        · exact snd_one (E.snd b (m := .v) s h2)
        · exact E.snd b (m := .v) s h2
      · rename_i hm
        obtain ⟨e1, h2⟩ := and2 h
        refine MSnd.t' hm ?_
        show WSnd c X Y _ _ (fun r => (((a.sem Γ r).bind bool?).bind fun ((k, r1) : Bool × Env) => if k then b.sem Γ r1 else (Res.ok ((.fl (.bl false) : W), r1))).bind bool?)
        rw [and_sem]
        refine wsnd_and (sa := fun r => (a.sem Γ r).bind bool?) (sb := fun r => (b.sem Γ r).bind bool?) (E.snd a (m := .t) s e1) ?_
        split at h2
        · exact wsnd_one (.inl rfl) (E.snd b (m := .t) s h2)
        · exact E.snd b (m := .w) s h2
    · cases h
  | .or a b, m, k, X, Y, x, s, h => by
    unfold E.chk at h
    split at h
    · split at h
      · obtain ⟨e1, h2⟩ := and2 h
        refine snd_or (E.snd a (m := .v) s e1) ?_
        split at h2
        · exact snd_one (E.snd b (m := .v) s h2)
        · exact E.snd b (m := .v) s h2
      · rename_i hm
        obtain ⟨e1, h2⟩ := and2 h
        refine MSnd.t' hm ?_
        show WSnd c X Y _ _ (fun r => (((a.sem Γ r).bind bool?).bind fun ((k, r1) : Bool × Env) => if k then (Res.ok ((.fl (.bl true) : W), r1)) else b.sem Γ r1).bind bool?)
        rw [or_sem]
        refine wsnd_or (sa := fun r => (a.sem Γ r).bind bool?) (sb := fun r => (b.sem Γ r).bind bool?) (E.snd a (m := .t) s e1) ?_
        split at h2
        · exact wsnd_one (.inr rfl) (E.snd b (m := .t) s h2)
        · exact E.snd b (m := .w) s h2
    · cases h
  | .not a, m, k, X, Y, x, s, h => by
    unfold E.chk at h
    split at h
    · split at h
      · exact snd_not (E.snd a (m := .v) s h)
      · show TSnd c X Y _ _ (fun r => (((a.sem Γ r).bind bool?).bind fun ((k, r1) : Bool × Env) => (Res.ok ((.fl (.bl (!k)) : W), r1))).bind bool?)
        rw [not_sem]
        exact tsnd_not (E.snd a (m := .t) s h)
      · cases h
    · cases h
  | .chn o p a b d, m, k, X, Y, x, s, h => by
    obtain ⟨h1, h2⟩ := and2 h
    split at h2
    · obtain ⟨e1, h2⟩ := and2 h2
      obtain ⟨e2, h2⟩ := and2 h2
      obtain ⟨e3, h2⟩ := and2 h2
      obtain ⟨e4, h2⟩ := and2 h2
      obtain ⟨e5, h2⟩ := and2 h2
      obtain ⟨e6, e7⟩ := and2 h2
      obtain ⟨g, g1, g2⟩ := cmpO_ok (X := X) (of_decide_eq_true e1)
      obtain ⟨g', g3, g4⟩ := cmpO_ok (X := X) (of_decide_eq_true e2)
      exact msnd h1 (snd_chn g1 g3 g2 g4 (E.snd a (m := .v) s e5) (E.snd b (m := .v) s e6) (E.snd d (m := .v) s e7) e3 e4)
    · cases h2
  | .tru o, m, k, X, Y, x, s, h => by
    unfold E.chk at h
    split at h
    · obtain ⟨e1, e2⟩ := and2 h
      exact tsnd_tru s.ok.K (O.snd1 o s e2) e1
    · cases h
  | .inG neg e y zs, m, k, X, Y, x, s, h => by
    obtain ⟨h1, h2⟩ := and2 h
    split at h2
    · obtain ⟨e1, h2⟩ := and2 h2
      obtain ⟨e2, h2⟩ := and2 h2
      obtain ⟨e3, h2⟩ := and2 h2
      obtain ⟨e4, h2⟩ := and2 h2
      obtain ⟨e5, e6⟩ := and2 h2
      have e1 := of_decide_eq_true e1
      have e2 := of_decide_eq_true e2
      subst e1
      subst e2
      exact msnd h1 (snd_inG s (E.snd e (m := .v) s e6) (List.contains_iff_mem.mp e3) e4 (by simpa [dbg] using e5))
    · cases h2
  | .meth ci mn f (.io i :: xs), m, k, X, Y, x, s, h => by
    obtain ⟨h1, h2⟩ := and2 h
    split at h2
    · obtain ⟨e1, h2⟩ := and2 h2
      obtain ⟨h3, h2⟩ := and2 h2
      obtain ⟨e2, h2⟩ := and2 h2
      obtain ⟨e3, h2⟩ := and2 h2
      obtain ⟨e4, h2⟩ := and2 h2
      obtain ⟨e5, e6⟩ := and2 h2
      split at h3
      · rename_i fn hf
        obtain ⟨g1, h3⟩ := and2 h3
        obtain ⟨g2, g3⟩ := and2 h3
        obtain ⟨f1, f2⟩ := fnBy_ok hf
        have e1 := of_decide_eq_true e1
        have g1 := of_decide_eq_true g1
        subst e1
        subst g1
        subst f2
        exact msnd h1 (snd_methIo s f1 (of_decide_eq_true g2) e2 (Ar.snds xs s e6) e3 (of_decide_eq_true e4) e5 (fit_ok (xs := .io i :: xs) g3 fun j hj => Ar.io_mods (xs := .io i :: xs) hj))
      · cases h3
    · cases h2
  | .meth ci mn f (.ro i :: xs), m, k, X, Y, x, s, h => by
    obtain ⟨h1, h2⟩ := and2 h
    split at h2
    · obtain ⟨e1, h2⟩ := and2 h2
      obtain ⟨h3, h2⟩ := and2 h2
      obtain ⟨e2, h2⟩ := and2 h2
      obtain ⟨e3, h2⟩ := and2 h2
      obtain ⟨e4, h2⟩ := and2 h2
      obtain ⟨e5, h2⟩ := and2 h2
      obtain ⟨e7, e6⟩ := and2 h2
      split at h3
      · rename_i fn hf
        obtain ⟨g1, h3⟩ := and2 h3
        obtain ⟨g2, g3⟩ := and2 h3
        obtain ⟨f1, f2⟩ := fnBy_ok hf
        have e1 := of_decide_eq_true e1
        have g1 := of_decide_eq_true g1
        subst e1
        subst g1
        subst f2
        exact msnd h1 (snd_methRo s f1 (of_decide_eq_true g2) e2 (Ar.snds xs s e6) e3 (of_decide_eq_true e4) e5 (fun w => noC w e7) (fit_ok (xs := .ro i :: xs) g3 fun j hj => Ar.io_mods (xs := .ro i :: xs) hj))
      · cases h3
    · cases h2
  | .meth ci mn f [], m, k, X, Y, x, s, h => by cases h
  | .meth ci mn f (.va e :: xs), m, k, X, Y, x, s, h => by cases h
  | .new ci f es, m, k, X, Y, x, s, h => by
    obtain ⟨h1, h2⟩ := and2 h
    split at h2
    · obtain ⟨h3, h2⟩ := and2 h2
      obtain ⟨e1, h2⟩ := and2 h2
      obtain ⟨e2, h2⟩ := and2 h2
      obtain ⟨e3, e4⟩ := and2 h2
      split at h3
      · rename_i q hq
        obtain ⟨g1, h3⟩ := and2 h3
        obtain ⟨g2, h3⟩ := and2 h3
        split at h3
        · rename_i fn hf
          obtain ⟨g3, h3⟩ := and2 h3
          obtain ⟨g4, h3⟩ := and2 h3
          obtain ⟨g5, h3⟩ := and2 h3
          obtain ⟨g6, g7⟩ := and2 h3
          obtain ⟨f1, f2⟩ := fnBy_ok hf
          obtain ⟨q1, q2⟩ := clsBy_ok hq
          have g1 := of_decide_eq_true g1
          subst g1
          subst f2
          subst q2
          exact msnd h1 (snd_new s f1 q1 g2 (of_decide_eq_true g4) (of_decide_eq_true g3) (of_decide_eq_true g5) (of_decide_eq_true g6) (E.snds es s e4) (of_decide_eq_true g7) (fun r ws r1 e => by rw [E.sems_len e, E.chks_len e4]) e1 e2 (by simpa [dbg] using e3))
        · cases h3
      · cases h3
    · cases h2
  | .popv p, m, k, X, Y, x, s, h => by
    obtain ⟨h1, h2⟩ := and2 h
    split at h2
    · obtain ⟨e1, h2⟩ := and2 h2
      obtain ⟨e2, h2⟩ := and2 h2
      obtain ⟨e3, e4⟩ := and2 h2
      have e1 := of_decide_eq_true e1
      subst e1
      exact msnd h1 (snd_popv (Pl.snd p s e4) e2 e3 fun r q r1 e => Pl.root_of e)
    · cases h2
  | .popk p i, m, k, X, Y, x, s, h => by
    obtain ⟨h1, h2⟩ := and2 h
    split at h2
    · obtain ⟨e1, h2⟩ := and2 h2
      obtain ⟨e2, h2⟩ := and2 h2
      obtain ⟨e3, h2⟩ := and2 h2
      obtain ⟨e4, h2⟩ := and2 h2
      obtain ⟨e5, h2⟩ := and2 h2
      obtain ⟨e6, e7⟩ := and2 h2
      have e1 := of_decide_eq_true e1
      subst e1
      exact msnd h1 (snd_popk (Pl.snd p s e6) (E.snd i (m := .v) s e7) (m1_ok e3 e2 e4) (Pl.stab_of e5) fun r q r1 e => Pl.root_of e)
    · cases h2
  | .rngD es, m, k, X, Y, x, s, h => by
    obtain ⟨h1, h2⟩ := and2 h
    split at h2
    · obtain ⟨e1, h2⟩ := and2 h2
      obtain ⟨e2, h2⟩ := and2 h2
      obtain ⟨e3, h2⟩ := and2 h2
      obtain ⟨e4, h2⟩ := and2 h2
      obtain ⟨e5, e6⟩ := and2 h2
      have e1 := of_decide_eq_true e1
      have e2 := of_decide_eq_true e2
      subst e1
      subst e2
      exact msnd h1 (snd_rngD s.ok e3 e4 e5 (E.snds es s e6))
    · cases h2
  | .kyT a b, m, k, X, Y, x, s, h => by cases h
  | .rdl i, m, k, X, Y, x, s, h => by cases h
  | .getd p a b, m, k, X, Y, x, s, h => by cases h
  | .wlk q e, m, k, X, Y, x, s, h => by cases h
  | .lc own g it none e, m, k, X, Y, x, s, h => by
    unfold E.chk at h
    unfold E.mods
    rw [lc_none]
    obtain ⟨h1, h2⟩ := and2 h
    refine msnd h1 ?_
    split at h2
    · obtain ⟨e1, h2⟩ := and2 h2
      obtain ⟨e2, h2⟩ := and2 h2
      obtain ⟨e3, h2⟩ := and2 h2
      obtain ⟨e4, h2⟩ := and2 h2
      obtain ⟨e5, h2⟩ := and2 h2
      obtain ⟨e6, h2⟩ := and2 h2
      obtain ⟨e7, e8⟩ := and2 h2
      have e9 := List.isEmpty_iff.mp e8
      subst e9
      have hsl : ∀ i ∈ g.slots, i ∈ own.map (·.2) := fun i hi => List.contains_iff_mem.mp (List.all_eq_true.mp e3 i hi)
      refine snd_lc (Mt := []) s e1 e2 hsl (It.snd it s e5) itst_nil (fun X' hX => E.snd e (m := .v) (blk_xs s hX) e6) (fun i hi => ?_) e4
      have z := List.all_eq_true.mp e7 i hi
      obtain ⟨z1, z2⟩ := and2 z
      obtain ⟨z2, z3⟩ := and2 z2
      exact ⟨fun w => noC w z1, by simp, fun w => noC w z3⟩
    · cases h2
  | .lc own g it (some d) e, m, k, X, Y, x, s, h => by
    unfold E.chk at h
    unfold E.mods
    rw [lc_some]
    obtain ⟨h1, h2⟩ := and2 h
    refine msnd h1 ?_
    split at h2
    · obtain ⟨e1, h2⟩ := and2 h2
      obtain ⟨e2, h2⟩ := and2 h2
      obtain ⟨e3, h2⟩ := and2 h2
      obtain ⟨e4, h2⟩ := and2 h2
      obtain ⟨e5, h2⟩ := and2 h2
      obtain ⟨e6, h2⟩ := and2 h2
      obtain ⟨e7, e8⟩ := and2 h2
      have hsl : ∀ i ∈ g.slots, i ∈ own.map (·.2) := fun i hi => List.contains_iff_mem.mp (List.all_eq_true.mp e3 i hi)
      dsimp only at e8
      split at e8
      · refine snd_lc (Mt := d.mods) s e1 e2 hsl (It.snd it s e5) (itst_one fun X' hX => E.snd d (m := .t) (blk_xs s hX) e8) (fun X' hX => E.snd e (m := .v) (blk_xs s hX) e6) (fun i hi => ?_) e4
        have z := List.all_eq_true.mp e7 i hi
        obtain ⟨z1, z2⟩ := and2 z
        obtain ⟨z2, z3⟩ := and2 z2
        exact ⟨fun w => noC w z1, fun w => noC w z2, fun w => noC w z3⟩
      · cases e8
    · cases h2
theorem E.snds : ∀ (es : List E) {k : Ck} {X : Cx} {Y : WX} {xs : List Expr}, XS c Γ k X Y → E.chks es k xs = true → LSnd c X Y xs (E.modsL es) (E.sems Γ es)
  | [], k, X, Y, xs, s, h => by
    cases xs with
    | nil => exact lsnd_nil
    | cons x xs => cases h
  | e :: es, k, X, Y, xs, s, h => by
    cases xs with
    | nil => cases h
    | cons x xs =>
      obtain ⟨h1, h2⟩ := and2 h
      exact lsnd_cons (E.snd e (m := .v) s h1) (E.snds es s h2)
theorem O.snd1 : ∀ (o : O) {k : Ck} {X : Cx} {Y : WX} {x : Expr}, XS c Γ k X Y → o.chk k x = true → O1Snd c X Y x o.mods (o.sem Γ)
  | .tm e, k, X, Y, x, s, h => o1_t (E.snd e (m := .v) s h)
  | .bo p, k, X, Y, x, s, h => o1_p (Pl.snd p s h)
theorem O.snds : ∀ (os : List O) {k : Ck} {X : Cx} {Y : WX} {xs : List Expr}, XS c Γ k X Y → O.chks os k xs = true → OLSnd c X Y xs (O.modsL os) (O.sems Γ os)
  | [], k, X, Y, xs, s, h => by
    cases xs with
    | nil => exact olsnd_nil
    | cons x xs => cases h
  | .tm e :: os, k, X, Y, xs, s, h => by
    cases xs with
    | nil => cases h
    | cons x xs =>
      obtain ⟨h1, h2⟩ := and2 h
      obtain ⟨_, h3⟩ := and2 h1
      exact olsnd_t (E.snd e (m := .v) s h3) (O.snds os s h2)
  | .bo p :: os, k, X, Y, xs, s, h => by
    cases xs with
    | nil => cases h
    | cons x xs =>
      obtain ⟨h1, h2⟩ := and2 h
      obtain ⟨h4, h3⟩ := and2 h1
      exact olsnd_p (Pl.snd p s h3) (O.snds os s h2) (Pl.stab_of h4)
theorem Ar.snds : ∀ (es : List Ar) {k : Ck} {X : Cx} {Y : WX} {xs : List Expr}, XS c Γ k X Y → Ar.chks es k xs = true → ASnd c X Y xs (Ar.modsL es) (Ar.sems Γ es) (es.map Ar.kind)
  | [], k, X, Y, xs, s, h => by
    cases xs with
    | nil => exact asnd_nil
    | cons x xs => cases h
  | .va e :: os, k, X, Y, xs, s, h => by
    cases xs with
    | nil => cases h
    | cons x xs =>
      obtain ⟨h1, h2⟩ := and2 h
      exact asnd_va (E.snd e (m := .v) s h1) (Ar.snds os s h2)
  | .io i :: os, k, X, Y, xs, s, h => by
    cases xs with
    | nil => cases h
    | cons x xs =>
      obtain ⟨h1, h2⟩ := and2 h
      split at h1
      · exact asnd_io s.ok h1 (Ar.snds os s h2)
      · cases h1
  | .ro i :: os, k, X, Y, xs, s, h => by
    cases xs with
    | nil => cases h
    | cons x xs =>
      obtain ⟨h1, h2⟩ := and2 h
      split at h1
      · obtain ⟨h3, h4⟩ := and2 h1
        exact asnd_ro s.ok h3 (Ar.snds os s h2) fun w => noC w h4
      · cases h1
theorem Pl.snd : ∀ (p : Pl) {k : Ck} {X : Cx} {Y : WX} {x : Expr}, XS c Γ k X Y → p.chk k x = true → PSnd c X Y x p.mods (p.sem Γ)
  | .sl i, k, X, Y, x, s, h => by
    unfold Pl.chk at h
    split at h
    · exact psnd_sl s.ok h
    · cases h
  | .ix p e, k, X, Y, x, s, h => by
    unfold Pl.chk at h
    split at h
    · obtain ⟨h1, h⟩ := and2 h
      obtain ⟨h2, h⟩ := and2 h
      obtain ⟨h3, h4⟩ := and2 h
      exact psnd_ix (Pl.snd p s h3) (E.snd e (m := .v) s h4) s.ok.K h1 (Pl.stab_of h2)
    · cases h
  | .ky p e, k, X, Y, x, s, h => by
    unfold Pl.chk at h
    split at h
    · obtain ⟨h1, h⟩ := and2 h
      obtain ⟨h2, h⟩ := and2 h
      obtain ⟨h3, h4⟩ := and2 h
      exact psnd_ky (Pl.snd p s h3) (E.snd e (m := .v) s h4) s.ok h1 (Pl.stab_of h2)
    · cases h
  | .fd p ci f, k, X, Y, x, s, h => by
    unfold Pl.chk at h
    split at h
    · obtain ⟨h1, h⟩ := and2 h
      obtain ⟨h2, h⟩ := and2 h
      obtain ⟨h3, h4⟩ := and2 h
      have h1 := of_decide_eq_true h1
      subst h1
      exact psnd_fd (Pl.snd p s h4) s h2 h3
    · cases h
theorem It.snd : ∀ (i : It) {k : Ck} {X : Cx} {Y : WX} {tg x : Expr}, XS c Γ k X Y → i.chk k tg x = true → ISnd c X Y tg x i.mods i.roots (i.sem Γ)
  | .sq o, k, X, Y, tg, x, s, h => isnd_sq s.ok.K (O.snd1 o s h) fun r v r1 e => O.root_of e
  | .ks o, k, X, Y, tg, x, s, h => isnd_ks (O.snd1 o s h) fun r v r1 e => O.root_of e
  | .tq o, k, X, Y, tg, x, s, h => isnd_tq s.ok.K (O.snd1 o s h) fun r v r1 e => O.root_of e
  | .r1 e, k, X, Y, tg, x, s, h => by
    unfold It.chk at h
    split at h
    · obtain ⟨h1, h⟩ := and2 h
      obtain ⟨h2, h⟩ := and2 h
      obtain ⟨h3, h4⟩ := and2 h
      have h1 := of_decide_eq_true h1
      subst h1
      exact isnd_r1 s.ok h2 h3 (E.snd e (m := .v) s h4)
    · cases h
  | .r2 a b, k, X, Y, tg, x, s, h => by
    unfold It.chk at h
    split at h
    · obtain ⟨h1, h⟩ := and2 h
      obtain ⟨h2, h⟩ := and2 h
      obtain ⟨h3, h⟩ := and2 h
      obtain ⟨h4, h⟩ := and2 h
      obtain ⟨h5, h6⟩ := and2 h
      have h1 := of_decide_eq_true h1
      subst h1
      exact isnd_r2 s.ok h2 h3 h4 (E.snd a (m := .v) s h5) (E.snd b (m := .v) s h6)
    · cases h
  | .zp a b, k, X, Y, tg, x, s, h => by
    unfold It.chk at h
    split at h
    · split at h
      · obtain ⟨h1, h⟩ := and2 h
        obtain ⟨h2, h⟩ := and2 h
        obtain ⟨h3, h⟩ := and2 h
        obtain ⟨h4, h⟩ := and2 h
        obtain ⟨h7, h⟩ := and2 h
        obtain ⟨h5, h6⟩ := and2 h
        have h1 := of_decide_eq_true h1
        subst h1
        have hb : ∀ z, b.chk k z = true → OLSnd c X Y [z] (b.mods ++ []) (fun r => (b.sem Γ r).bind fun (u, r2) => (Res.ok (([] : List Rv), r2)).bind fun (vs, r3) => Res.ok (u :: vs, r3)) := fun z h6 => by
          cases b with
          | tm e => exact olsnd_t (E.snd e (m := .v) s h6) olsnd_nil
          | bo p => exact olsnd_p (Pl.snd p s h6) olsnd_nil fun _ _ _ _ => .inr (by simp)
        have ha : ∀ y z, a.chk k y = true → b.chk k z = true → OLSnd c X Y [y, z] (a.mods ++ (b.mods ++ [])) (sem2 (a.sem Γ) (b.sem Γ)) := fun y z h5 h6 => by
          cases a with
          | tm e => exact olsnd_t (E.snd e (m := .v) s h5) (hb z h6)
          | bo p => exact olsnd_p (Pl.snd p s h5) (hb z h6) (Pl.stab_of h7)
        exact isnd_zp (Md := []) s.ok h2 h3 h4 (ha _ _ h5 h6) (fun r v r1 e i hi => List.mem_append_left _ (O.root_of e i hi)) fun r v r1 e i hi => List.mem_append_right _ (O.root_of e i hi)
      · cases h
    · cases h
  | .en a, k, X, Y, tg, x, s, h => by
    unfold It.chk at h
    split at h
    · split at h
      · obtain ⟨h1, h⟩ := and2 h
        obtain ⟨h2, h⟩ := and2 h
        obtain ⟨h3, h4⟩ := and2 h
        have h1 := of_decide_eq_true h1
        subst h1
        exact isnd_en s.ok h2 h3 (O.snd1 a s h4) fun r v r1 e => O.root_of e
      · cases h
    · cases h
  | .st o, k, X, Y, tg, x, s, h => isnd_st (O.snd1 o s h)
  | .zs a b, k, X, Y, tg, x, s, h => by
    unfold It.chk at h
    split at h
    · split at h
      · obtain ⟨h1, h⟩ := and2 h
        obtain ⟨h2, h⟩ := and2 h
        obtain ⟨h3, h⟩ := and2 h
        obtain ⟨h4, h⟩ := and2 h
        obtain ⟨h5, h⟩ := and2 h
        obtain ⟨h6, h7⟩ := and2 h
        have h1 := of_decide_eq_true h1
        subst h1
        exact isnd_zs s.ok h2 h3 h4 (O.snd1 a s h6) (O.snd1 b s h7) (fun r v r1 e => O.root_of e) fun r q r1 e => O.simp_of h5 e
      · cases h
    · cases h
end
end
end Vx
end

section
set_option maxHeartbeats 4000000
/-! Vx 19: statements, form by form. -/
namespace Vx
open PySem L2
section
variable {c : Gx} {Γ : Den} {k : Ck} {X : Cx} {Y : WX} {n : En} {σ σ1 σ2 : St} {as as1 as2 : Sl} {B H B1 H1 B2 H2 : Hp} {T T1 T2 : List A} {M N Ws : List Nat} {D : Ends}
/-- a statement's step: it touches the slots M, binds the names Ws -/
structure Sx (c : Gx) (n : En) (M Ws : List Nat) (σ : St) (as : Sl) (B : Hp) (σ2 : St) (as2 : Sl) (T2 : List A) (B2 H2 : Hp) : Prop where
  sb : Same B B2
  gd : G c n B2 H2 (live as2 ++ T2)
  sr : SR σ2 as2
  fr : ∀ i, i ∉ M → as2[i]? = as[i]?
  sig : ∀ i, i ∉ Ws → σ2[i]? = σ[i]?
  ln : σ2.length = σ.length
theorem Sx.refl (g : G c n B H (live as ++ T)) (s : SR σ as) : Sx c n M Ws σ as B σ as T B H := ⟨Same.refl _, g, s, fun _ _ => rfl, fun _ _ => rfl, rfl⟩
theorem Sx.trans (a : Sx c n M Ws σ as B σ1 as1 T1 B1 H1) (b : Sx c n M Ws σ1 as1 B1 σ2 as2 T2 B2 H2) : Sx c n M Ws σ as B σ2 as2 T2 B2 H2 :=
  ⟨a.sb.trans b.sb, b.gd, b.sr, fun i h => (b.fr i h).trans (a.fr i h), fun i h => (b.sig i h).trans (a.sig i h), b.ln.trans a.ln⟩
theorem Sx.mono {M' Ws' : List Nat} (a : Sx c n M Ws σ as B σ1 as1 T1 B1 H1) (h1 : ∀ i ∈ M, i ∈ M') (h2 : ∀ i ∈ Ws, i ∈ Ws') : Sx c n M' Ws' σ as B σ1 as1 T1 B1 H1 :=
  ⟨a.sb, a.gd, a.sr, fun i h => a.fr i fun z => h (h1 i z), fun i h => a.sig i fun z => h (h2 i z), a.ln⟩
theorem Nx.sx (x : Nx c n σ M as B as1 T1 B1 H1) : Sx c n M Ws σ as B σ as1 T1 B1 H1 := ⟨x.sb, x.gd, x.sr, x.fr, fun _ _ => rfl, rfl⟩
/-- what a statement's run leads to -/
def OK (c : Gx) (n : En) (Y : WX) (D : Ends) (M Ws : List Nat) (σ : St) (as : Sl) (B : Hp) (T : List A) : Out → Prop
  | .nx r => ∀ σ2 as2 B2 H2, Sx c n M Ws σ as B σ2 as2 T B2 H2 → ers as2 = r → D.nx σ2 H2
  | .bk r => ∀ σ2 as2 B2 H2, Sx c n M Ws σ as B σ2 as2 T B2 H2 → ers as2 = r → D.bk σ2 H2
  | .ct r => ∀ σ2 as2 B2 H2, Sx c n M Ws σ as B σ2 as2 T B2 H2 → ers as2 = r → D.ct σ2 H2
  | .rt w r => ∀ σ2 as2 x B2 H2, Sx c n M Ws σ as B σ2 as2 (x :: T) B2 H2 → x.er = w → ers as2 = r → D.rt x.val H2
  | .ex cl _ r => ∀ M2 σ2 as2 T2 B2 H2, Sx c n M2 Ws σ as B σ2 as2 T2 B2 H2 → ers as2 = r → Y (.ref (c.cls cl)) none σ2 H2
  | .bad => False
theorem OK.mono {M' Ws' : List Nat} (h1 : ∀ i ∈ M, i ∈ M') (h2 : ∀ i ∈ Ws, i ∈ Ws') : ∀ {o : Out}, OK c n Y D M' Ws' σ as B T o → OK c n Y D M Ws σ as B T o
  | .nx r, h => fun σ2 as2 B2 H2 x e => h σ2 as2 B2 H2 (x.mono h1 h2) e
  | .bk r, h => fun σ2 as2 B2 H2 x e => h σ2 as2 B2 H2 (x.mono h1 h2) e
  | .ct r, h => fun σ2 as2 B2 H2 x e => h σ2 as2 B2 H2 (x.mono h1 h2) e
  | .rt w r, h => fun σ2 as2 y B2 H2 x e1 e2 => h σ2 as2 y B2 H2 (x.mono h1 h2) e1 e2
  | .ex cl p r, h => fun M2 σ2 as2 T2 B2 H2 x e => h M2 σ2 as2 T2 B2 H2 (x.mono (fun _ z => z) h2) e
  | .bad, h => h
theorem OK.step (a : Sx c n M Ws σ as B σ1 as1 T1 B1 H1) : ∀ {o : Out}, OK c n Y D M Ws σ as B T o → OK c n Y D M Ws σ1 as1 B1 T o
  | .nx r, h => fun σ2 as2 B2 H2 x e => h σ2 as2 B2 H2 (a.trans x) e
  | .bk r, h => fun σ2 as2 B2 H2 x e => h σ2 as2 B2 H2 (a.trans x) e
  | .ct r, h => fun σ2 as2 B2 H2 x e => h σ2 as2 B2 H2 (a.trans x) e
  | .rt w r, h => fun σ2 as2 y B2 H2 x e1 e2 => h σ2 as2 y B2 H2 (a.trans x) e1 e2
  | .ex cl p r, h => fun M2 σ2 as2 T2 B2 H2 x e => h (M ++ M2) σ2 as2 T2 B2 H2 ((a.mono (fun i z => List.mem_append_left _ z) (fun _ z => z)).trans (x.mono (fun i z => List.mem_append_right _ z) fun _ z => z)) e
  | .bad, h => h
/-- other ends, that follow -/
theorem OK.ends {D' : Ends} (h1 : ∀ r, OK c n Y D M Ws σ as B T (.nx r) → OK c n Y D' M Ws σ as B T (.nx r)) : True := trivial
theorem OK.out {α : Type} {x : Res α} {f : α → Out} (h : OK c n Y D M Ws σ as B T (x.out f)) : Kn x (fun a => OK c n Y D M Ws σ as B T (f a)) (KX c n σ as B Y) := by
  cases x with
  | ok a => exact h
  | bad => exact h
  | ex cl p r => exact fun as1 B1 H1 T1 M1 x e => h M1 σ as1 T1 B1 H1 x.sx e
def SSnd (c : Gx) (X : Cx) (Y : WX) (st : Stmt) (M Ws : List Nat) (sem : Env → Out) : Prop :=
  ∃ t, PS X st t ∧ ∀ (n : En) (σ : St) (as : Sl) (B H : Hp) (T : List A) (D : Ends), G c n B H (live as ++ T) → SR σ as → OK c n Y D M Ws σ as B T (sem (ers as)) → t D σ H
def SSnds (c : Gx) (X : Cx) (Y : WX) (st : List Stmt) (M Ws : List Nat) (sem : Env → Out) : Prop :=
  ∃ t, PSs X st t ∧ ∀ (n : En) (σ : St) (as : Sl) (B H : Hp) (T : List A) (D : Ends), G c n B H (live as ++ T) → SR σ as → OK c n Y D M Ws σ as B T (sem (ers as)) → t D σ H
theorem SSnd.mono {st : Stmt} {sem : Env → Out} {M' Ws' : List Nat} (h : SSnd c X Y st M Ws sem) (h1 : ∀ i ∈ M, i ∈ M') (h2 : ∀ i ∈ Ws, i ∈ Ws') : SSnd c X Y st M' Ws' sem := by
  obtain ⟨t, p, q⟩ := h
  exact ⟨t, p, fun n σ as B H T D g s ok => q n σ as B H T D g s (ok.mono h1 h2)⟩
theorem ssnds_nil : SSnds c X Y [] [] [] .nx := ⟨tNext, pss_nil, fun n σ as B H T D g s ok => by
  have ok' : ∀ σ2 as2 B2 H2, Sx c n [] [] σ as B σ2 as2 T B2 H2 → ers as2 = ers as → D.nx σ2 H2 := ok
  exact ok' σ as B H (Sx.refl g s) rfl⟩
theorem ssnds_cons {st : Stmt} {rest : List Stmt} {M1 M2 W1 W2 : List Nat} {s1 s2 : Env → Out} (h1 : SSnd c X Y st M1 W1 s1) (h2 : SSnds c X Y rest M2 W2 s2) : SSnds c X Y (st :: rest) (M1 ++ M2) (W1 ++ W2) (fun r => (s1 r).andThen s2) := by
  obtain ⟨t, p, q⟩ := h1
  obtain ⟨u, p2, q2⟩ := h2
  refine ⟨tSeq t u, pss_cons p p2, fun n σ as B H T D g s ok => q n σ as B H T _ g s ?_⟩
  dsimp only at ok
  have l1 : ∀ i ∈ M1, i ∈ M1 ++ M2 := fun i => List.mem_append_left _
  have l2 : ∀ i ∈ W1, i ∈ W1 ++ W2 := fun i => List.mem_append_left _
  have l3 : ∀ i ∈ M2, i ∈ M1 ++ M2 := fun i => List.mem_append_right _
  have l4 : ∀ i ∈ W2, i ∈ W1 ++ W2 := fun i => List.mem_append_right _
  cases e : s1 (ers as) with
  | nx r =>
    rw [e] at ok
    intro σ2 as2 B2 H2 x er
    have x' := x.mono l1 l2
    subst er
    exact q2 n σ2 as2 B2 H2 T D x.gd x.sr ((OK.step x' ok).mono l3 l4)
  | bk r =>
    rw [e] at ok
    exact fun σ2 as2 B2 H2 x er => ok σ2 as2 B2 H2 (x.mono l1 l2) er
  | ct r =>
    rw [e] at ok
    exact fun σ2 as2 B2 H2 x er => ok σ2 as2 B2 H2 (x.mono l1 l2) er
  | rt w r =>
    rw [e] at ok
    exact fun σ2 as2 y B2 H2 x ey er => ok σ2 as2 y B2 H2 (x.mono l1 l2) ey er
  | ex cl p r =>
    rw [e] at ok
    exact fun M2 σ2 as2 T2 B2 H2 x er => ok M2 σ2 as2 T2 B2 H2 (x.mono (fun _ z => z) l2) er
  | bad =>
    rw [e] at ok
    exact ok
/-! ### small statements -/
theorem ssnd_pass {pos : Pos} : SSnd c X Y (.Pass pos) [] [] .nx := ⟨tNext, ps_pass, fun n σ as B H T D g s ok => (show ∀ σ2 as2 B2 H2, Sx c n [] [] σ as B σ2 as2 T B2 H2 → ers as2 = ers as → D.nx σ2 H2 from ok) σ as B H (Sx.refl g s) rfl⟩
theorem ssnd_brk {pos : Pos} : SSnd c X Y (.Break pos) [] [] .bk := ⟨tBreak, ps_break, fun n σ as B H T D g s ok => (show ∀ σ2 as2 B2 H2, Sx c n [] [] σ as B σ2 as2 T B2 H2 → ers as2 = ers as → D.bk σ2 H2 from ok) σ as B H (Sx.refl g s) rfl⟩
theorem ssnd_cnt {pos : Pos} : SSnd c X Y (.Continue pos) [] [] .ct := ⟨tCont, ps_continue, fun n σ as B H T D g s ok => (show ∀ σ2 as2 B2 H2, Sx c n [] [] σ as B σ2 as2 T B2 H2 → ers as2 = ers as → D.ct σ2 H2 from ok) σ as B H (Sx.refl g s) rfl⟩
theorem ssnd_retN {pos : Pos} : SSnd c X Y (.Return none pos) [] [] (fun r => .rt (.fl .non) r) := ⟨tRetN, ps_retN, fun n σ as B H T D g s ok => by
  have ok' : ∀ σ2 as2 x B2 H2, Sx c n [] [] σ as B σ2 as2 (x :: T) B2 H2 → x.er = .fl .non → ers as2 = ers as → D.rt x.val H2 := ok
  exact ok' σ as (.fl .non .non) B H ((Nx.refl g s).add (v := .non) (d := .non) rfl).sx rfl rfl⟩
theorem ssnd_ret {e : Expr} {se : Sm W} {pos : Pos} (he : ESnd c X Y e M se) : SSnd c X Y (.Return (some e) pos) M [] (fun r => (se r).out fun (w, r1) => .rt w r1) := by
  obtain ⟨t, pe, _, ke⟩ := he
  refine ⟨tRet t, ps_ret pe, fun n σ as B H T D g s ok => ke n σ as B H T _ g s (Kn.mono (OK.out ok) ?_ fun _ _ z => z)⟩
  rintro ⟨w, r1⟩ ea h as1 x B1 H1 x1 (ex : x.er = w) (rfl : ers as1 = r1)
  exact h σ as1 x B1 H1 x1.sx ex rfl
theorem ssnd_ex {e : Expr} {se : Sm W} {pos : Pos} (he : ESnd c X Y e M se) (ok : okE e = true) (nl : noLc e = true) : SSnd c X Y (.Expr e pos) M [] (fun r => (se r).out fun (_, r1) => .nx r1) := by
  obtain ⟨t, pe, _, ke⟩ := he
  refine ⟨tDrop t, ps_expr pe (sw_ok ok nl), fun n σ as B H T D g s ok => ke n σ as B H T _ g s (Kn.mono (OK.out ok) ?_ fun _ _ z => z)⟩
  rintro ⟨w, r1⟩ ea h as1 x B1 H1 x1 (ex : x.er = w) (rfl : ers as1 = r1)
  exact h σ as1 B1 H1 x1.dropT.sx rfl
def locB (k : Ck) (i : Nat) (y : Str) : Bool := decide (k.N[i]? = some y) && (decide (k.sc.names.lookup y = some .local) || (k.cel y && decide (k.sc.names.lookup y = some .cell)))
theorem loc_of (x : XOk c k X) {i : Nat} {y : Str} (h : locB k i y = true) : X.N[i]? = some y ∧ Loc X.env.scope y ∧ (X.fn y = true ∨ X.env.scope.names.lookup y = some .local) := by
  obtain ⟨h1, h2⟩ := and2 h
  refine ⟨by rw [x.hN]; exact of_decide_eq_true h1, ?_⟩
  rcases Bool.or_eq_true_iff.mp h2 with h2 | h2
  · have hl : X.env.scope.names.lookup y = some .local := by rw [x.sc]; exact of_decide_eq_true h2
    exact ⟨.inl hl, .inr hl⟩
  · obtain ⟨h3, h4⟩ := and2 h2
    exact ⟨.inr (by rw [x.sc]; exact of_decide_eq_true h4), .inl (x.cel y h3)⟩
/-- a slot is bound -/
theorem Sx.bindS {i : Nat} {x : A} (x1 : Nx c n σ M as B as1 (x :: T) B1 H1) (hi : i < (ers as1).length) : Sx c n (M ++ [i]) [i] σ as B (σ.set i (some x.val)) (as1.set i (some x)) T B1 H1 := by
  rw [ers_len] at hi
  refine ⟨x1.sb, (x1.gd.forget (i := i)).give hi, x1.sr.put, fun j hj => ?_, fun j hj => ?_, List.length_set⟩
  · rw [List.getElem?_set_ne fun z => hj (by rw [z]; exact List.mem_append_right _ List.mem_cons_self)]
    exact x1.fr j fun z => hj (List.mem_append_left _ z)
  · exact List.getElem?_set_ne fun z => hj (by rw [z]; exact List.mem_cons_self)
theorem asg_core {i : Nat} {t : TE} {se : Sm W} (ke : LcK c X Y t M se) {n : En} {σ : St} {as : Sl} {B H : Hp} {T : List A} {D : Ends} (g : G c n B H (live as ++ T)) (s : SR σ as)
    (ok : OK c n Y D (M ++ [i]) [i] σ as B T ((se (ers as)).out fun (w, r1) => if i < r1.length then .nx (r1.set i (some w)) else .bad)) : tAsg t (gName i) D σ H := by
  refine ke n σ as B H T _ g s (Kn.mono (OK.out ok) ?_ fun _ _ z => z)
  rintro ⟨w, r1⟩ ea h as1 x B1 H1 x1 (ex : x.er = w) (rfl : ers as1 = r1)
  dsimp only at h
  split at h
  · rename_i hi
    exact h (σ.set i (some x.val)) (as1.set i (some x)) B1 H1 (Sx.bindS x1 hi) (by rw [ers_set, ← ex]; rfl)
  · exact h.elim
theorem ssnd_asg (x : XOk c k X) {i : Nat} {y : Str} {e : Expr} {se : Sm W} {p pos : Pos} (hl : locB k i y = true) (he : ESnd c X Y e M se) (ok : okE e = true) (nl : noLc e = true) :
    SSnd c X Y (.Assign [.Name y p] e pos) (M ++ [i]) [i] (fun r => (se r).out fun (w, r1) => if i < r1.length then .nx (r1.set i (some w)) else .bad) := by
  obtain ⟨t, pe, _, ke⟩ := he
  obtain ⟨l1, l2, l3⟩ := loc_of x hl
  exact ⟨_, ps_set (i := i) (by rw [x.hN]; exact x.nd) l1 l2 pe (sw_ok ok nl) l3, fun n σ as B H T D g s ok => asg_core (X := X) ke g s ok⟩
theorem pg_all (x : XOk c k X) {t : Tg} {e : Expr} (h : t.chk k e = true) : PG X e (t.tg c.K) := tg_ok x h
theorem swap_tup {es : List Expr} {kk : Nat} {p : Pos} {e : Expr} {l : Nat} {env : PySem.Env} (ok : okE e = true) (nl : noLc e = true) : swapsWithSole [.Tuple es kk p] e l env = pure false := by
  unfold swapsWithSole
  exact sw_ok ok nl
theorem ssnd_unp (x : XOk c k X) {g : Tg} {es : List Expr} {kk : Nat} {p pos : Pos} {e : Expr} {se : Sm W} (hg : g.chk k (.Tuple es kk p) = true) (he : ESnd c X Y e M se) (ok : okE e = true) (nl : noLc e = true) (nt : noTup e = true) :
    SSnd c X Y (.Assign [.Tuple es kk p] e pos) (M ++ g.slots) g.slots (fun r => (se r).out fun (w, r1) => match g.bind w r1 with
      | some r2 => .nx r2
      | none => .bad) := by
  obtain ⟨t, pe, _, ke⟩ := he
  refine ⟨tAsg t (g.tg c.K), ps_asg pe (pg_all x hg) (swap_tup ok nl) (sws_ok nt), fun n σ as B H T D gd s ok => ke n σ as B H T _ gd s (Kn.mono (OK.out ok) ?_ fun _ _ z => z)⟩
  rintro ⟨w, r1⟩ ea h as1 x B1 H1 x1 (ex : x.er = w) (rfl : ers as1 = r1)
  dsimp only at h
  split at h
  · rename_i r2 hb
    rw [← ex] at hb
    refine bind_ok x1.sr x1.gd hb fun σ2 as2 g2 e2 b => h σ2 as2 B1 H1 ⟨x1.sb, g2, b.sr, fun i hi => ?_, fun i hi => b.sig i hi, b.len⟩ e2
    exact (b.slo i fun z => hi (List.mem_append_right _ z)).trans (x1.fr i fun z => hi (List.mem_append_left _ z))
  · exact h.elim
/-! ### if, for, while -/
theorem ssnd_if {e : Expr} {a b : List Stmt} {sc : Sm Bool} {M1 M2 W1 W2 : List Nat} {sa sb : Env → Out} {pos : Pos} (hc : TSnd c X Y e M sc) (ha : SSnds c X Y a M1 W1 sa) (hb : SSnds c X Y b M2 W2 sb) :
    SSnd c X Y (.If e a b pos) (M ++ (M1 ++ M2)) (W1 ++ W2) (fun r => (sc r).out fun (k, r1) => if k then sa r1 else sb r1) := by
  obtain ⟨t, pt, kt⟩ := hc
  obtain ⟨ta, pa, ka⟩ := ha
  obtain ⟨tb, pb, kb⟩ := hb
  refine ⟨_, ps_if pt pa pb, fun n σ as B H T D g s ok => kt n σ as B H T _ g s (Kn.mono (OK.out ok) ?_ fun _ _ z => z)⟩
  rintro ⟨v, r1⟩ ea h as1 B1 H1 x1 (rfl : ers as1 = r1)
  have x1' : Sx c n (M ++ (M1 ++ M2)) (W1 ++ W2) σ as B σ as1 T B1 H1 := x1.sx.mono (fun i z => List.mem_append_left _ z) (fun _ z => z)
  cases v with
  | true =>
    exact ka n σ as1 B1 H1 T D x1.gd x1.sr ((OK.step x1' h).mono (fun i z => List.mem_append_right _ (List.mem_append_left _ z)) fun i z => List.mem_append_left _ z)
  | false =>
    exact kb n σ as1 B1 H1 T D x1.gd x1.sr ((OK.step x1' h).mono (fun i z => List.mem_append_right _ (List.mem_append_right _ z)) fun i z => List.mem_append_right _ z)
theorem ssnd_for (x : XOk c k X) (hp : PassesOwn (model X.prog X.w) X.A X.env X.xe) {g : Tg} {tg iter : Expr} {body : List Stmt} {si : Sm (List W)} {P Mb Wb : List Nat} {sb : Env → Out} {pos : Pos} (hg : g.chk k tg = true) (hi : ISnd c X Y tg iter M P si)
    (hb : SSnds c X Y body Mb Wb sb) (hP : ∀ i ∈ P, i ∉ g.slots ∧ i ∉ Mb) (ok : okE iter = true) :
    SSnd c X Y (.For tg iter body [] pos) (M ++ (g.slots ++ Mb)) (g.slots ++ Wb) (fun r => (si r).out fun (ws, r1) => forFold g.bind sb ws r1) := by
  obtain ⟨wi, pi, ki⟩ := hi
  obtain ⟨tb, pb, kb⟩ := hb
  refine ⟨_, ps_for hp x.calm pi (pg_all x hg) pb (fold_ok ok), fun n σ as B H T D gd s ok => ki n σ as B H T _ gd s (Kn.mono (OK.out ok) ?_ fun _ _ z => z)⟩
  rintro ⟨ws, r1⟩ ea h as1 B1 H1 J x1 (rfl : ers as1 = r1) ⟨S, Yd, wk, wS, wY⟩
  have h1 : OK c n Y D (g.slots ++ Mb) (g.slots ++ Wb) σ as1 B1 T (forFold g.bind sb ws (ers as1)) := (OK.step (x1.sx.mono (fun i z => List.mem_append_left _ z) (fun _ z => z)) h).mono (fun i z => List.mem_append_right _ z) fun _ z => z
  refine for_it wk (fun i σi Hi => ∃ ai Bi, Sx c n (g.slots ++ Mb) (g.slots ++ Wb) σ as1 B1 σi ai T Bi Hi ∧ OK c n Y D (g.slots ++ Mb) (g.slots ++ Wb) σi ai Bi T (forFold g.bind sb (ws.drop i) (ers ai))) ?_ ?_ ?_ ?_
  · exact ⟨as1, B1, Sx.refl x1.gd x1.sr, by rw [List.drop_zero]; exact h1⟩
  · rintro i σi Hi _ ⟨ai, Bi, xi, _⟩
    refine wS ai Bi Hi ⟨xi.sb, ⟨n, T, xi.gd⟩, fun j hj => xi.fr j fun z => ?_⟩
    rcases List.mem_append.mp z with z | z
    · exact (hP j hj).1 z
    · exact (hP j hj).2 z
  · rintro i v σi Hi H' hi ⟨ai, Bi, xi, oi⟩ yd
    have hw : ws[i]? = some ws[i] := List.getElem?_eq_getElem hi
    obtain ⟨B3, y, s3, g3, ev, ew⟩ := wY i ws[i] ai Bi Hi v H' n T hw ⟨xi.sb, ⟨n, T, xi.gd⟩, fun j hj => xi.fr j fun z => by
      rcases List.mem_append.mp z with z | z
      · exact (hP j hj).1 z
      · exact (hP j hj).2 z⟩ yd xi.gd
    rw [List.drop_eq_getElem_cons hi] at oi
    have oi' : OK c n Y D (g.slots ++ Mb) (g.slots ++ Wb) σi ai Bi T (match g.bind ws[i] (ers ai) with
      | none => .bad
      | some r1 => match sb r1 with
        | .nx r2 => forFold g.bind sb (ws.drop (i + 1)) r2
        | .ct r2 => forFold g.bind sb (ws.drop (i + 1)) r2
        | .bk r2 => .nx r2
        | y => y) := oi
    cases hb : g.bind ws[i] (ers ai) with
    | none =>
      rw [hb] at oi'
      exact oi'.elim
    | some r1 =>
      rw [hb] at oi'
      rw [← ew] at hb
      rw [← ev]
      refine bind_ok xi.sr g3 hb fun σ2 as2 g2 e2 b => ?_
      subst e2
      have x2 : Sx c n (g.slots ++ Mb) (g.slots ++ Wb) σi ai Bi σ2 as2 T B3 H' := ⟨s3, g2, b.sr, fun j hj => b.slo j fun z => hj (List.mem_append_left _ z), fun j hj => b.sig j fun z => hj (List.mem_append_left _ z), b.len⟩
      have lm : ∀ j ∈ Mb, j ∈ g.slots ++ Mb := fun j z => List.mem_append_right _ z
      have lw : ∀ j ∈ Wb, j ∈ g.slots ++ Wb := fun j z => List.mem_append_right _ z
      refine kb n σ2 as2 B3 H' T _ g2 b.sr ?_
      dsimp only at oi'
      cases e : sb (ers as2) with
      | nx r =>
        rw [e] at oi'
        intro σ4 as4 B4 H4 x4 e4
        have x4' := x2.trans (x4.mono lm lw)
        subst e4
        exact ⟨as4, B4, xi.trans x4', OK.step x4' oi'⟩
      | ct r =>
        rw [e] at oi'
        intro σ4 as4 B4 H4 x4 e4
        have x4' := x2.trans (x4.mono lm lw)
        subst e4
        exact ⟨as4, B4, xi.trans x4', OK.step x4' oi'⟩
      | bk r =>
        rw [e] at oi'
        exact fun σ4 as4 B4 H4 x4 e4 => oi' σ4 as4 B4 H4 (x2.trans (x4.mono lm lw)) e4
      | rt w r =>
        rw [e] at oi'
        exact fun σ4 as4 y4 B4 H4 x4 ey e4 => oi' σ4 as4 y4 B4 H4 (x2.trans (x4.mono lm lw)) ey e4
      | ex cl p r =>
        rw [e] at oi'
        exact fun M2 σ4 as4 T2 B4 H4 x4 e4 => (OK.step x2 (o := .ex cl p r) oi') M2 σ4 as4 T2 B4 H4 (x4.mono (fun _ z => z) lw) e4
      | bad =>
        rw [e] at oi'
        exact oi'
  · rintro σi Hi ⟨ai, Bi, xi, oi⟩
    rw [List.drop_length] at oi
    have oi' : ∀ σ2 as2 B2 H2, Sx c n (g.slots ++ Mb) (g.slots ++ Wb) σi ai Bi σ2 as2 T B2 H2 → ers as2 = ers ai → D.nx σ2 H2 := oi
    exact oi' σi ai Bi Hi (Sx.refl xi.gd xi.sr) rfl
theorem ssnd_while (hp : PassesOwn (model X.prog X.w) X.A X.env X.xe) {e : Expr} {body : List Stmt} {sc : Sm Bool} {Mb Wb : List Nat} {sb : Env → Out} {f : Nat} {pos : Pos} (hc : TSnd c X Y e M sc) (hb : SSnds c X Y body Mb Wb sb) :
    SSnd c X Y (.While e body [] pos) (M ++ Mb) Wb (fun r => whlFold sc sb f r) := by
  obtain ⟨t, pt, kt⟩ := hc
  obtain ⟨tb, pb, kb⟩ := hb
  refine ⟨_, ps_while hp pt pb, fun n σ as B H T D gd s ok => ⟨fun m σi Hi => ∃ ai Bi, Sx c n (M ++ Mb) Wb σ as B σi ai T Bi Hi ∧ OK c n Y D (M ++ Mb) Wb σi ai Bi T (whlFold sc sb m (ers ai)), ⟨f, as, B, Sx.refl gd s, ok⟩, ?_⟩⟩
  rintro m σi Hi ⟨ai, Bi, xi, oi⟩
  cases m with
  | zero => exact oi.elim
  | succ m =>
    have oi' : OK c n Y D (M ++ Mb) Wb σi ai Bi T ((sc (ers ai)).out fun (k, r1) => if k then (match sb r1 with
      | .nx r2 => whlFold sc sb m r2
      | .ct r2 => whlFold sc sb m r2
      | .bk r2 => .nx r2
      | y => y) else .nx r1) := oi
    refine kt n σi ai Bi Hi T _ xi.gd xi.sr (Kn.mono (OK.out oi') ?_ fun _ _ z => z)
    rintro ⟨v, r1⟩ ea h as1 B1 H1 x1 (rfl : ers as1 = r1)
    have x1' : Sx c n (M ++ Mb) Wb σi ai Bi σi as1 T B1 H1 := x1.sx.mono (fun i z => List.mem_append_left _ z) (fun _ z => z)
    have lm : ∀ j ∈ Mb, j ∈ M ++ Mb := fun j z => List.mem_append_right _ z
    cases v with
    | false =>
      rw [if_neg (by simp)]
      exact h σi as1 B1 H1 x1' rfl
    | true =>
      rw [if_pos rfl]
      dsimp only at h
      rw [if_pos rfl] at h
      refine ⟨fun σ' H' => ∃ ai Bi, Sx c n (M ++ Mb) Wb σ as B σ' ai T Bi H' ∧ OK c n Y D (M ++ Mb) Wb σ' ai Bi T (whlFold sc sb m (ers ai)), fun σ' H' p => ⟨m, Nat.lt_succ_self _, p⟩, ?_⟩
      refine kb n σi as1 B1 H1 T _ x1.gd x1.sr ?_
      cases e : sb (ers as1) with
      | nx r =>
        rw [e] at h
        intro σ4 as4 B4 H4 x4 e4
        have x4' := x1'.trans (x4.mono lm fun _ z => z)
        subst e4
        exact ⟨as4, B4, xi.trans x4', OK.step x4' h⟩
      | ct r =>
        rw [e] at h
        intro σ4 as4 B4 H4 x4 e4
        have x4' := x1'.trans (x4.mono lm fun _ z => z)
        subst e4
        exact ⟨as4, B4, xi.trans x4', OK.step x4' h⟩
      | bk r =>
        rw [e] at h
        exact fun σ4 as4 B4 H4 x4 e4 => h σ4 as4 B4 H4 (x1'.trans (x4.mono lm fun _ z => z)) e4
      | rt w r =>
        rw [e] at h
        exact fun σ4 as4 y4 B4 H4 x4 ey e4 => h σ4 as4 y4 B4 H4 (x1'.trans (x4.mono lm fun _ z => z)) ey e4
      | ex cl p r =>
        rw [e] at h
        exact fun M2 σ4 as4 T2 B4 H4 x4 e4 => (OK.step x1' (o := .ex cl p r) h) M2 σ4 as4 T2 B4 H4 x4 e4
      | bad =>
        rw [e] at h
        exact h
end
end Vx
end

section
set_option maxHeartbeats 4000000
/-! Vx 20: writes, comprehensions assigned, slots held still. -/
namespace Vx
open PySem L2
section
variable {c : Gx} {Γ : Den} {k : Ck} {X : Cx} {Y : WX} {n : En} {σ σ1 σ2 : St} {as as1 as2 : Sl} {B H B1 H1 B2 H2 : Hp} {T T1 T2 : List A} {M N Ws : List Nat} {D : Ends}
theorem star_few {e : Expr} {cpos : Pos} {env : PySem.Env} (ok : okE e = true) : ((backTo cpos (starEach [e] env)).all (fun x => !x.1) && (backToKw cpos (keywordEach [] env)).all (fun x => x.1.isSome)
      && decide ([e].length + ([] : List Keyword).length + (if ([] : List Keyword).isEmpty then 0 else 1) < 30)) = true := by
  rw [star_ok ok]
  rfl
/-- p.append(e) -/
theorem ssnd_app (x : XOk c k X) {o e : Expr} {Mp Me : List Nat} {sp : Sm (Nat × List Nat)} {se : Sm W} {root : Nat} {apos cpos pos : Pos} (hp : PSnd c X Y o Mp sp) (he : ESnd c X Y e Me se) (ok : okE e = true) (oo : okO o = true) (hl : (apos.endLine == cpos.line) = true)
    (st : ∀ r q r1, sp r = .ok (q, r1) → q.2 = [] ∨ q.1 ∉ Me) (hr : ∀ r q r1, sp r = .ok (q, r1) → q.1 = root) :
    SSnd c X Y (.Expr (.Call (.Attribute o "append" apos) [e] [] cpos) pos) (Mp ++ (Me ++ [root])) [] (fun r => (sp r).out fun (q, r1) => if isL r1 q then (se r1).out fun (w, r2) => match onL r2 q fun cs => some (cs ++ [w]) with
      | some r3 => .nx r3
      | none => .bad
      else .bad) := by
  obtain ⟨tp, pp, kp⟩ := hp
  obtain ⟨te, pe, _, ke⟩ := he
  have pc : PE X (.Call (.Attribute o "append" apos) [e] [] cpos) (tBM X.K "list" rAppend tp (tCons te tNil)) := pe_bm F.plainAttrs_list F.slot_list_append F.type_list_append (fun pins s σ H x xs v us Q I rx rv h => mt_append pins s σ H x xs v us Q I rx rv h) pp (pa_cons pe pa_nil (star_ok ok)) (base_ok oo) (star_few ok) hl (star_ok ok) (by rfl)
  refine ⟨_, ps_expr pc (sw_ok rfl rfl), fun n σ as B H T D g s ok => kp n σ as B H T _ g s (Kn.mono (OK.out ok) ?_ fun _ _ z => z)⟩
  rintro ⟨q, r1⟩ ea h as1 v w B1 H1 x1 (rfl : ers as1 = r1) pa
  dsimp only at h
  split at h
  · rename_i hl
    obtain ⟨a0, xs0, ev, hH⟩ := isl_ok x1.gd pa hl
    subst ev
    refine ⟨.inl ⟨rfl, xs0, .inl (.inl hH)⟩, ?_⟩
    have x1' : Sx c n (Mp ++ (Me ++ [root])) [] σ as B σ as1 T B1 H1 := x1.sx.mono (fun i z => List.mem_append_left _ z) (fun _ z => z)
    refine ke n σ as1 B1 H1 T _ x1.gd x1.sr (Kn.mono (OK.out (OK.step x1' h)) ?_ fun _ _ z => z)
    rintro ⟨w2, r2⟩ eb h2 as2 y B2 H2 x2 (ey : y.er = w2) (rfl : ers as2 = r2)
    dsimp only at h2
    split at h2
    · rename_i r3 e3
      have eg : ∃ w3, eget (ers as2) q = some w3 := by
        unfold onL at e3
        cases e4 : eget (ers as2) q with
        | some w3 => exact ⟨w3, rfl⟩
        | none =>
          rw [e4] at e3
          cases e3
      obtain ⟨w3, eg⟩ := eg
      have pa2 := pa.stab x2 x1.sr (st _ _ _ ea) eg
      obtain ⟨a, xs, cs', ev, hH2, ew, ef, hs, wr⟩ := write_core (Ms := [y]) (σ := σ) x2.gd x2.sr pa2 e3
      have ef := Option.some.inj ef
      obtain ⟨as3, g3, s3, e5, f3⟩ := wr (xs ++ [y]) [] (by rw [← ef, ← ey]; simp) (by rw [List.append_nil]) (fun z => z)
      have hsz : (vals xs).length < sizeLine := by
        have h1 := small_sz hs
        rw [← ef] at h1
        simp at h1
        have : (vals xs).length = xs.length := by simp [vals]
        omega
      have ev2 : (V.ref a0) = .ref a := ev
      refine ⟨a, vals xs, y.val, ev2, rfl, hH2, hsz, ?_⟩
      have e6 : vals (xs ++ [y]) = vals xs ++ [y.val] := by simp [vals]
      rw [← e6]
      refine h2 σ as3 B2 _ ⟨x2.sb, g3, s3, fun i hi => ?_, fun _ _ => rfl, rfl⟩ e5
      rw [f3 i fun z => hi (List.mem_append_right _ (List.mem_append_right _ (by rw [z, hr _ _ _ ea]; exact List.mem_cons_self)))]
      exact x2.fr i fun z => hi (List.mem_append_right _ (List.mem_append_left _ z))
    · exact h2.elim
  · exact h.elim
theorem sub_ok {o i : Expr} {pos : Pos} {env : PySem.Env} (h : okE i = true) : ∀ v, assign (.Subscript o i pos) env v = (do
      let ov ← holding [v] (eval o env)
      let iv ← holding [v, ov] (eval i env)
      standAt pos
      holding [v, ov, iv] (setItem ov iv v)
      release [v, ov, iv] []) := by
  cases i <;> first | (intro _; rfl) | cases h
theorem objs_setP {xs : List A} {j : Nat} {z y : A} (h : xs[j]? = some z) : (objsL c (xs ++ [y])).Perm (objsL c (xs.set j y) ++ z.objs c) := by
  obtain ⟨R, p1, p2⟩ := objsL_set (c := c) h
  rw [objsL_append]
  have e : objsL c [y] = y.objs c := by
    show y.objs c ++ [] = y.objs c
    rw [List.append_nil]
  rw [e]
  refine (List.Perm.append_right _ p1).trans (List.Perm.trans ?_ (List.Perm.append_right _ (p2 y)).symm)
  have q1 : (z.objs c ++ R ++ y.objs c).Perm (y.objs c ++ (z.objs c ++ R)) := List.perm_append_comm
  have q2 : (y.objs c ++ (z.objs c ++ R)).Perm (y.objs c ++ (R ++ z.objs c)) := List.Perm.append_left _ List.perm_append_comm
  rw [List.append_assoc (y.objs c)]
  exact q1.trans q2
theorem sws_sub {o i e : Expr} {p : Pos} {env : PySem.Env} : swappedStores [.Subscript o i p] e env = pure none := by
  unfold swappedStores
  cases e <;> rfl
/-- p[i] = e -/
theorem ssnd_seti (x : XOk c k X) {o i e : Expr} {Mp Mi Me : List Nat} {sp : Sm (Nat × List Nat)} {si se : Sm W} {root : Nat} {p pos : Pos} (he : ESnd c X Y e Me se) (hp : PSnd c X Y o Mp sp) (hi : ESnd c X Y i Mi si) (ok : okE e = true) (nl : noLc e = true) (oi : okE i = true)
    (st : ∀ r q r1, sp r = .ok (q, r1) → q.2 = [] ∨ q.1 ∉ Mi) (hr : ∀ r q r1, sp r = .ok (q, r1) → q.1 = root) :
    SSnd c X Y (.Assign [.Subscript o i p] e pos) (Me ++ (Mp ++ (Mi ++ [root]))) [] (fun r => (se r).out fun (w, r1) => (sp r1).out fun (q, r2) => (si r2).out fun (k, r3) => match (eget r3 q).bind fun x => stepIx x k with
      | some j => match onL r3 q fun cs => some (cs.set j w) with
        | some r4 => .nx r4
        | none => .bad
      | none => .bad) := by
  obtain ⟨te, pe, _, ke⟩ := he
  obtain ⟨tp, pp, kp⟩ := hp
  obtain ⟨ti, pi, _, ki⟩ := hi
  refine ⟨_, ps_asg pe (pg_sub pp pi set_list (sub_ok oi)) (by unfold swapsWithSole; exact sw_ok ok nl) (sws_sub), fun n σ as B H T D g s ok => ke n σ as B H T _ g s (Kn.mono (OK.out ok) ?_ fun _ _ z => z)⟩
  rintro ⟨w1, r1⟩ ea h as1 y B1 H1 x1 (ey : y.er = w1) (rfl : ers as1 = r1)
  have m1 : Sx c n (Me ++ (Mp ++ (Mi ++ [root]))) [] σ as B σ as1 (y :: T) B1 H1 := x1.sx.mono (fun i z => List.mem_append_left _ z) (fun _ z => z)
  refine kp n σ as1 B1 H1 (y :: T) _ x1.gd x1.sr (Kn.mono (OK.out (OK.step m1 h)) ?_ fun _ _ z => z)
  rintro ⟨q, r2⟩ eb h2 as2 v w B2 H2 x2 (rfl : ers as2 = r2) pa
  have m2 : Sx c n (Me ++ (Mp ++ (Mi ++ [root]))) [] σ as1 B1 σ as2 (y :: T) B2 H2 := x2.sx.mono (fun i z => List.mem_append_right _ (List.mem_append_left _ z)) (fun _ z => z)
  refine ki n σ as2 B2 H2 (y :: T) _ x2.gd x2.sr (Kn.mono (OK.out (OK.step m2 h2)) ?_ fun _ _ z => z)
  rintro ⟨wi, r3⟩ ec h3 as3 u B3 H3 x3 (eu : u.er = wi) (rfl : ers as3 = r3)
  dsimp only at h3
  split at h3
  · rename_i j ej
    split at h3
    · rename_i r4 e4
      obtain ⟨w3, eg, ej⟩ := Option.bind_eq_some_iff.mp ej
      have pa3 := pa.stab x3 x2.sr (st _ _ _ eb) eg
      obtain ⟨a, xs, cs', ev, hH, ew, ef, hs, wr⟩ := write_core (Ms := [y]) (σ := σ) x3.dropT.gd x3.sr pa3 e4
      have ef := Option.some.inj ef
      subst ew
      have hk : ∃ i', u.er = .fl (.int i') ∧ ixN xs.length i' = some j := by
        unfold stepIx at ej
        rw [← eu] at ej
        have e7 : (W.nd Kd.lst (xs.map A.er)).kids = some (.lst, (xs.map A.er).length) := rfl
        rw [e7] at ej
        split at ej
        · rename_i m i' h1 h2'
          injection h1 with h1
          injection h1 with _ h1
          rw [← h1, List.length_map] at ej
          exact ⟨i', h2', ej⟩
        · rename_i m i' h1 h2'
          injection h1 with h1
          injection h1 with h1 _
          cases h1
        · cases ej
      obtain ⟨i', k1, k2⟩ := hk
      have hj := ixN_lt k2
      obtain ⟨as4, g4, s4, e5, f4⟩ := wr (xs.set j y) (xs[j].objs c) (by rw [← ef, ← ey, List.map_set]) (objs_setP (List.getElem?_eq_getElem hj)) (fun z z' hz => by
        rcases List.mem_or_eq_of_mem_set hz with hz | hz
        · exact z z' (List.mem_append_left _ hz)
        · exact z z' (List.mem_append_right _ (by rw [hz]; exact List.mem_cons_self)))
      refine ⟨a, vals xs, i', j, ev, x3.int k1, hH, by simpa [vals] using k2, ?_⟩
      have e6 : (vals xs).set j y.val = vals (xs.set j y) := by simp [vals, List.map_set]
      rw [e6]
      refine h3 σ as4 B3 _ ⟨x3.sb, g4, s4, fun i hi => ?_, fun _ _ => rfl, rfl⟩ e5
      rw [f4 i fun z => hi (List.mem_append_right _ (List.mem_append_right _ (List.mem_append_right _ (by rw [z, hr _ _ _ eb]; exact List.mem_cons_self))))]
      exact x3.fr i fun z => hi (List.mem_append_right _ (List.mem_append_right _ (List.mem_append_left _ z)))
    · exact h3.elim
  · exact h3.elim

/-! ### slots held still -/
def frzA (as : Sl) : List Nat → Sl
  | [] => as
  | i :: is => match as[i]? with
    | some (some x) => frzA (as.set i (some (.fl x.val x.er.dat))) is
    | _ => frzA as is
def thawA (as0 as : Sl) : List Nat → Sl
  | [] => as
  | i :: is => (thawA as0 as is).set i (as0[i]?.getD none)
theorem ers_thaw (as0 as : Sl) : ∀ is : List Nat, ers (thawA as0 as is) = thawE (ers as0) (ers as) is
  | [] => rfl
  | i :: is => by
    show ers ((thawA as0 as is).set i (as0[i]?.getD none)) = (thawE (ers as0) (ers as) is).set i ((ers as0)[i]?.getD none)
    rw [ers_set, ers_thaw as0 as is, ers_get]
    cases as0[i]? <;> rfl
theorem thawA_len (as0 as : Sl) : ∀ is : List Nat, (thawA as0 as is).length = as.length
  | [] => rfl
  | i :: is => by
    show ((thawA as0 as is).set i _).length = _
    rw [List.length_set, thawA_len as0 as is]
theorem thawA_out {as0 as : Sl} {j : Nat} : ∀ {is : List Nat}, j ∉ is → (thawA as0 as is)[j]? = as[j]?
  | [], _ => rfl
  | i :: is, h => by
    show ((thawA as0 as is).set i _)[j]? = _
    rw [List.getElem?_set_ne (fun z => h (by rw [z]; exact List.mem_cons_self)), thawA_out fun z => h (List.mem_cons_of_mem _ z)]
theorem thawA_in {as0 as : Sl} {j : Nat} (hj : j < as.length) : ∀ {is : List Nat}, j ∈ is → (thawA as0 as is)[j]? = some (as0[j]?.getD none)
  | [], h => by cases h
  | i :: is, h => by
    show ((thawA as0 as is).set i (as0[i]?.getD none))[j]? = _
    by_cases e : i = j
    · subst e
      rw [List.getElem?_set_self (by rw [thawA_len]; exact hj)]
    · rw [List.getElem?_set_ne e]
      exact thawA_in hj (by rcases List.mem_cons.mp h with z | z; exact (e z.symm).elim; exact z)
theorem frz_ok : ∀ (is : List Nat) {as : Sl} {B : Hp}, G c n B H (live as ++ T) → SR σ as → ∃ B1, Same B B1 ∧ G c n B1 H (live (frzA as is) ++ T) ∧ SR σ (frzA as is) ∧ ers (frzA as is) = frzE (ers as) is ∧ (∀ i, i ∉ is → (frzA as is)[i]? = as[i]?) ∧
    (∀ (i : Nat) (x : A), as[i]? = some (some x) → ∃ y : A, (frzA as is)[i]? = some (some y) ∧ y.val = x.val) ∧ ∀ i ∈ is, ∀ x : A, as[i]? = some (some x) → ∀ p ∈ x.objs c, B1 p.1 = some p.2
  | [], as, B, g, s => ⟨B, Same.refl _, g, s, rfl, fun _ _ => rfl, fun i x h => ⟨x, h, rfl⟩, fun i hi => by cases hi⟩
  | i :: is, as, B, g, s => by
    have e0 := ers_get (as := as) (i := i)
    unfold frzA frzE
    cases e : as[i]? with
    | none =>
      rw [e0, e]
      obtain ⟨B1, h1, h2, h3, h4, h5, h6, h7⟩ := frz_ok is g s
      refine ⟨B1, h1, h2, h3, h4, fun j hj => h5 j fun z => hj (List.mem_cons_of_mem _ z), h6, fun j hj x hx => ?_⟩
      rcases List.mem_cons.mp hj with z | z
      · subst z
        rw [e] at hx
        cases hx
      · exact h7 j z x hx
    | some z =>
      cases z with
      | none =>
        rw [e0, e]
        obtain ⟨B1, h1, h2, h3, h4, h5, h6, h7⟩ := frz_ok is g s
        refine ⟨B1, h1, h2, h3, h4, fun j hj => h5 j fun z => hj (List.mem_cons_of_mem _ z), h6, fun j hj x hx => ?_⟩
        rcases List.mem_cons.mp hj with z | z
        · subst z
          rw [e] at hx
          cases hx
        · exact h7 j z x hx
      | some y =>
        rw [e0, e]
        obtain ⟨B0, s0, g0, o0⟩ := G.freezeS g e
        obtain ⟨B1, h1, h2, h3, h4, h5, h6, h7⟩ := frz_ok is g0 (s.chg (y := .fl y.val y.er.dat) e rfl)
        refine ⟨B1, s0.trans h1, h2, h3, ?_, fun j hj => ?_, fun j x hx => ?_, fun j hj x hx p hp => ?_⟩
        · rw [h4, ers_set]
          rfl
        · rw [h5 j fun z => hj (List.mem_cons_of_mem _ z), List.getElem?_set_ne fun z => hj (by rw [z]; exact List.mem_cons_self)]
        · by_cases z : i = j
          · subst z
            rw [e] at hx
            have hx := Option.some.inj (Option.some.inj hx)
            subst hx
            exact h6 i (.fl y.val y.er.dat) (List.getElem?_set_self (SR.lt e))
          · exact h6 j x (by rw [List.getElem?_set_ne z]; exact hx)
        · by_cases z : i = j
          · subst z
            rw [e] at hx
            have hx := Option.some.inj (Option.some.inj hx)
            subst hx
            exact h1 _ _ (o0 p hp)
          · refine h7 j ?_ x (by rw [List.getElem?_set_ne z]; exact hx) p hp
            rcases List.mem_cons.mp hj with w | w
            · exact (z w.symm).elim
            · exact w
theorem live_sub : ∀ {as as' : Sl}, as'.length = as.length → (∀ (i : Nat) (x : A), as'[i]? = some (some x) → as[i]? = some (some x)) → (live as').Sublist (live as)
  | [], [], _, _ => List.Sublist.refl _
  | [], _ :: _, h, _ => by cases h
  | _ :: _, [], h, _ => by cases h
  | a :: as, b :: bs, h, q => by
    have ih : (live bs).Sublist (live as) := live_sub (by simpa using h) fun i x e => by simpa using q (i + 1) x (by simpa using e)
    cases b with
    | none =>
      cases a with
      | none => exact ih
      | some a => exact ih.cons _
    | some b =>
      have e := q 0 b rfl
      have e : a = some b := by simpa using e
      subst e
      exact ih.cons₂ _
theorem objsL_sub {L' L : List A} (h : L'.Sublist L) : (objsL c L').Sublist (objsL c L) := by
  induction h with
  | slnil => exact List.Sublist.refl _
  | cons x _ ih => exact ih.trans (List.sublist_append_right _ _)
  | cons_cons x _ ih => exact List.Sublist.append (List.Sublist.refl _) ih
theorem live_at : ∀ {as : Sl} {x : A}, x ∈ live as → ∃ i : Nat, as[i]? = some (some x)
  | [], x, h => by cases h
  | none :: as, x, h => by
    obtain ⟨i, e⟩ := live_at (as := as) h
    exact ⟨i + 1, by simpa using e⟩
  | some a :: as, x, h => by
    rcases List.mem_cons.mp h with z | z
    · subst z
      exact ⟨0, rfl⟩
    · obtain ⟨i, e⟩ := live_at (as := as) z
      exact ⟨i + 1, by simpa using e⟩
theorem thaw_gd {as' : Sl} {is : List Nat} {T' : List A} (g0 : G c n B H (live as ++ T)) (g2 : G c n B2 H2 (live as2 ++ T')) (hT : ∀ x ∈ T, x ∈ T') (sb : Same B B2) (hl : as'.length = as.length) (key : ∀ (i : Nat) (x : A), as'[i]? = some (some x) → as[i]? = some (some x) ∧ (i ∈ is ∨ as2[i]? = some (some x)))
    (ho : ∀ i ∈ is, ∀ x : A, as[i]? = some (some x) → ∀ p ∈ x.objs c, B2 p.1 = some p.2) : G c n B H2 (live as' ++ T) := by
  have sl : (live as' ++ T).Sublist (live as ++ T) := List.Sublist.append (live_sub hl fun i x e => (key i x e).1) (List.Sublist.refl _)
  have so := objsL_sub (c := c) sl
  exact {
    b0 := g0.b0
    sub := fun b o e => g2.sub b o (sb b o e)
    hold := fun p hp => by
      refine ⟨?_, (g0.hold p (so.subset hp)).2⟩
      rw [objsL_append] at hp
      rcases List.mem_append.mp hp with hp | hp
      · have : ∃ x ∈ live as', p ∈ x.objs c := by
          have gen : ∀ {L : List A}, p ∈ objsL c L → ∃ x ∈ L, p ∈ x.objs c := by
            intro L
            induction L with
            | nil => intro h; cases h
            | cons y L ih =>
              intro h
              have h' : p ∈ y.objs c ++ objsL c L := h
              rcases List.mem_append.mp h' with h' | h'
              · exact ⟨y, List.mem_cons_self, h'⟩
              · obtain ⟨x, h1, h2⟩ := ih h'
                exact ⟨x, List.mem_cons_of_mem _ h1, h2⟩
          exact gen hp
        obtain ⟨x, hx, hpx⟩ := this
        obtain ⟨i, e⟩ := live_at hx
        obtain ⟨k1, k2⟩ := key i x e
        rcases k2 with k2 | k2
        · exact g2.sub _ _ (ho i k2 x k1 p hpx)
        · exact (g2.hold p (mem_objsL (List.mem_append_left _ (live_mem k2)) hpx)).1
      · have gen : ∀ {L : List A}, p ∈ objsL c L → ∃ x ∈ L, p ∈ x.objs c := by
          intro L
          induction L with
          | nil => intro h; cases h
          | cons y L ih =>
            intro h
            have h' : p ∈ y.objs c ++ objsL c L := h
            rcases List.mem_append.mp h' with h' | h'
            · exact ⟨y, List.mem_cons_self, h'⟩
            · obtain ⟨x, h1, h2⟩ := ih h'
              exact ⟨x, List.mem_cons_of_mem _ h1, h2⟩
        obtain ⟨x, h1, h2⟩ := gen hp
        exact (g2.hold p (mem_objsL (List.mem_append_right _ (hT x h1)) h2)).1
    nd := List.Nodup.sublist (so.map Prod.fst) g0.nd
    lf := fun x hx => g0.lf x (sl.subset hx)
    fr := g2.fr
    nw := fun b hb => g0.nw b (hb.imp id fun z => (so.map Prod.fst).subset z) }
theorem ssnd_hold {st : Stmt} {Mb Wb is ms : List Nat} {sb : Env → Out} (hb : SSnd c X Y st Mb Wb sb) (h1 : ∀ i ∈ Mb, i ∈ ms) (h2 : ∀ i ∈ is, i ∉ ms) : SSnd c X Y st ms Wb (fun r => match sb (frzE r is) with
    | .nx r2 => .nx (thawE r (wipeE r2 ms) is)
    | .rt (.fl d) r2 => if d.flat then .rt (.fl d) (thawE r (wipeE r2 ms) is) else .bad
    | _ => .bad) := by
  obtain ⟨t, p, q⟩ := hb
  refine ⟨t, p, fun n σ as B H T D g s ok => ?_⟩
  obtain ⟨B1, sB, g1, s1, e1, f1, f2, f3⟩ := frz_ok is g s
  refine q n σ (frzA as is) B1 H T D g1 s1 ?_
  rw [e1]
  dsimp only at ok
  -- the state behind, thawed
  have main : ∀ σ2 as2 T' B2 H2, Sx c n Mb Wb σ (frzA as is) B1 σ2 as2 T' B2 H2 → (∀ x ∈ T, x ∈ T') → Sx c n ms Wb σ as B σ2 (thawA as (wipeA as2 ms) is) T B H2 := fun σ2 as2 T' B2 H2 x hT => by
    have l2 : as2.length = as.length := by rw [x.sr.1, x.ln, s.1]
    have fr' : ∀ i, i ∉ ms → as2[i]? = (frzA as is)[i]? := fun i hi => x.fr i fun z => hi (h1 i z)
    have hle : as2.length = σ2.length := x.sr.1
    have key : ∀ (i : Nat) (y : A), (thawA as (wipeA as2 ms) is)[i]? = some (some y) → as[i]? = some (some y) ∧ (i ∈ is ∨ as2[i]? = some (some y)) := fun i y e => by
      by_cases hi : i ∈ is
      · have hlt : i < (wipeA as2 ms).length := by
          have := (List.getElem?_eq_some_iff.mp e).1
          rw [thawA_len] at this
          exact this
        rw [thawA_in hlt hi] at e
        have e := Option.some.inj e
        cases e3 : as[i]? with
        | none =>
          rw [e3] at e
          cases e
        | some z =>
          rw [e3] at e
          have e : z = some y := e
          subst e
          exact ⟨rfl, .inl hi⟩
      · rw [thawA_out hi] at e
        obtain ⟨e, him⟩ := wipeA_some e
        refine ⟨?_, .inr e⟩
        rw [← f1 i hi, ← fr' i him]
        exact e
    have lw : (wipeA as2 ms).length = as.length := by rw [wipeA_len, l2]
    refine ⟨Same.refl _, thaw_gd g x.gd hT (sB.trans x.sb) (by rw [thawA_len, lw]) key fun i hi y e p hp => x.sb _ _ (f3 i hi y e p hp), ⟨by rw [thawA_len, lw, x.ln, s.1], fun i y e => ?_⟩, fun i hi => ?_, x.sig, x.ln⟩
    · obtain ⟨k1, k2⟩ := key i y e
      by_cases hi : i ∈ is
      · obtain ⟨z, z1, z2⟩ := f2 i y k1
        rw [← fr' i (h2 i hi)] at z1
        rw [← z2]
        exact x.sr.2 i z z1
      · rcases k2 with k2 | k2
        · exact (hi k2).elim
        · exact x.sr.2 i y k2
    · by_cases hs : i ∈ is
      · by_cases hlt : i < as.length
        · rw [thawA_in (by rw [lw]; exact hlt) hs, List.getElem?_eq_getElem hlt]
          rfl
        · rw [List.getElem?_eq_none (by rw [thawA_len, lw]; omega), List.getElem?_eq_none (by omega)]
      · rw [thawA_out hs, wipeA_out hi, fr' i hi, f1 i hs]
  cases e : sb (frzE (ers as) is) with
  | nx r2 =>
    rw [e] at ok
    intro σ2 as2 B2 H2 x er
    subst er
    exact ok σ2 _ B H2 (main σ2 as2 T B2 H2 x fun _ z => z) (by rw [ers_thaw, ers_wipe])
  | rt w r2 =>
    rw [e] at ok
    intro σ2 as2 y B2 H2 x ey er
    subst er
    cases w with
    | nd kd cs => exact ok.elim
    | fl d =>
      dsimp only at ok
      split at ok
      · rename_i hd
        have m := main σ2 as2 (y :: T) B2 H2 x fun _ z => List.mem_cons_of_mem _ z
        cases y with
        | nd a dx kd cs =>
          rw [A.er_nd] at ey
          cases ey
        | fl v d' =>
          have ey := W.fl.inj ey
          subst ey
          have rv : RepD c B2 d' v := x.gd.lf (.fl v d') (List.mem_append_right _ List.mem_cons_self)
          have r0 : RepD c B d' v := by
            cases d' with
            | nd kd cs => cases hd
            | _ => exact rv
          exact ok σ2 _ (.fl v d') B H2 ⟨m.sb, add_y m.gd r0, m.sr, m.fr, m.sig, m.ln⟩ rfl (by rw [ers_thaw, ers_wipe])
      · exact ok.elim
  | bk r =>
    rw [e] at ok
    exact ok.elim
  | ct r =>
    rw [e] at ok
    exact ok.elim
  | ex cl p r =>
    rw [e] at ok
    exact ok.elim
  | bad =>
    rw [e] at ok
    exact ok.elim
end
end Vx
end

section
set_option maxHeartbeats 4000000
/-! insert, d[k] = e, += of ints, what is never reached, a comprehension bound to a cell. -/
namespace Vx
open PySem L2
section
variable {c : Gx} {Γ : Den} {k : Ck} {X : Cx} {Y : WX} {n : En} {σ σ1 σ2 : L2.St} {as as1 as2 : Sl} {B H B1 H1 B2 H2 : Hp} {T T1 T2 : List A} {M N Ws : List Nat} {D : Ends}
theorem ssnd_nev {st : Stmt} : SSnd c X Y st [] [] (fun _ => .bad) := ⟨_, ps_never, fun n σ as B H T D g s ok => ok.elim⟩
theorem star_few2 {e d : Expr} {cpos : Pos} {env : PySem.Env} (ok : okE e = true) (ok2 : okE d = true) : ((backTo cpos (starEach [e, d] env)).all (fun x => !x.1) && (backToKw cpos (keywordEach [] env)).all (fun x => x.1.isSome)
      && decide ([e, d].length + ([] : List Keyword).length + (if ([] : List Keyword).isEmpty then 0 else 1) < 30)) = true := by
  rw [star_ok ok, star_ok ok2]
  rfl
/-- p.insert(i, e) -/
theorem ssnd_ins (x : XOk c k X) {o i e : Expr} {Mp Mi Me : List Nat} {sp : Sm (Nat × List Nat)} {si se : Sm W} {root : Nat} {apos cpos pos : Pos} (hp : PSnd c X Y o Mp sp) (hi : ESnd c X Y i Mi si) (he : ESnd c X Y e Me se) (oki : okE i = true) (ok : okE e = true) (oo : okO o = true) (hl : (apos.endLine == cpos.line) = true)
    (st : ∀ r q r1, sp r = .ok (q, r1) → q.2 = [] ∨ q.1 ∉ Mi ++ Me) (hr : ∀ r q r1, sp r = .ok (q, r1) → q.1 = root) :
    SSnd c X Y (.Expr (.Call (.Attribute o "insert" apos) [i, e] [] cpos) pos) (Mp ++ ((Mi ++ Me) ++ [root])) [] (fun r => (sp r).out fun (q, r1) => if isL r1 q then (si r1).out fun (k, r2) => (se r2).out fun (w, r3) => match k with
      | .fl (.int k) => if 0 ≤ k ∧ k < 2 ^ 63 then (match onL r3 q fun cs => some (cs.take k.toNat ++ w :: cs.drop k.toNat) with
        | some r4 => .nx r4
        | none => .bad) else .bad
      | _ => .bad
      else .bad) := by
  obtain ⟨tp, pp, kp⟩ := hp
  obtain ⟨ti, pi, _, ki⟩ := hi
  obtain ⟨te, pe, _, ke⟩ := he
  have pc : PE X (.Call (.Attribute o "insert" apos) [i, e] [] cpos) (tBM X.K "list" _ tp (tCons ti (tCons te tNil))) := pe_bm F.plainAttrs_list F.slot_list_insert F.type_list_insert mt_insert pp (pa_cons pi (pa_cons pe pa_nil (star_ok ok)) (star_ok oki)) (base_ok oo) (star_few2 oki ok) hl (star_ok oki) (star_any (es := [e]) (by simp [ok]))
  refine ⟨_, ps_expr pc (sw_ok rfl rfl), fun n σ as B H T D g s ok => kp n σ as B H T _ g s (Kn.mono (OK.out ok) ?_ fun _ _ z => z)⟩
  rintro ⟨q, r1⟩ ea h as1 v w B1 H1 x1 (rfl : ers as1 = r1) pa
  dsimp only at h
  split at h
  · rename_i hl
    obtain ⟨a0, xs0, ev, hH⟩ := isl_ok x1.gd pa hl
    subst ev
    refine ⟨.inl ⟨rfl, xs0, .inl (.inl hH)⟩, ?_⟩
    have x1' : Sx c n (Mp ++ ((Mi ++ Me) ++ [root])) [] σ as B σ as1 T B1 H1 := x1.sx.mono (fun i z => List.mem_append_left _ z) (fun _ z => z)
    refine ki n σ as1 B1 H1 T _ x1.gd x1.sr (Kn.mono (OK.out (OK.step x1' h)) ?_ fun _ _ z => z)
    rintro ⟨wi, r2⟩ eb h2 as2 u B2 H2 x2 (eu : u.er = wi) (rfl : ers as2 = r2)
    have x2' : Sx c n (Mp ++ ((Mi ++ Me) ++ [root])) [] σ as1 B1 σ as2 T B2 H2 := x2.dropT.sx.mono (fun i z => List.mem_append_right _ (List.mem_append_left _ (List.mem_append_left _ z))) (fun _ z => z)
    refine ke n σ as2 B2 H2 (u :: T) _ x2.gd x2.sr (Kn.mono (OK.out (OK.step x2' h2)) ?_ fun _ _ z => z)
    rintro ⟨w2, r3⟩ ec h3 as3 y B3 H3 x3 (ey : y.er = w2) (rfl : ers as3 = r3)
    dsimp only at h3
    split at h3
    · rename_i k1
      split at h3
      · rename_i hk
        split at h3
        · rename_i r4 e4
          have x23 := x2.trans x3
          have eg : ∃ w3, eget (ers as3) q = some w3 := by
            unfold onL at e4
            cases e5 : eget (ers as3) q with
            | some w3 => exact ⟨w3, rfl⟩
            | none =>
              rw [e5] at e4
              cases e4
          obtain ⟨w3, eg⟩ := eg
          have pa3 := pa.stab x23 x1.sr (st _ _ _ ea) eg
          have uv : u.val = .int k1 := by
            have gd : G c n B3 H3 (live as3 ++ (y :: u :: T)) := x3.gd
            have rv := Gd.view gd (x := u) (List.mem_append_right _ (List.mem_cons_of_mem _ List.mem_cons_self))
            rw [eu] at rv
            exact rv
          obtain ⟨a, xs, cs', ev, hH2, ew, ef, hs, wr⟩ := write_core (Ms := [y]) (σ := σ) (Nx.drop2 x3).gd x3.sr pa3 e4
          have ef := Option.some.inj ef
          have hperm : (objsL c (xs ++ [y])).Perm (objsL c (xs.take k1.toNat ++ y :: xs.drop k1.toNat) ++ []) := by
            rw [List.append_nil]
            refine objsL_perm ?_
            have e0 : xs ++ [y] = xs.take k1.toNat ++ (xs.drop k1.toNat ++ [y]) := by rw [← List.append_assoc, List.take_append_drop]
            rw [e0]
            exact List.Perm.append_left _ (List.perm_append_singleton y _)
          obtain ⟨as4, g4, s4, e5, f4⟩ := wr (xs.take k1.toNat ++ y :: xs.drop k1.toNat) [] (by rw [← ef, ← ey]; simp [List.map_take, List.map_drop]) hperm (fun z y2 hz => by
            refine z y2 ?_
            rcases List.mem_append.mp hz with hz | hz
            · exact List.mem_append_left _ (List.mem_of_mem_take hz)
            · rcases List.mem_cons.mp hz with hz | hz
              · rw [hz]
                exact List.mem_append_right _ List.mem_cons_self
              · exact List.mem_append_left _ (List.mem_of_mem_drop hz))
          have hsz : (vals xs).length < sizeLine := by
            have h1 := small_sz hs
            rw [← ef] at h1
            simp at h1
            have : (vals xs).length = xs.length := by simp [vals]
            omega
          have ev2 : (V.ref a0) = .ref a := ev
          refine ⟨a, vals xs, k1, y.val, ev2, by (show [u.val, y.val] = _; rw [uv]), hH2, hsz, hk.1, hk.2, ?_⟩
          have e6 : (vals xs).take k1.toNat ++ [y.val] ++ (vals xs).drop k1.toNat = vals (xs.take k1.toNat ++ y :: xs.drop k1.toNat) := by simp [vals, List.map_take, List.map_drop]
          rw [e6]
          refine h3 σ as4 B3 _ ⟨x3.sb, g4, s4, fun i hi => ?_, fun _ _ => rfl, rfl⟩ e5
          rw [f4 i fun z => hi (List.mem_append_right _ (List.mem_append_right _ (by rw [z, hr _ _ _ ea]; exact List.mem_cons_self)))]
          exact x3.fr i fun z => hi (List.mem_append_right _ (List.mem_append_left _ (List.mem_append_right _ z)))
        · exact h3.elim
      · exact h3.elim
    · exact h3.elim
  · exact h.elim
/-! ### d[k] = e -/
theorem ssnd_popi (x : XOk c k X) {o i : Expr} {Mp Mi : List Nat} {sp : Sm (Nat × List Nat)} {si : Sm W} {root : Nat} {apos cpos pos : Pos} (hp : PSnd c X Y o Mp sp) (hi : ESnd c X Y i Mi si) (ok : okE i = true) (oo : okO o = true) (hl : (apos.endLine == cpos.line) = true)
    (st : ∀ r q r1, sp r = .ok (q, r1) → q.2 = [] ∨ q.1 ∉ Mi) (hr : ∀ r q r1, sp r = .ok (q, r1) → q.1 = root) :
    SSnd c X Y (.Expr (.Call (.Attribute o "pop" apos) [i] [] cpos) pos) (Mp ++ (Mi ++ [root])) [] (fun r => (sp r).out fun (q, r1) => if isL r1 q then (si r1).out fun (k, r2) => match (eget r2 q).bind fun x => stepIx x k with
      | some j => match onL r2 q fun cs => some (cs.eraseIdx j) with
        | some r3 => .nx r3
        | none => .bad
      | none => .bad
      else .bad) := by
  obtain ⟨tp, pp, kp⟩ := hp
  obtain ⟨ti, pi, _, ki⟩ := hi
  have pc : PE X (.Call (.Attribute o "pop" apos) [i] [] cpos) (tBM X.K "list" rPopAt tp (tCons ti tNil)) := pe_bm F.plainAttrs_list F.slot_list_pop F.type_list_pop (fun pins s σ H x xs v us Q I rx rv h => mt_popAt pins s σ H x xs v us Q I rx rv h) pp (pa_cons pi pa_nil (star_ok ok)) (base_ok oo) (star_few ok) hl (star_ok ok) (by rfl)
  refine ⟨_, ps_expr pc (sw_ok rfl rfl), fun n σ as B H T D g s ok => kp n σ as B H T _ g s (Kn.mono (OK.out ok) ?_ fun _ _ z => z)⟩
  rintro ⟨q, r1⟩ ea h as1 v w B1 H1 x1 (rfl : ers as1 = r1) pa
  dsimp only at h
  split at h
  · rename_i hl
    obtain ⟨a0, xs0, ev, hH⟩ := isl_ok x1.gd pa hl
    subst ev
    refine ⟨.inl ⟨rfl, xs0, .inl (.inl hH)⟩, ?_⟩
    have x1' : Sx c n (Mp ++ (Mi ++ [root])) [] σ as B σ as1 T B1 H1 := x1.sx.mono (fun i z => List.mem_append_left _ z) (fun _ z => z)
    refine ki n σ as1 B1 H1 T _ x1.gd x1.sr (Kn.mono (OK.out (OK.step x1' h)) ?_ fun _ _ z => z)
    rintro ⟨wi, r2⟩ eb h2 as2 u B2 H2 x2 (eu : u.er = wi) (rfl : ers as2 = r2)
    dsimp only at h2
    split at h2
    · rename_i j ej
      split at h2
      · rename_i r3 e3
        obtain ⟨w3, eg, ej⟩ := Option.bind_eq_some_iff.mp ej
        have pa2 := pa.stab x2 x1.sr (st _ _ _ ea) eg
        obtain ⟨a, xs, cs', ev, hH2, ew, ef, hs, wr⟩ := write_core (Ms := []) (σ := σ) x2.dropT.gd x2.sr pa2 e3
        have ef := Option.some.inj ef
        subst ew
        have hk : ∃ i', u.er = .fl (.int i') ∧ ixN xs.length i' = some j := by
          unfold stepIx at ej
          rw [← eu] at ej
          have e7 : (W.nd Kd.lst (xs.map A.er)).kids = some (.lst, (xs.map A.er).length) := rfl
          rw [e7] at ej
          split at ej
          · rename_i m i' h1 h2'
            injection h1 with h1
            injection h1 with _ h1
            rw [← h1, List.length_map] at ej
            exact ⟨i', h2', ej⟩
          · rename_i m i' h1 h2'
            injection h1 with h1
            injection h1 with h1 _
            cases h1
          · cases ej
        obtain ⟨i', k1, k2⟩ := hk
        obtain ⟨s1, s2, s3, s4⟩ := ixN_seq k2
        have hln : xs.length ≤ 100001 := by
          have h1 := small_le hs
          rw [← ef] at h1
          rw [List.length_eraseIdx] at h1
          rw [List.length_map] at h1
          split at h1 <;> omega
        obtain ⟨as3, g3, s3', e5, f3⟩ := wr (xs.eraseIdx j) (xs[j].objs c) (by rw [← ef]; exact (map_era A.er xs j).symm) (objs_erase (List.getElem?_eq_getElem s2)) (fun z z' hz => z z' (by rw [List.append_nil]; exact List.mem_of_mem_eraseIdx hz))
        have ev2 : (V.ref a0) = .ref a := ev
        refine ⟨a, vals xs, i', j, (xs[j]).val, ev2, by rw [x2.int k1], hH2, by omega, by omega, by simpa [vals] using s1, by simp [vals, List.getElem?_eq_getElem s2], ?_⟩
        have e6 : (vals xs).eraseIdx j = vals (xs.eraseIdx j) := by
          unfold vals
          exact map_era _ _ _
        rw [e6]
        refine h2 σ as3 B2 _ ⟨x2.sb, g3, s3', fun i hi => ?_, fun _ _ => rfl, rfl⟩ e5
        rw [f3 i fun z => hi (List.mem_append_right _ (List.mem_append_right _ (by rw [z, hr _ _ _ ea]; exact List.mem_cons_self)))]
        exact x2.fr i fun z => hi (List.mem_append_right _ (List.mem_append_left _ z))
      · exact h2.elim
    · exact h2.elim
  · exact h.elim
theorem putK_out {α : Type} [DecidableEq α] {k : α} {v : V} : ∀ {ks : List α} {us : List V}, atZ ks k = none → putK (ks.zip us) k v = ks.zip us ++ [(k, v)] := by
  intro ks us h
  have hn : ∀ {ks : List α}, atZ ks k = none → k ∉ ks := by
    intro ks
    induction ks with
    | nil => intro _ z; cases z
    | cons a ks ih =>
      intro h z
      unfold atZ at h
      split at h
      · cases h
      · rename_i ha
        rcases List.mem_cons.mp z with z | z
        · exact ha z.symm
        · cases e : atZ ks k with
          | none => exact ih e z
          | some j =>
            rw [e] at h
            cases h
  unfold putK
  rw [if_neg]
  intro z
  obtain ⟨p, hp, e⟩ := List.any_eq_true.mp z
  exact hn h (by rw [← of_decide_eq_true e]; exact (List.of_mem_zip hp).1)
theorem atZ_mem {α : Type} [DecidableEq α] {k : α} : ∀ {ks : List α} {j : Nat}, atZ ks k = some j → k ∈ ks
  | [], _, h => by cases h
  | a :: ks, j, h => by
    unfold atZ at h
    split at h
    · rename_i hb
      rw [hb]
      exact List.mem_cons_self
    · obtain ⟨j2, e2, _⟩ := Option.map_eq_some_iff.mp h
      exact List.mem_cons_of_mem _ (atZ_mem e2)
theorem putK_in {α : Type} [DecidableEq α] {k : α} {v : V} : ∀ {ks : List α} {us : List V} {j : Nat}, ks.Nodup → ks.length = us.length → atZ ks k = some j → putK (ks.zip us) k v = ks.zip (us.set j v)
  | [], _, _, _, _, h => by cases h
  | a :: ks, [], _, _, hl, _ => by cases hl
  | a :: ks, u :: us, j, nd, hl, h => by
    obtain ⟨na, nd⟩ := List.nodup_cons.mp nd
    have mapid : ∀ l : List (α × V), (∀ p ∈ l, p.1 ≠ k) → l.map (fun kv => if kv.1 = k then (kv.1, v) else kv) = l := fun l hp => by
      induction l with
      | nil => rfl
      | cons p l ih => rw [List.map_cons, if_neg (hp p List.mem_cons_self), ih fun q hq => hp q (List.mem_cons_of_mem _ hq)]
    unfold atZ at h
    split at h
    · rename_i ha
      have hj := Option.some.inj h
      subst hj
      subst ha
      unfold putK
      rw [if_pos (by simp)]
      show (if a = a then (a, v) else (a, u)) :: (ks.zip us).map _ = (a, v) :: ks.zip us
      rw [if_pos rfl, mapid _ fun p hp z => na (by rw [← z]; exact (List.of_mem_zip hp).1)]
    · rename_i ha
      obtain ⟨j', e, hj⟩ := Option.map_eq_some_iff.mp h
      subst hj
      have ih := putK_in (v := v) nd (Nat.succ.inj hl) e
      unfold putK at ih ⊢
      have hany : ((ks.zip us).any fun kv => decide (kv.1 = k)) = true := by
        have hm : k ∈ ks := atZ_mem e
        obtain ⟨i, hi, ei⟩ := List.mem_iff_getElem.mp hm
        have hi2 : i < us.length := by have := Nat.succ.inj hl; omega
        refine List.any_eq_true.mpr ⟨(ks[i], us[i]), List.mem_iff_getElem.mpr ⟨i, by simp; omega, by simp⟩, by simp [ei]⟩
      rw [if_pos hany] at ih
      rw [if_pos (by simp only [List.zip_cons_cons, List.any_cons, hany, Bool.or_true])]
      show (if a = k then (a, v) else (a, u)) :: (ks.zip us).map _ = (a, u) :: ks.zip (us.set j' v)
      rw [if_neg ha, ih]
theorem put_zip {α : Type} [DecidableEq α] {k : α} {ks : List α} {ws : List W} {xs : List A} {w : W} {y : A} (nd : ks.Nodup) (hl : ks.length = xs.length) (ew : xs.map A.er = ws) (ey : y.er = w) :
    ∃ (xs' : List A) (Xo : List (Addr × HO)), xs'.map A.er = (putZ ks ws k w).2 ∧ (putZ ks ws k w).1.length = xs'.length ∧ (putZ ks ws k w).1.zip (vals xs') = putK (ks.zip (vals xs)) k y.val ∧ (objsL c (xs ++ [y])).Perm (objsL c xs' ++ Xo) ∧ ∀ z ∈ xs', z ∈ xs ++ [y] := by
  subst ew
  subst ey
  unfold putZ
  cases e : atZ ks k with
  | none =>
    refine ⟨xs ++ [y], [], by simp, by simp [hl], ?_, by rw [List.append_nil], fun z hz => hz⟩
    rw [putK_out e]
    show (ks ++ [k]).zip (vals (xs ++ [y])) = _
    have : vals (xs ++ [y]) = vals xs ++ [y.val] := by simp [vals]
    rw [this, List.zip_append (by simp [vals, hl])]
    rfl
  | some j =>
    have hj : j < xs.length := by rw [← hl]; exact atZ_lt e
    refine ⟨xs.set j y, xs[j].objs c, by simp [List.map_set], by simp [hl], ?_, objs_setP (List.getElem?_eq_getElem hj), fun z hz => ?_⟩
    · rw [putK_in nd (by simp [vals, hl]) e]
      simp [vals, List.map_set]
    · rcases List.mem_or_eq_of_mem_set hz with hz | hz
      · exact List.mem_append_left _ hz
      · rw [hz]
        exact List.mem_append_right _ List.mem_cons_self
theorem dput_core {q : Nat × List Nat} {v : V} {w k : W} {r4 : Env} {y : A} {kv : V} (g : G c n B1 H1 (live as1 ++ ([y] ++ T))) (s1 : SR σ as1) (pa : PAt c B1 as1 q v w) (e : onD (ers as1) q k y.er = some r4) (rk : RepD c H1 k.dat kv) :
    ∃ a H2 as2, v = .ref a ∧ DPut H1 a kv y.val H2 ∧ G c n B1 H2 (live as2 ++ T) ∧ SR σ as2 ∧ ers as2 = r4 ∧ ∀ i, i ≠ q.1 → as2[i]? = as1[i]? := by
  unfold onD at e
  rw [pa.get] at e
  split at e
  · rename_i ks cs ew
    have ew := Option.some.inj ew
    subst ew
    split at e
    · rename_i x hx
      split at e
      · rename_i hc
        obtain ⟨hc, _⟩ := and2 hc
        obtain ⟨hc, c3⟩ := and2 hc
        obtain ⟨c1, c2⟩ := and2 hc
        have c2 := of_decide_eq_true c2
        have c3 := of_decide_eq_true c3
        have e5 := Option.some.inj e
        obtain ⟨y0, y1, y2⟩ := pa
        obtain ⟨a, dx, xs, z1, z2, z3⟩ := A.at_sub y2
        have eg : (ers as1)[q.1]? = some (some y0.er) := by
          rw [ers_get, y1]
          rfl
        have hl : ks.length = xs.length := by rw [c2, ← z2, List.length_map]
        obtain ⟨xs', Xo, p1, p2, p3, p4, p5⟩ := put_zip (c := c) (k := x) (w := y.er) (y := y) c3 hl z2 rfl
        have hH : H1 a = some (.dK (ks.zip (vals xs))) := (g.hold (a, HO.dK (ks.zip (vals xs))) (mem_objsL (List.mem_append_left _ (live_mem y1)) (sub_objs z1 _ List.mem_cons_self))).1
        have hsz : (ks.zip (vals xs)).length < sizeLine := by
          have := small_lt c1
          rw [← z2, List.length_map] at this
          simp [vals]
          omega
        have ekv := key_rep (B := H1) hx rk
        subst ekv
        have dp := DPut.k (k := x) (v := y.val) hH hsz
        rw [← p3] at dp
        obtain ⟨R, q1, q2⟩ := A.put_at (c := c) z1
        have pv := (q2 (.nd a dx (.dK (putZ ks cs x y.er).1) xs') rfl).1
        refine ⟨a, _, as1.set q.1 (some (y0.put q.2 (.nd a dx (.dK (putZ ks cs x y.er).1) xs'))), z3, dp, G.writeAt (k := .dK ks) (k' := .dK (putZ ks cs x y.er).1) g y1 z1 rfl p2 p4 (fun z z' hz => z z' (p5 z' hz)), s1.chg y1 pv, ?_, fun i hi => List.getElem?_set_ne (Ne.symm hi)⟩
        rw [← e5, ers_set]
        unfold W.setAt
        rw [eg]
        show (ers as1).set q.1 (some (y0.put q.2 _).er) = _
        rw [A.er_put, A.er_nd, p1]
      · cases e
    · cases e
  · rename_i ks cs ew
    have ew := Option.some.inj ew
    subst ew
    split at e
    · rename_i x hx
      split at e
      · rename_i hc
        obtain ⟨hc, _⟩ := and2 hc
        obtain ⟨hc, c3⟩ := and2 hc
        obtain ⟨c1, c2⟩ := and2 hc
        have c2 := of_decide_eq_true c2
        have c3 := of_decide_eq_true c3
        have e5 := Option.some.inj e
        obtain ⟨y0, y1, y2⟩ := pa
        obtain ⟨a, dx, xs, z1, z2, z3⟩ := A.at_sub y2
        have eg : (ers as1)[q.1]? = some (some y0.er) := by
          rw [ers_get, y1]
          rfl
        have hl : ks.length = xs.length := by rw [c2, ← z2, List.length_map]
        obtain ⟨xs', Xo, p1, p2, p3, p4, p5⟩ := put_zip (c := c) (k := x) (w := y.er) (y := y) c3 hl z2 rfl
        have hH : H1 a = some (.dT (ks.zip (vals xs))) := (g.hold (a, HO.dT (ks.zip (vals xs))) (mem_objsL (List.mem_append_left _ (live_mem y1)) (sub_objs z1 _ List.mem_cons_self))).1
        have hsz : (ks.zip (vals xs)).length < sizeLine := by
          have := small_lt c1
          rw [← z2, List.length_map] at this
          simp [vals]
          omega
        obtain ⟨b, ekv, hb⟩ := keyT_rep hx rk
        subst ekv
        have dp := DPut.t (k := x) (v := y.val) hH hb hsz
        rw [← p3] at dp
        obtain ⟨R, q1, q2⟩ := A.put_at (c := c) z1
        have pv := (q2 (.nd a dx (.dT (putZ ks cs x y.er).1) xs') rfl).1
        refine ⟨a, _, as1.set q.1 (some (y0.put q.2 (.nd a dx (.dT (putZ ks cs x y.er).1) xs'))), z3, dp, G.writeAt (k := .dT ks) (k' := .dT (putZ ks cs x y.er).1) g y1 z1 rfl p2 p4 (fun z z' hz => z z' (p5 z' hz)), s1.chg y1 pv, ?_, fun i hi => List.getElem?_set_ne (Ne.symm hi)⟩
        rw [← e5, ers_set]
        unfold W.setAt
        rw [eg]
        show (ers as1).set q.1 (some (y0.put q.2 _).er) = _
        rw [A.er_put, A.er_nd, p1]
      · cases e
    · cases e
  · cases e
/-- p[k] = e, a dict -/
theorem ssnd_setk (x : XOk c k X) {o i e : Expr} {Mp Mi Me : List Nat} {sp : Sm (Nat × List Nat)} {si se : Sm W} {root : Nat} {p pos : Pos} (he : ESnd c X Y e Me se) (hp : PSnd c X Y o Mp sp) (hi : ESnd c X Y i Mi si) (ok : okE e = true) (nl : noLc e = true)
    (st : ∀ r q r1, sp r = .ok (q, r1) → q.2 = [] ∨ q.1 ∉ Mi) (hr : ∀ r q r1, sp r = .ok (q, r1) → q.1 = root) :
    SSnd c X Y (.Assign [.Subscript o i p] e pos) (Me ++ (Mp ++ (Mi ++ [root]))) [] (fun r => (se r).out fun (w, r1) => (sp r1).out fun (q, r2) => (si r2).out fun (k, r3) => match onD r3 q k w with
      | some r4 => .nx r4
      | none => .bad) := by
  obtain ⟨te, pe, _, ke⟩ := he
  obtain ⟨tp, pp, kp⟩ := hp
  obtain ⟨ti, pi, _, ki⟩ := hi
  refine ⟨_, ps_dput (hu_of x.room) pp pi pe (sw_ok ok nl), fun n σ as B H T D g s ok => ke n σ as B H T _ g s (Kn.mono (OK.out ok) ?_ fun _ _ z => z)⟩
  rintro ⟨w1, r1⟩ ea h as1 y B1 H1 x1 (ey : y.er = w1) (rfl : ers as1 = r1)
  have m1 : Sx c n (Me ++ (Mp ++ (Mi ++ [root]))) [] σ as B σ as1 (y :: T) B1 H1 := x1.sx.mono (fun i z => List.mem_append_left _ z) (fun _ z => z)
  refine kp n σ as1 B1 H1 (y :: T) _ x1.gd x1.sr (Kn.mono (OK.out (OK.step m1 h)) ?_ fun _ _ z => z)
  rintro ⟨q, r2⟩ eb h2 as2 v w B2 H2 x2 (rfl : ers as2 = r2) pa
  have m2 : Sx c n (Me ++ (Mp ++ (Mi ++ [root]))) [] σ as1 B1 σ as2 (y :: T) B2 H2 := x2.sx.mono (fun i z => List.mem_append_right _ (List.mem_append_left _ z)) (fun _ z => z)
  refine ki n σ as2 B2 H2 (y :: T) _ x2.gd x2.sr (Kn.mono (OK.out (OK.step m2 h2)) ?_ fun _ _ z => z)
  rintro ⟨wi, r3⟩ ec h3 as3 u B3 H3 x3 (eu : u.er = wi) (rfl : ers as3 = r3)
  dsimp only at h3
  split at h3
  · rename_i r4 e4
    have eg : ∃ w3, eget (ers as3) q = some w3 := by
      unfold onD at e4
      cases e5 : eget (ers as3) q with
      | some w3 => exact ⟨w3, rfl⟩
      | none =>
        rw [e5] at e4
        cases e4
    obtain ⟨w3, eg⟩ := eg
    have pa3 := pa.stab x3 x2.sr (st _ _ _ eb) eg
    have rv := Gd.view x3.gd (x := u) (List.mem_append_right _ List.mem_cons_self)
    rw [eu] at rv
    rw [← ey] at e4
    obtain ⟨a, H4, as4, ev, dp, g4, s4, e5, f4⟩ := dput_core (σ := σ) x3.dropT.gd x3.sr pa3 e4 rv
    refine ⟨a, H4, ev, dp, ?_⟩
    refine h3 σ as4 B3 _ ⟨x3.sb, g4, s4, fun i hi => ?_, fun _ _ => rfl, rfl⟩ e5
    rw [f4 i fun z => hi (List.mem_append_right _ (List.mem_append_right _ (List.mem_append_right _ (by rw [z, hr _ _ _ eb]; exact List.mem_cons_self))))]
    exact x3.fr i fun z => hi (List.mem_append_right _ (List.mem_append_right _ (List.mem_append_left _ z)))
  · exact h3.elim
/-- i += e, ints -/
theorem ssnd_aug (x : XOk c k X) {i : Nat} {y : Str} {e : Expr} {se : Sm W} {p pos : Pos} (hl : locB k i y = true) (he : ESnd c X Y e M se) :
    SSnd c X Y (.AugAssign (.Name y p) .Add e pos) (M ++ [i]) [i] (fun r => match r[i]? with
      | some (some (.fl (.int a))) => (se r).out fun (w, r1) => match w with
        | .fl (.int b) => if i < r1.length then .nx (r1.set i (some (.fl (.int (a + b))))) else .bad
        | _ => .bad
      | _ => .bad) := by
  obtain ⟨t, pe, _, ke⟩ := he
  obtain ⟨l1, l2, l3⟩ := loc_of x hl
  refine ⟨_, ps_aug (i := i) (by rw [x.hN]; exact x.nd) l1 l2 pe ip_add l3, fun n σ as B H T D g s ok => ?_⟩
  dsimp only at ok
  split at ok
  · rename_i a ha
    rw [ers_get] at ha
    cases ez : as[i]? with
    | none =>
      rw [ez] at ha
      cases ha
    | some z =>
      cases z with
      | none =>
        rw [ez] at ha
        cases ha
      | some z =>
        rw [ez] at ha
        have hz : z.er = .fl (.int a) := Option.some.inj (Option.some.inj ha)
        have rv := Gd.view g (x := z) (List.mem_append_left _ (live_mem ez))
        rw [hz] at rv
        have rv : z.val = .int a := rv
        refine ⟨.int a, by rw [← rv]; exact s.2 _ _ ez, ke n σ as B H T _ g s (Kn.mono (OK.out ok) ?_ fun _ _ z => z)⟩
        rintro ⟨w, r1⟩ ea h as1 u B1 H1 x1 (eu : u.er = w) (rfl : ers as1 = r1)
        dsimp only at h
        split at h
        · rename_i b
          split at h
          · rename_i hi
            have x2 : Nx c n σ M as B as1 (.fl (.int (a + b)) (.int (a + b)) :: T) B1 H1 := (x1.dropT).add rfl
            exact ⟨a, b, rfl, x1.int eu, h (σ.set i (some (.int (a + b)))) (as1.set i (some (.fl (.int (a + b)) (.int (a + b))))) B1 H1 (Sx.bindS x2 hi) (by rw [ers_set]; rfl)⟩
          · exact h.elim
        · exact h.elim
  · exact ok.elim
/-- a comprehension bound to a name that is a cell -/
theorem sw_cell {elt : Expr} {gs : List Comprehension} {scope : Scope} {pos py : Pos} {y : Str} {l : Nat} {env : PySem.Env} (hy : env.scope.names.lookup y = some .cell) : swapsWith (.ListComp elt gs scope pos) (some (.Name y py)) l env = pure false := by
  have ky : env.kindOf y = some .cell := hy
  unfold swapsWith
  simp only [ky]
  have e : (some NameKind.cell == some NameKind.local) = false := by decide
  simp only [e, Bool.and_false, Bool.false_and]
  try rfl
theorem ssnd_asgL (x : XOk c k X) {i : Nat} {y : Str} {elt : Expr} {gs : List Comprehension} {scope : Scope} {se : Sm W} {p lp pos : Pos} (hl : locB k i y = true) (hc : k.sc.names.lookup y = some .cell) (he : ESnd c X Y (.ListComp elt gs scope lp) M se) :
    SSnd c X Y (.Assign [.Name y p] (.ListComp elt gs scope lp) pos) (M ++ [i]) [i] (fun r => (se r).out fun (w, r1) => if i < r1.length then .nx (r1.set i (some w)) else .bad) := by
  obtain ⟨t, pe, _, ke⟩ := he
  obtain ⟨l1, l2, l3⟩ := loc_of x hl
  exact ⟨_, ps_set (i := i) (by rw [x.hN]; exact x.nd) l1 l2 pe (sw_cell (by rw [x.sc]; exact hc)) l3, fun n σ as B H T D g s ok => asg_core (X := X) ke g s ok⟩
end
end Vx
end

section
set_option maxHeartbeats 4000000
/-! p[lo:hi] = e of a list of its own. -/
namespace Vx
open PySem L2
section
variable {c : Gx} {Γ : Den} {k : Ck} {X : Cx} {Y : WX} {n : En} {σ σ1 σ2 : L2.St} {as as1 as2 : Sl} {B H B1 H1 B2 H2 : Hp} {T T1 T2 : List A} {M N Ws : List Nat} {D : Ends}
theorem objs_slc {xs kids : List A} {i j : Nat} (h : i ≤ j) : (objsL c (xs ++ kids)).Perm (objsL c (xs.take i ++ kids ++ xs.drop j) ++ objsL c ((xs.drop i).take (j - i))) := by
  rw [← objsL_append]
  refine objsL_perm ?_
  have e : xs = xs.take i ++ ((xs.drop i).take (j - i) ++ xs.drop j) := by
    have e1 : xs.drop j = (xs.drop i).drop (j - i) := by rw [List.drop_drop]; congr 1; omega
    rw [e1, List.take_append_drop, List.take_append_drop]
  have p1 : (xs ++ kids).Perm (xs.take i ++ ((xs.drop i).take (j - i) ++ xs.drop j) ++ kids) := by rw [← e]
  refine p1.trans ?_
  simp only [List.append_assoc]
  refine List.Perm.append_left _ ?_
  refine List.perm_append_comm.trans ?_
  rw [← List.append_assoc kids]
  exact List.Perm.append_right _ List.perm_append_comm
theorem ssnd_slc (x : XOk c k X) {o lo hi e : Expr} {Mp Ml Mh Me : List Nat} {sp : Sm (Nat × List Nat)} {sl sh se : Sm W} {root : Nat} {p p2 pos : Pos} (he : ESnd c X Y e Me se) (hp : PSnd c X Y o Mp sp) (hl : ESnd c X Y lo Ml sl) (hh : ESnd c X Y hi Mh sh) (ok : okE e = true) (nl : noLc e = true)
    (st : ∀ r q r1, sp r = .ok (q, r1) → q.2 = [] ∨ q.1 ∉ Ml ++ Mh) (hr : ∀ r q r1, sp r = .ok (q, r1) → q.1 = root) :
    SSnd c X Y (.Assign [.Subscript o (.Slice (some lo) (some hi) none p2) p] e pos) (Me ++ (Mp ++ ((Ml ++ Mh) ++ [root]))) [] (fun r => (se r).out fun (w, r1) => (sp r1).out fun (q, r2) => (sl r2).out fun (a, r3) => (sh r3).out fun (b, r4) => match w, a, b with
      | .nd .lst ws, .fl (.int i), .fl (.int j) => if 0 ≤ i ∧ i ≤ j then (match onL r4 q fun cs => if j ≤ (cs.length : Int) ∧ small (cs.length + ws.length) = true then some (cs.take i.toNat ++ ws ++ cs.drop j.toNat) else none with
        | some r5 => .nx r5
        | none => .bad) else .bad
      | _, _, _ => .bad) := by
  obtain ⟨te, pe, _, ke⟩ := he
  obtain ⟨tp, pp, kp⟩ := hp
  obtain ⟨tl, pl, _, kl⟩ := hl
  obtain ⟨th, ph, _, kh⟩ := hh
  refine ⟨_, ps_asg pe (pg_slc pp pl ph) (by unfold swapsWithSole; exact sw_ok ok nl) (sws_sub), fun n σ as B H T D g s ok => ke n σ as B H T _ g s (Kn.mono (OK.out ok) ?_ fun _ _ z => z)⟩
  rintro ⟨w1, r1⟩ ea h as1 y B1 H1 x1 (ey : y.er = w1) (rfl : ers as1 = r1)
  have m1 : Sx c n (Me ++ (Mp ++ ((Ml ++ Mh) ++ [root]))) [] σ as B σ as1 (y :: T) B1 H1 := x1.sx.mono (fun i z => List.mem_append_left _ z) (fun _ z => z)
  refine kp n σ as1 B1 H1 (y :: T) _ x1.gd x1.sr (Kn.mono (OK.out (OK.step m1 h)) ?_ fun _ _ z => z)
  rintro ⟨q, r2⟩ eb h2 as2 v w B2 H2 x2 (rfl : ers as2 = r2) pa
  have m2 : Sx c n (Me ++ (Mp ++ ((Ml ++ Mh) ++ [root]))) [] σ as1 B1 σ as2 (y :: T) B2 H2 := x2.sx.mono (fun i z => List.mem_append_right _ (List.mem_append_left _ z)) (fun _ z => z)
  refine kl n σ as2 B2 H2 (y :: T) _ x2.gd x2.sr (Kn.mono (OK.out (OK.step m2 h2)) ?_ fun _ _ z => z)
  rintro ⟨wa, r3⟩ ec h3 as3 u B3 H3 x3 (eu : u.er = wa) (rfl : ers as3 = r3)
  have m3 : Sx c n (Me ++ (Mp ++ ((Ml ++ Mh) ++ [root]))) [] σ as2 B2 σ as3 (y :: T) B3 H3 := x3.dropT.sx.mono (fun i z => List.mem_append_right _ (List.mem_append_right _ (List.mem_append_left _ (List.mem_append_left _ z)))) (fun _ z => z)
  refine kh n σ as3 B3 H3 (u :: y :: T) _ x3.gd x3.sr (Kn.mono (OK.out (OK.step m3 h3)) ?_ fun _ _ z => z)
  rintro ⟨wb, r4⟩ ed h4 as4 z B4 H4 x4 (ez : z.er = wb) (rfl : ers as4 = r4)
  dsimp only at h4
  split at h4
  · rename_i ws i j
    split at h4
    · rename_i hij
      split at h4
      · rename_i r5 e5
        have x34 := x3.trans x4
        have eg : ∃ w3, eget (ers as4) q = some w3 := by
          unfold onL at e5
          cases e6 : eget (ers as4) q with
          | some w3 => exact ⟨w3, rfl⟩
          | none =>
            rw [e6] at e5
            cases e5
        obtain ⟨w3, eg⟩ := eg
        have pa4 := pa.stab x34 x2.sr (st _ _ _ eb) eg
        have gd : G c n B4 H4 (live as4 ++ (z :: u :: y :: T)) := x4.gd
        have uv : u.val = .int i := by
          have rv := Gd.view gd (x := u) (List.mem_append_right _ (List.mem_cons_of_mem _ List.mem_cons_self))
          rw [eu] at rv
          exact rv
        have zv : z.val = .int j := by
          have rv := Gd.view gd (x := z) (List.mem_append_right _ List.mem_cons_self)
          rw [ez] at rv
          exact rv
        have gy : G c n B4 H4 (live as4 ++ (y :: T)) := (Nx.dropT (x := u) (Nx.dropT (x := z) x4)).gd
        cases y with
        | fl v d =>
          rw [A.er_fl] at ey
          cases ey
        | nd b dx kd kids =>
          rw [A.er_nd] at ey
          injection ey with ek ew0
          subst ek
          obtain ⟨a, xs, cs', ev, hH, ew, ef, hs, wr⟩ := write_core (Ms := kids) (σ := σ) gy.openN x4.sr pa4 e5
          split at ef
          · rename_i hc
            obtain ⟨hc1, hc2⟩ := hc
            have ef := Option.some.inj ef
            rw [List.length_map] at hc1
            have hb : H4 b = some (.lst (vals kids)) := (gy.hold (b, HO.lst (vals kids)) (mem_objsL (x := A.nd b dx .lst kids) (List.mem_append_right _ List.mem_cons_self) List.mem_cons_self)).1
            have hne : a ≠ b := by
              intro hab
              rw [ew] at pa4
              obtain ⟨yr, y1, y2⟩ := pa4
              obtain ⟨a', dx', xs', z1, z2, z3⟩ := A.at_sub y2
              have ev' : V.ref a = V.ref a' := ev.symm.trans z3
              have ea' : a = a' := by injection ev'
              have m1 : (a', HO.lst (vals xs')) ∈ objsL c (live as4) := mem_objsL (live_mem y1) (sub_objs z1 _ List.mem_cons_self)
              have nd := gy.nd
              rw [objsL_append, ads_append] at nd
              have m2 : b ∈ ads (objsL c (A.nd b dx .lst kids :: T)) := List.mem_cons_self
              exact (List.nodup_append.mp nd).2.2 a' (List.mem_map.mpr ⟨_, m1, rfl⟩) b m2 (ea'.symm.trans hab)
            obtain ⟨as5, g5, s5, e6, f5⟩ := wr (xs.take i.toNat ++ kids ++ xs.drop j.toNat) (objsL c ((xs.drop i.toNat).take (j.toNat - i.toNat))) (by rw [← ef, ← ew0]; simp [List.map_take, List.map_drop]) (objs_slc (by omega)) (fun zz z2 hz => by
              refine zz z2 ?_
              rcases List.mem_append.mp hz with hz | hz
              · rcases List.mem_append.mp hz with hz | hz
                · exact List.mem_append_left _ (List.mem_of_mem_take hz)
                · exact List.mem_append_right _ hz
              · exact List.mem_append_left _ (List.mem_of_mem_drop hz))
            have hsz : (vals xs).length + (vals kids).length ≤ sizeLine := by
              have h1 := small_sz hc2
              rw [← ew0] at h1
              simp at h1
              have l1 : (vals xs).length = xs.length := by simp [vals]
              have l2 : (vals kids).length = kids.length := by simp [vals]
              omega
            have l1 : (vals xs).length = xs.length := by simp [vals]
            refine ⟨a, b, vals xs, vals kids, i, j, ev, rfl, uv, zv, hH, hb, hne, hij.1, hij.2, by rw [l1]; exact hc1, hsz, ?_⟩
            have e7 : (vals xs).take i.toNat ++ vals kids ++ (vals xs).drop j.toNat = vals (xs.take i.toNat ++ kids ++ xs.drop j.toNat) := by simp [vals, List.map_take, List.map_drop]
            rw [e7]
            refine h4 σ as5 B4 _ ⟨x4.sb, g5, s5, fun ii hi => ?_, fun _ _ => rfl, rfl⟩ e6
            rw [f5 ii fun zz => hi (List.mem_append_right _ (List.mem_append_right _ (List.mem_append_right _ (by rw [zz, hr _ _ _ eb]; exact List.mem_cons_self))))]
            exact x4.fr ii fun zz => hi (List.mem_append_right _ (List.mem_append_right _ (List.mem_append_left _ (List.mem_append_right _ zz))))
          · cases ef
      · exact h4.elim
    · exact h4.elim
  · exact h4.elim
end
end Vx
end

section
set_option maxHeartbeats 4000000
/-! Vx 20F: the statement o.f = e. -/
namespace Vx
open PySem L2
section
variable {c : Gx} {Γ : Den} {k : Ck} {X : Cx} {Y : WX} {n : En} {σ σ1 σ2 : St} {as as1 as2 : Sl} {B H B1 H1 B2 H2 : Hp} {T T1 T2 : List A} {M N Ws : List Nat}
theorem putF_zip {f : Str} {v : V} : ∀ {ks : List Str} {us : List V}, ks.length = us.length → putF f v (ks.zip us) = match atZ ks f with
    | some j => ks.zip (us.set j v)
    | none => (ks ++ [f]).zip (us ++ [v])
  | [], us, h => by
    have e : us = [] := List.length_eq_zero_iff.mp h.symm
    subst e
    rfl
  | a :: ks, [], h => by cases h
  | a :: ks, u :: us, h => by
    have ih := putF_zip (f := f) (v := v) (ks := ks) (us := us) (Nat.succ.inj h)
    show (if a = f then (a, v) :: ks.zip us else (a, u) :: putF f v (ks.zip us)) = _
    unfold atZ
    by_cases e : a = f
    · rw [if_pos e, if_pos e]
      rfl
    · rw [if_neg e, if_neg e, ih]
      cases atZ ks f <;> rfl
theorem fput_core {q : Nat × List Nat} {v : V} {w : W} {r4 : Env} {ci : Nat} {f : Str} {y : A} (g : G c n B1 H1 (live as1 ++ ([y] ++ T))) (s1 : SR σ as1) (pa : PAt c B1 as1 q v w) (e : onF (ers as1) q ci f y.er = some r4) :
    ∃ a dx fs as2, v = .ref a ∧ H1 a = some (.ins (c.cls ci) dx fs) ∧ fs.length < 1000 ∧ G c n B1 (upd H1 a (.ins (c.cls ci) dx (putF f y.val fs))) (live as2 ++ T) ∧ SR σ as2 ∧ ers as2 = r4 ∧ ∀ i, i ≠ q.1 → as2[i]? = as1[i]? := by
  unfold onF at e
  rw [pa.get] at e
  split at e
  · rename_i cc fs cs ew
    have ew := Option.some.inj ew
    subst ew
    split at e
    · rename_i hc
      obtain ⟨hc, _⟩ := and2 hc
      obtain ⟨hc, c4⟩ := and2 hc
      obtain ⟨hc, c3⟩ := and2 hc
      obtain ⟨c1, c2⟩ := and2 hc
      have c1 := of_decide_eq_true c1
      have c2 := of_decide_eq_true c2
      have c3 := of_decide_eq_true c3
      have c4 := of_decide_eq_true c4
      subst c1
      have e5 := Option.some.inj e
      obtain ⟨y0, y1, y2⟩ := pa
      obtain ⟨a, dx, xs, z1, z2, z3⟩ := A.at_sub y2
      have eg : (ers as1)[q.1]? = some (some y0.er) := by
        rw [ers_get, y1]
        rfl
      have hl : fs.length = xs.length := by rw [c2, ← z2, List.length_map]
      obtain ⟨xs', Xo, p1, p2, p3, p4, p5⟩ := put_zip (c := c) (k := f) (w := y.er) (y := y) c4 hl z2 rfl
      have hH : H1 a = some (.ins (c.cls cc) dx.dx (fs.zip (vals xs))) := (g.hold (a, HO.ins (c.cls cc) dx.dx (fs.zip (vals xs))) (mem_objsL (List.mem_append_left _ (live_mem y1)) (sub_objs z1 _ List.mem_cons_self))).1
      have hp : (putZ fs cs f y.er).1.zip (vals xs') = putF f y.val (fs.zip (vals xs)) := by
        rw [p3, putF_zip (by simp [vals, hl])]
        cases ea : atZ fs f with
        | none =>
          rw [putK_out ea]
          show _ = (fs ++ [f]).zip (vals xs ++ [y.val])
          rw [List.zip_append (by simp [vals, hl])]
          rfl
        | some j =>
          rw [putK_in c4 (by simp [vals, hl]) ea]
      obtain ⟨R, q1, q2⟩ := A.put_at (c := c) z1
      have pv := (q2 (.nd a dx (.ins cc (putZ fs cs f y.er).1) xs') rfl).1
      have gw := G.writeAt (k := .ins cc fs) (k' := .ins cc (putZ fs cs f y.er).1) g y1 z1 rfl p2 p4 (fun z z' hz => z z' (p5 z' hz))
      refine ⟨a, dx.dx, fs.zip (vals xs), as1.set q.1 (some (y0.put q.2 (.nd a dx (.ins cc (putZ fs cs f y.er).1) xs'))), z3, hH, ?_, ?_, s1.chg y1 pv, ?_, fun i hi => List.getElem?_set_ne (Ne.symm hi)⟩
      · rw [List.length_zip]
        omega
      · rw [← hp]
        exact gw
      · rw [← e5, ers_set]
        unfold W.setAt
        rw [eg]
        show (ers as1).set q.1 (some (y0.put q.2 _).er) = _
        rw [A.er_put, A.er_nd, p1]
    · cases e
  · cases e
/-- p.f = e -/
theorem ssnd_setf (x : XS c Γ k X Y) {o e : Expr} {Mp Me : List Nat} {sp : Sm (Nat × List Nat)} {se : Sm W} {root ci : Nat} {f : Str} {p pos : Pos} (he : ESnd c X Y e Me se) (hp : PSnd c X Y o Mp sp) (ok : okE e = true) (nl : noLc e = true) (hf : clB k ci f = true)
    (hr : ∀ r q r1, sp r = .ok (q, r1) → q.1 = root) :
    SSnd c X Y (.Assign [.Attribute o f p] e pos) (Me ++ (Mp ++ [root])) [] (fun r => (se r).out fun (w, r1) => (sp r1).out fun (q, r2) => match onF r2 q ci f w with
      | some r3 => .nx r3
      | none => .bad) := by
  obtain ⟨te, pe, _, ke⟩ := he
  obtain ⟨tp, pp, kp⟩ := hp
  obtain ⟨k1, k2⟩ := clB_ok x hf
  refine ⟨_, ps_fld pp pe (sw_ok ok nl), fun n σ as B H T D g s ok => ke n σ as B H T _ g s (Kn.mono (OK.out ok) ?_ fun _ _ z => z)⟩
  rintro ⟨w1, r1⟩ ea h as1 y B1 H1 x1 (ey : y.er = w1) (rfl : ers as1 = r1)
  have m1 : Sx c n (Me ++ (Mp ++ [root])) [] σ as B σ as1 (y :: T) B1 H1 := x1.sx.mono (fun i z => List.mem_append_left _ z) (fun _ z => z)
  refine kp n σ as1 B1 H1 (y :: T) _ x1.gd x1.sr (Kn.mono (OK.out (OK.step m1 h)) ?_ fun _ _ z => z)
  rintro ⟨q, r2⟩ eb h2 as2 v w B2 H2 x2 (rfl : ers as2 = r2) pa
  dsimp only at h2
  split at h2
  · rename_i r3 e3
    rw [← ey] at e3
    obtain ⟨a, dx, fs, as3, ev, eH, lf, g3, s3, e4, f3⟩ := fput_core (σ := σ) (T := T) x2.gd x2.sr pa e3
    refine ⟨a, c.cls ci, dx, fs, ev, eH, k1, k2, lf, ?_⟩
    refine h2 σ as3 B2 _ ⟨x2.sb, g3, s3, fun i hi => ?_, fun _ _ => rfl, rfl⟩ e4
    rw [f3 i fun z => hi (List.mem_append_right _ (List.mem_append_right _ (by rw [z, hr _ _ _ eb]; exact List.mem_cons_self)))]
    exact x2.fr i fun z => hi (List.mem_append_right _ (List.mem_append_left _ z))
  · exact h2.elim
end
end Vx
end

section
set_option maxHeartbeats 4000000
/-! Vx 21: statements: the check of a text, and what it gives. -/
namespace Vx
open PySem L2
mutual
def S.mods : S → List Nat
  | .asg i e => e.mods ++ [i]
  | .asgC i e => e.mods ++ [i]
  | .unp g e => e.mods ++ g.slots
  | .seti p i e => e.mods ++ (p.mods ++ (i.mods ++ [p.root]))
  | .app p e => p.mods ++ (e.mods ++ [p.root])
  | .ex e => e.mods
  | .iff c a b => c.mods ++ (S.modsL a ++ S.modsL b)
  | .forr g it b => it.mods ++ (g.slots ++ S.modsL b)
  | .whl c b => c.mods ++ S.modsL b
  | .ret e => e.mods
  | .hold _ ms _ => ms
  | .aug i _ e => e.mods ++ [i]
  | .setk p i e => e.mods ++ (p.mods ++ (i.mods ++ [p.root]))
  | .ins p i e => p.mods ++ ((i.mods ++ e.mods) ++ [p.root])
  | .popi p i => p.mods ++ (i.mods ++ [p.root])
  | .slc p lo hi e => e.mods ++ (p.mods ++ ((lo.mods ++ hi.mods) ++ [p.root]))
  | .setf p _ _ e => e.mods ++ (p.mods ++ [p.root])
  | _ => []
def S.modsL : List S → List Nat
  | [] => []
  | s :: ss => s.mods ++ S.modsL ss
end
mutual
def S.wr : S → List Nat
  | .asg i _ => [i]
  | .asgC i _ => [i]
  | .unp g _ => g.slots
  | .iff _ a b => S.wrL a ++ S.wrL b
  | .forr g _ b => g.slots ++ S.wrL b
  | .whl _ b => S.wrL b
  | .hold _ _ b => S.wrL b
  | .aug i _ _ => [i]
  | _ => []
def S.wrL : List S → List Nat
  | [] => []
  | s :: ss => s.wr ++ S.wrL ss
end
def lcScope (y : Str) (scope : Scope) : Bool := !(scope.names.any fun (n, k) => n == y && (k == .local || k == .cell))
mutual
def S.chk : S → Ck → Stmt → Bool
  | .asg i e, k, st => match st with
    | .Assign [.Name y _] x _ => locB k i y && (okE x && ((noLc x || decide (k.sc.names.lookup y = some .cell)) && e.chk .v k x))
    | _ => false
  | .asgC i e, k, st => match st with
    | .Assign [.Name y py] x _ => match x with
      | .ListComp elt gs scope pos => (locB k i y && decide (k.sc.names.lookup y = some .local)) && (decide (k.sc.kind = .function) && ((py.line == pos.line) && (lcScope y scope && (match e with
        | .lc _ _ _ _ _ => true
        | _ => false) && e.chk .v k (.ListComp elt gs scope pos))))
      | _ => false
    | _ => false
  | .unp g e, k, st => match st with
    | .Assign [.Tuple es kk p] x _ => g.chk k (.Tuple es kk p) && (okE x && (noLc x && (noTup x && e.chk .v k x)))
    | _ => false
  | .seti p i e, k, st => match st with
    | .Assign [.Subscript o y _] x _ => okE x && (noLc x && (okE y && ((p.triv || !i.mods.contains p.root) && (e.chk .v k x && (p.chk k o && i.chk .v k y)))))
    | _ => false
  | .aug i o e, k, st => match st with
    | .AugAssign (.Name y _) .Add x _ => locB k i y && ((match o with
      | .add => true
      | _ => false) && e.chk .v k x)
    | _ => false
  | .setk p i e, k, st => match st with
    | .Assign [.Subscript o y _] x _ => okE x && (noLc x && ((p.triv || !i.mods.contains p.root) && (e.chk .v k x && (p.chk k o && i.chk .v k y))))
    | _ => false
  | .ins p i e, k, st => match st with
    | .Expr (.Call (.Attribute o m apos) [y, x] [] cpos) _ => decide (m = "insert") && (okE y && (okE x && (okO o && ((apos.endLine == cpos.line) && ((p.triv || !(i.mods ++ e.mods).contains p.root) && (p.chk k o && (i.chk .v k y && e.chk .v k x)))))))
    | _ => false
  | .nev, _, _ => true
  | .app p e, k, st => match st with
    | .Expr (.Call (.Attribute o m apos) [x] [] cpos) _ => decide (m = "append") && (okE x && (okO o && ((apos.endLine == cpos.line) && ((p.triv || !e.mods.contains p.root) && (p.chk k o && e.chk .v k x)))))
    | _ => false
  | .slc p lo hi e, k, st => match st with
    | .Assign [.Subscript o (.Slice (some y) (some z) none _) _] x _ => okE x && (noLc x && ((p.triv || !(lo.mods ++ hi.mods).contains p.root) && (e.chk .v k x && (p.chk k o && (lo.chk .v k y && hi.chk .v k z)))))
    | _ => false
  | .setf p ci f e, k, st => match st with
    | .Assign [.Attribute o nm _] x _ => decide (nm = f) && (okE x && (noLc x && (clB k ci f && (e.chk .v k x && p.chk k o))))
    | _ => false
  | .popi p i, k, st => match st with
    | .Expr (.Call (.Attribute o m apos) [y] [] cpos) _ => decide (m = "pop") && (okE y && (okO o && ((apos.endLine == cpos.line) && ((p.triv || !i.mods.contains p.root) && (p.chk k o && i.chk .v k y)))))
    | _ => false
  | .ex e, k, st => match st with
    | .Expr x _ => okE x && (noLc x && e.chk .v k x)
    | _ => false
  | .iff c a b, k, st => match st with
    | .If x y z _ => c.chk .t k x && (S.chks a k y && S.chks b k z)
    | _ => false
  | .forr g it b, k, st => match st with
    | .For tg iter body [] _ => g.chk k tg && (okE iter && (it.chk k tg iter && ((it.roots.all fun i => !g.slots.contains i && !(S.modsL b).contains i) && S.chks b k body)))
    | _ => false
  | .whl c b, k, st => match st with
    | .While x body [] _ => c.chk .t k x && S.chks b k body
    | _ => false
  | .ret e, k, st => match st with
    | .Return (some x) _ => e.chk .v k x
    | _ => false
  | .retN, _, st => match st with
    | .Return none _ => true
    | _ => false
  | .pass, _, st => match st with
    | .Pass _ => true
    | _ => false
  | .brk, _, st => match st with
    | .Break _ => true
    | _ => false
  | .cnt, _, st => match st with
    | .Continue _ => true
    | _ => false
  | .hold is ms [s], k, st => s.chk k st && ((s.mods.all fun i => ms.contains i) && is.all fun i => !ms.contains i)
  | _, _, _ => false
def S.chks : List S → Ck → List Stmt → Bool
  | [], _, xs => xs.isEmpty
  | s :: ss, k, xs => match xs with
    | x :: xs => s.chk k x && S.chks ss k xs
    | [] => false
end
section
variable {c : Gx} {Γ : Den}
structure XT (c : Gx) (Γ : Den) (k : Ck) (X : Cx) (Y : WX) : Prop extends XS c Γ k X Y where
  own : PassesOwn (model X.prog X.w) X.A X.env X.xe
theorem lc_parts {own : List (Str × Nat)} {g : Tg} {it : It} {ifs : Option E} {e : E} {k : Ck} {X : Cx} {Y : WX} {x : Expr} (s : XS c Γ k X Y) (h : (E.lc own g it ifs e).chk .v k x = true) : ∃ elt tg iter fs scope pos wi tt te, x = .ListComp elt [⟨tg, iter, fs, 0⟩] scope pos ∧
    okE iter = true ∧ PI X tg iter wi ∧ BlkOk X.N X.env.scope scope own ∧ (∀ X', Blk X scope X' → PG X' tg (g.tg c.K)) ∧ (∀ X', Blk X scope X' → PTs X' fs tt) ∧ (∀ X', Blk X scope X' → PE X' elt te) ∧
    LcK c X Y (tLc wi (g.tg c.K) tt te (own.map (·.2))) (E.lc own g it ifs e).mods ((E.lc own g it ifs e).sem Γ) := by
  cases ifs with
  | none =>
    unfold E.chk at h
    unfold E.mods
    rw [lc_none]
    obtain ⟨h1, h2⟩ := and2 h
    split at h2
    · obtain ⟨e1, h2⟩ := and2 h2
      obtain ⟨e2, h2⟩ := and2 h2
      obtain ⟨e3, h2⟩ := and2 h2
      obtain ⟨e4, h2⟩ := and2 h2
      obtain ⟨e5, h2⟩ := and2 h2
      obtain ⟨e6, h2⟩ := and2 h2
      obtain ⟨e7, e8⟩ := and2 h2
      have e9 := List.isEmpty_iff.mp e8
      subst e9
      have hsl : ∀ i ∈ g.slots, i ∈ own.map (·.2) := fun i hi => List.contains_iff_mem.mp (List.all_eq_true.mp e3 i hi)
      obtain ⟨wi, tt, te, q1, q2, q3, q4, q5, q6⟩ := snd_lc0 (Mt := []) s e1 e2 hsl (It.snd it s e5) itst_nil (fun X' hX => E.snd e (m := .v) (blk_xs s hX) e6) (fun i hi => by
        have z := List.all_eq_true.mp e7 i hi
        obtain ⟨z1, z2⟩ := and2 z
        obtain ⟨z2, z3⟩ := and2 z2
        exact ⟨fun w => noC w z1, by simp, fun w => noC w z3⟩)
      exact ⟨_, _, _, _, _, _, wi, tt, te, rfl, e4, q1, q2, q3, q4, q5, q6⟩
    · cases h2
  | some d =>
    unfold E.chk at h
    unfold E.mods
    rw [lc_some]
    obtain ⟨h1, h2⟩ := and2 h
    split at h2
    · obtain ⟨e1, h2⟩ := and2 h2
      obtain ⟨e2, h2⟩ := and2 h2
      obtain ⟨e3, h2⟩ := and2 h2
      obtain ⟨e4, h2⟩ := and2 h2
      obtain ⟨e5, h2⟩ := and2 h2
      obtain ⟨e6, h2⟩ := and2 h2
      obtain ⟨e7, e8⟩ := and2 h2
      have hsl : ∀ i ∈ g.slots, i ∈ own.map (·.2) := fun i hi => List.contains_iff_mem.mp (List.all_eq_true.mp e3 i hi)
      dsimp only at e8
      split at e8
      · obtain ⟨wi, tt, te, q1, q2, q3, q4, q5, q6⟩ := snd_lc0 (Mt := d.mods) s e1 e2 hsl (It.snd it s e5) (itst_one (sem := fun r => (d.sem Γ r).bind bool?) fun X' hX => E.snd d (m := .t) (blk_xs s hX) e8) (fun X' hX => E.snd e (m := .v) (blk_xs s hX) e6) (fun i hi => by
          have z := List.all_eq_true.mp e7 i hi
          obtain ⟨z1, z2⟩ := and2 z
          obtain ⟨z2, z3⟩ := and2 z2
          exact ⟨fun w => noC w z1, fun w => noC w z2, fun w => noC w z3⟩)
        exact ⟨_, _, _, _, _, _, wi, tt, te, rfl, e4, q1, q2, q3, q4, q5, q6⟩
      · cases e8
    · cases h2
theorem ssnd_asgC {k : Ck} {X : Cx} {Y : WX} (s : XS c Γ k X Y) {own : List (Str × Nat)} {g : Tg} {it : It} {ifs : Option E} {e : E} {i : Nat} {y : Str} {py spos pos : Pos} {elt : Expr} {gs : List Comprehension} {scope : Scope} (hl : (locB k i y && decide (k.sc.names.lookup y = some .local)) = true) (hk : k.sc.kind = .function) (hp : (py.line == pos.line) = true) (ha : lcScope y scope = true)
    (h : (E.lc own g it ifs e).chk .v k (.ListComp elt gs scope pos) = true) : SSnd c X Y (.Assign [.Name y py] (.ListComp elt gs scope pos) spos) ((E.lc own g it ifs e).mods ++ [i]) [i] (fun r => ((E.lc own g it ifs e).sem Γ r).out fun (w, r1) => if i < r1.length then .nx (r1.set i (some w)) else .bad) := by
  obtain ⟨elt, tg, iter, fs, scope, pos, wi, tt, te, ex, ok, pi, bo, pg, pts, pee, lck⟩ := lc_parts s h
  injection ex with x1 x2 x3 x4
  subst x1
  subst x2
  subst x3
  subst x4
  obtain ⟨l0, l2⟩ := and2 hl
  obtain ⟨l1, _⟩ := and2 l0
  have l2' : X.env.scope.names.lookup y = some .local := by rw [s.ok.sc]; exact of_decide_eq_true l2
  have sw := sw_true (elt := elt) (gs := [⟨tg, iter, fs, 0⟩]) (scope := scope) (pos := pos) (py := py) (y := y) (l := spos.line) (env := X.env) (by rw [s.ok.sc]; exact hk) l2' hp (by
    unfold lcScope at ha
    rw [Bool.not_eq_true'] at ha
    exact ha)
  exact ⟨_, ps_setLc (i := i) s.ok.calm (by rw [s.ok.hN]; exact s.ok.nd) (by rw [s.ok.hN]; exact of_decide_eq_true l1) l2' sw pi bo (fun s H C cl fp => pg _ ⟨s, H, C, cl, fp, rfl⟩) (fun s H C cl fp => pts _ ⟨s, H, C, cl, fp, rfl⟩) (fun s H C cl fp => pee _ ⟨s, H, C, cl, fp, rfl⟩) (fold_ok ok),
    fun n σ as B H T D gd s ok => asg_core (X := X) lck gd s ok⟩
theorem hold_sem {is ms : List Nat} {s : S} : S.sem Γ (.hold is ms [s]) = fun r => match s.sem Γ (frzE r is) with
    | .nx r2 => .nx (thawE r (wipeE r2 ms) is)
    | .rt (.fl d) r2 => if d.flat then .rt (.fl d) (thawE r (wipeE r2 ms) is) else .bad
    | _ => .bad := by
  funext r
  have e : S.sems Γ [s] (frzE r is) = s.sem Γ (frzE r is) := by
    show (s.sem Γ (frzE r is)).andThen (fun r1 => .nx r1) = _
    cases s.sem Γ (frzE r is) <;> rfl
  rw [S.sem, e]
  all_goals (cases s.sem Γ (frzE r is) <;> first | rfl | (rename_i w _; cases w <;> rfl))
theorem ssnds_one {X : Cx} {Y : WX} {st : Stmt} {M Ws : List Nat} {sem : Env → Out} (h : SSnds c X Y [st] M Ws sem) : True := trivial
theorem out_semT {c0 : E} {a b : List S} (r : Env) : True := trivial
mutual
theorem S.snd : ∀ (s : S) {k : Ck} {X : Cx} {Y : WX} {st : Stmt}, XT c Γ k X Y → s.chk k st = true → SSnd c X Y st s.mods s.wr (s.sem Γ)
  | .asg i e, k, X, Y, st, t, h => by
    unfold S.chk at h
    split at h
    · obtain ⟨h1, h⟩ := and2 h
      obtain ⟨h2, h⟩ := and2 h
      obtain ⟨h3, h4⟩ := and2 h
      rename_i y py x ps _ _
      by_cases hn : noLc x = true
      · exact ssnd_asg t.ok h1 (E.snd e (m := .v) t.toXS h4) h2 hn
      · have hn : noLc x = false := by simpa using hn
        rw [hn, Bool.false_or] at h3
        cases x with
        | ListComp elt gs scope lp => exact ssnd_asgL t.ok h1 (of_decide_eq_true h3) (E.snd e (m := .v) t.toXS h4)
        | _ => cases hn
    · cases h
  | .asgC i e, k, X, Y, st, t, h => by
    unfold S.chk at h
    split at h
    · split at h
      · obtain ⟨h1, h⟩ := and2 h
        obtain ⟨h2, h⟩ := and2 h
        obtain ⟨h3, h⟩ := and2 h
        obtain ⟨h4, h6⟩ := and2 h
        obtain ⟨h7, h5⟩ := and2 h4
        cases e with
        | lc own g it ifs e => exact ssnd_asgC t.toXS h1 (of_decide_eq_true h2) h3 h7 h6
        | _ => cases h5
      · cases h
    · cases h
  | .unp g e, k, X, Y, st, t, h => by
    unfold S.chk at h
    split at h
    · obtain ⟨h1, h⟩ := and2 h
      obtain ⟨h2, h⟩ := and2 h
      obtain ⟨h3, h⟩ := and2 h
      obtain ⟨h4, h5⟩ := and2 h
      exact ssnd_unp t.ok h1 (E.snd e (m := .v) t.toXS h5) h2 h3 h4
    · cases h
  | .seti p i e, k, X, Y, st, t, h => by
    unfold S.chk at h
    split at h
    · obtain ⟨h1, h⟩ := and2 h
      obtain ⟨h2, h⟩ := and2 h
      obtain ⟨h3, h⟩ := and2 h
      obtain ⟨h4, h⟩ := and2 h
      obtain ⟨h5, h⟩ := and2 h
      obtain ⟨h6, h7⟩ := and2 h
      exact ssnd_seti t.ok (E.snd e (m := .v) t.toXS h5) (Pl.snd p t.toXS h6) (E.snd i (m := .v) t.toXS h7) h1 h2 h3 (Pl.stab_of h4) fun r q r1 e => Pl.root_of e
    · cases h
  | .app p e, k, X, Y, st, t, h => by
    unfold S.chk at h
    split at h
    · obtain ⟨h1, h⟩ := and2 h
      obtain ⟨h2, h⟩ := and2 h
      obtain ⟨h3, h⟩ := and2 h
      obtain ⟨h4, h⟩ := and2 h
      obtain ⟨h5, h⟩ := and2 h
      obtain ⟨h6, h7⟩ := and2 h
      have h1 := of_decide_eq_true h1
      subst h1
      exact ssnd_app t.ok (Pl.snd p t.toXS h6) (E.snd e (m := .v) t.toXS h7) h2 h3 h4 (Pl.stab_of h5) fun r q r1 e => Pl.root_of e
    · cases h
  | .ex e, k, X, Y, st, t, h => by
    unfold S.chk at h
    split at h
    · obtain ⟨h1, h⟩ := and2 h
      obtain ⟨h2, h3⟩ := and2 h
      exact ssnd_ex (E.snd e (m := .v) t.toXS h3) h1 h2
    · cases h
  | .iff d a b, k, X, Y, st, t, h => by
    unfold S.chk at h
    split at h
    · obtain ⟨h1, h⟩ := and2 h
      obtain ⟨h2, h3⟩ := and2 h
      exact ssnd_if (E.snd d (m := .t) t.toXS h1) (S.snds a t h2) (S.snds b t h3)
    · cases h
  | .forr g it b, k, X, Y, st, t, h => by
    unfold S.chk at h
    split at h
    · obtain ⟨h1, h⟩ := and2 h
      obtain ⟨h2, h⟩ := and2 h
      obtain ⟨h3, h⟩ := and2 h
      obtain ⟨h4, h5⟩ := and2 h
      exact ssnd_for t.ok t.own h1 (It.snd it t.toXS h3) (S.snds b t h5) (fun i hi => by
        obtain ⟨z1, z2⟩ := and2 (List.all_eq_true.mp h4 i hi)
        exact ⟨fun w => noC w z1, fun w => noC w z2⟩) h2
    · cases h
  | .whl d b, k, X, Y, st, t, h => by
    unfold S.chk at h
    split at h
    · obtain ⟨h1, h2⟩ := and2 h
      exact ssnd_while t.own (E.snd d (m := .t) t.toXS h1) (S.snds b t h2)
    · cases h
  | .ret e, k, X, Y, st, t, h => by
    unfold S.chk at h
    split at h
    · exact ssnd_ret (E.snd e (m := .v) t.toXS h)
    · cases h
  | .retN, k, X, Y, st, t, h => by
    unfold S.chk at h
    split at h
    · exact ssnd_retN
    · cases h
  | .pass, k, X, Y, st, t, h => by
    unfold S.chk at h
    split at h
    · exact ssnd_pass
    · cases h
  | .brk, k, X, Y, st, t, h => by
    unfold S.chk at h
    split at h
    · exact ssnd_brk
    · cases h
  | .cnt, k, X, Y, st, t, h => by
    unfold S.chk at h
    split at h
    · exact ssnd_cnt
    · cases h
  | .hold is ms [s], k, X, Y, st, t, h => by
    unfold S.chk at h
    obtain ⟨h1, h⟩ := and2 h
    obtain ⟨h2, h3⟩ := and2 h
    have q := ssnd_hold (S.snd s t h1) (fun i hi => List.contains_iff_mem.mp (List.all_eq_true.mp h2 i hi)) fun i hi w => noC w (List.all_eq_true.mp h3 i hi)
    have e1 : (S.hold is ms [s]).wr = s.wr ++ [] := rfl
    rw [e1, List.append_nil, hold_sem]
    exact q
  | .hold is ms [], k, X, Y, st, t, h => by cases h
  | .hold is ms (_ :: _ :: _), k, X, Y, st, t, h => by cases h
  | .nev, k, X, Y, st, t, h => ssnd_nev
  | .aug i o e, k, X, Y, st, t, h => by
    unfold S.chk at h
    split at h
    · obtain ⟨h1, h⟩ := and2 h
      obtain ⟨h2, h3⟩ := and2 h
      exact ssnd_aug t.ok h1 (E.snd e (m := .v) t.toXS h3)
    · cases h
  | .setk p i e, k, X, Y, st, t, h => by
    unfold S.chk at h
    split at h
    · obtain ⟨h1, h⟩ := and2 h
      obtain ⟨h2, h⟩ := and2 h
      obtain ⟨h5, h⟩ := and2 h
      obtain ⟨h6, h⟩ := and2 h
      obtain ⟨h7, h8⟩ := and2 h
      exact ssnd_setk t.ok (E.snd e (m := .v) t.toXS h6) (Pl.snd p t.toXS h7) (E.snd i (m := .v) t.toXS h8) h1 h2 (Pl.stab_of h5) fun r q r1 e => Pl.root_of e
    · cases h
  | .ins p i e, k, X, Y, st, t, h => by
    unfold S.chk at h
    split at h
    · obtain ⟨h1, h⟩ := and2 h
      obtain ⟨h2, h⟩ := and2 h
      obtain ⟨h3, h⟩ := and2 h
      obtain ⟨h4, h⟩ := and2 h
      obtain ⟨h5, h⟩ := and2 h
      obtain ⟨h6, h⟩ := and2 h
      obtain ⟨h7, h⟩ := and2 h
      obtain ⟨h8, h9⟩ := and2 h
      have h1 := of_decide_eq_true h1
      subst h1
      exact ssnd_ins t.ok (Pl.snd p t.toXS h7) (E.snd i (m := .v) t.toXS h8) (E.snd e (m := .v) t.toXS h9) h2 h3 h4 h5 (Pl.stab_of h6) fun r q r1 e => Pl.root_of e
    · cases h
  | .ext .., k, X, Y, st, t, h => by cases h
  | .pop0 .., k, X, Y, st, t, h => by cases h
  | .slc p lo hi e, k, X, Y, st, t, h => by
    unfold S.chk at h
    split at h
    · obtain ⟨h1, h⟩ := and2 h
      obtain ⟨h2, h⟩ := and2 h
      obtain ⟨h3, h⟩ := and2 h
      obtain ⟨h4, h⟩ := and2 h
      obtain ⟨h5, h⟩ := and2 h
      obtain ⟨h6, h7⟩ := and2 h
      exact ssnd_slc t.ok (E.snd e (m := .v) t.toXS h4) (Pl.snd p t.toXS h5) (E.snd lo (m := .v) t.toXS h6) (E.snd hi (m := .v) t.toXS h7) h1 h2 (Pl.stab_of h3) fun r q r1 e => Pl.root_of e
    · cases h
  | .wlk .., k, X, Y, st, t, h => by cases h
  | .setf p ci f e, k, X, Y, st, t, h => by
    unfold S.chk at h
    split at h
    · obtain ⟨h1, h⟩ := and2 h
      obtain ⟨h2, h⟩ := and2 h
      obtain ⟨h3, h⟩ := and2 h
      obtain ⟨h4, h⟩ := and2 h
      obtain ⟨h5, h6⟩ := and2 h
      have h1 := of_decide_eq_true h1
      subst h1
      exact ssnd_setf t.toXS (E.snd e (m := .v) t.toXS h5) (Pl.snd p t.toXS h6) h2 h3 h4 fun r q r1 e => Pl.root_of e
    · cases h
  | .popi p i, k, X, Y, st, t, h => by
    unfold S.chk at h
    split at h
    · obtain ⟨h1, h⟩ := and2 h
      obtain ⟨h2, h⟩ := and2 h
      obtain ⟨h3, h⟩ := and2 h
      obtain ⟨h4, h⟩ := and2 h
      obtain ⟨h5, h⟩ := and2 h
      obtain ⟨h6, h7⟩ := and2 h
      have h1 := of_decide_eq_true h1
      subst h1
      exact ssnd_popi t.ok (Pl.snd p t.toXS h6) (E.snd i (m := .v) t.toXS h7) h2 h3 h4 (Pl.stab_of h5) fun r q r1 e => Pl.root_of e
    · cases h
  | .rais .., k, X, Y, st, t, h => by cases h
theorem S.snds : ∀ (ss : List S) {k : Ck} {X : Cx} {Y : WX} {st : List Stmt}, XT c Γ k X Y → S.chks ss k st = true → SSnds c X Y st (S.modsL ss) (S.wrL ss) (S.sems Γ ss)
  | [], k, X, Y, st, t, h => by
    cases st with
    | nil => exact ssnds_nil
    | cons x xs => cases h
  | s :: ss, k, X, Y, st, t, h => by
    cases st with
    | nil => cases h
    | cons x xs =>
      obtain ⟨h1, h2⟩ := and2 h
      exact ssnds_cons (S.snd s t h1) (S.snds ss t h2)
end
end
end Vx
end

section
set_option maxHeartbeats 4000000
/-! Vx 22: defs. -/
namespace Vx
open PySem L2
section
variable {c : Gx} {Γ : Den} {P : Program} {w : World} {K : PySem.W.Frag} {mg : Str → Option Value} {base : Heap}
/-- a def stands and keeps its promise, at the level lv -/
def FT (c : Gx) (Γ : Den) (P : Program) (w : World) (K : PySem.W.Frag) (mg : Str → Option Value) (base : Heap) (lv : Nat) (f : Fn) : Prop :=
  ∃ (a : Addr) (fd : FuncData) (ps : List Str), FnOk P w K mg base (L2.CX P w) lv a fd ps (spOf c f.io f.ro (Γ f.id) f.ar) ∧ ps.length = f.ar ∧ FAt c K mg f a ∧ PySem.W.keepIn K (.ref a) = true ∧ Binds K fd ps []
theorem FT.mono {i j : Nat} {f : Fn} (h : FT c Γ P w K mg base i f) (l : i ≤ j) : FT c Γ P w K mg base j f := by
  obtain ⟨a, fd, ps, h1, h2⟩ := h
  exact ⟨a, fd, ps, h1.mono l, h2⟩
theorem ioVals_cons {i : Nat} {is : List Nat} {xs : List A} {v : V} (h : (xs[i]?).map A.val = some v) : ioVals (i :: is) xs = v :: ioVals is xs := by
  unfold ioVals
  rw [List.filterMap_cons, h]
theorem mapM_congr {f g : Nat → Option W} : ∀ {l : List Nat}, (∀ j ∈ l, f j = g j) → l.mapM f = l.mapM g
  | [], _ => rfl
  | i :: l, h => by
    rw [List.mapM_cons, List.mapM_cons, h i List.mem_cons_self, mapM_congr fun j hj => h j (List.mem_cons_of_mem _ hj)]
/-- the in-outs handed back -/
theorem io_take {n : En} {B H : Hp} {xs : List A} : ∀ {io : List Nat} {as2 : Sl} {T : List A} {us : List W}, io.Nodup → G c n B H (live as2 ++ T) → ioBack io (ers as2) = some us → (∀ i ∈ io, ∀ y : A, as2[i]? = some (some y) → (xs[i]?).map A.val = some y.val) →
    ∃ ys as3, ys.map A.er = us ∧ vals ys = ioVals io xs ∧ G c n B H (live as3 ++ (ys ++ T)) ∧ ∀ i, i ∉ io → as3[i]? = as2[i]?
  | [], as2, T, us, _, g, h, _ => by
    have e : ([] : List W) = us := Option.some.inj h
    subst e
    exact ⟨[], as2, rfl, rfl, g, fun _ _ => rfl⟩
  | i :: is, as2, T, us, nd, g, h, q => by
    unfold ioBack at h
    rw [List.mapM_cons] at h
    obtain ⟨u, h1, h⟩ := Option.bind_eq_some_iff.mp h
    obtain ⟨us', h2, h⟩ := Option.bind_eq_some_iff.mp h
    have h := Option.some.inj h
    have e0 := ers_get (as := as2) (i := i)
    cases e : as2[i]? with
    | none =>
      rw [e0, e] at h1
      cases h1
    | some z =>
      cases z with
      | none =>
        rw [e0, e] at h1
        cases h1
      | some y =>
        rw [e0, e] at h1
        have h1' : (if y.er.isFl then none else some y.er) = some u := h1
        split at h1'
        · cases h1'
        · have h1' := Option.some.inj h1'
          have ni : i ∉ is := (List.nodup_cons.mp nd).1
          have h3 : ioBack is (ers (as2.set i none)) = some us' := by
            rw [← h2]
            unfold ioBack
            refine mapM_congr fun j hj => ?_
            rw [ers_set, List.getElem?_set_ne fun z => ni (by rw [z]; exact hj)]
          obtain ⟨ys, as3, y1, y2, y3, y4⟩ := io_take (io := is) (T := y :: T) (List.nodup_cons.mp nd).2 (g.take e) h3 fun j hj z hz => by
            have nj : i ≠ j := fun w => ni (by rw [w]; exact hj)
            rw [List.getElem?_set_ne nj] at hz
            exact q j (List.mem_cons_of_mem _ hj) z hz
          refine ⟨y :: ys, as3, by rw [List.map_cons, y1, ← h, h1'], ?_, Gd.perm y3 (List.Perm.append_left _ List.perm_middle), fun j hj => ?_⟩
          · rw [ioVals_cons (q i List.mem_cons_self y e), ← y2]
            rfl
          · rw [y4 j fun w => hj (List.mem_cons_of_mem _ w)]
            exact List.getElem?_set_ne fun w => hj (by rw [w]; exact List.mem_cons_self)
/-- what was lent still stands -/
theorem live_pick {xs : List A} : ∀ {ro : List Nat} {as3 : Sl}, ro.Nodup → (∀ i ∈ ro, ∀ x, xs[i]? = some x → as3[i]? = some (some x)) → ∃ R, (live as3).Perm (roTr ro xs ++ R)
  | [], as3, _, _ => ⟨live as3, List.Perm.refl _⟩
  | i :: ro, as3, nd, h => by
    obtain ⟨n1, n2⟩ := List.nodup_cons.mp nd
    cases e : xs[i]? with
    | none =>
      obtain ⟨R, hR⟩ := live_pick (ro := ro) n2 fun j hj x hx => h j (List.mem_cons_of_mem _ hj) x hx
      refine ⟨R, ?_⟩
      unfold roTr
      rw [List.filterMap_cons, e]
      exact hR
    | some x =>
      have hi := h i List.mem_cons_self x e
      obtain ⟨R, hR⟩ := live_pick (ro := ro) (as3 := as3.set i none) n2 fun j hj y hy => by
        rw [List.getElem?_set_ne fun w => n1 (by rw [w]; exact hj)]
        exact h j (List.mem_cons_of_mem _ hj) y hy
      refine ⟨R, ?_⟩
      unfold roTr
      rw [List.filterMap_cons, e]
      exact (live_get hi).trans (List.Perm.cons x hR)
theorem start_env {xs : List A} {N : List Str} : L2.start N (vals xs) = (xs.map (fun x => some x.val)) ++ List.replicate (N.length - xs.length) none := by
  unfold L2.start vals
  simp
theorem live_app : ∀ {xs : List A} {k : Nat}, live (xs.map some ++ List.replicate k none) = xs
  | [], 0 => rfl
  | [], k + 1 => by
    show live (List.replicate (k + 1) none) = []
    rw [List.replicate_succ]
    exact live_app (xs := []) (k := k)
  | x :: xs, k => by
    show x :: live (xs.map some ++ List.replicate k none) = x :: xs
    rw [live_app]
/-- THE RULE for a def: its checked body's run is what its den says -/
theorem fn_ok {x qual : Str} {params : Arguments} {body : List Stmt} {scope : Scope} {fa : Addr} {fd : FuncData} {N ps : List Str} {lv : Nat} {io ro : List Nat} {b : List S} {k : Ck} {den : List W → Rf} (F : FunD K x qual params body scope [] [] fa fd) (Sc : FnScope N ps scope)
    (hK : K = c.K) (hfree : ∀ x ∈ bNames, mg x = none) (hcons : ∀ p ∈ k.cons, ∃ u, mg p.1 = some u ∧ RelV p.2.v u) (hfns : ∀ f ∈ k.fns, FT c Γ P w K mg base lv f) (hclss : ∀ q ∈ k.clss, ClOk c K mg q) (htups : ∀ p ∈ k.tups, ∃ a, mg p.1 = some (.ref a) ∧ ∀ H, SqT K H a (p.2.map V.str)) (hN : k.N = N) (hs : k.sc = scope) (hchk : S.chks b k body = true)
    (hro : ro.Nodup ∧ ∀ i ∈ ro, i ∉ S.modsL b ∧ i ∉ io) (hex : ro = [] ∨ ∀ ws cl p us, den ws ≠ .ex cl p us) (hio : io.Nodup) (hw : ∀ i ∈ io, i ∉ S.wrL b) (hden : ∀ ws, ws.length = ps.length → den ws ≠ .bad → runF Γ N.length io b ws = den ws) : FnOk P w K mg base (L2.CX P w) (lv + 3) fa fd ps (spOf c io ro den ps.length) := by
  refine F.ok Sc (fun vs H Q E h => ?_) fun cdv Ao outer s H vs Q E hr h => ?_
  · obtain ⟨B, xs, e, hl, _⟩ := h
    rw [e]
    simpa [vals] using hl
  obtain ⟨B, xs, e, hl, g, hq⟩ := h
  subst e
  have xt : XT c Γ k (cxOf (L2.CX P w) P w K mg base N qual scope fa cdv Ao outer s H E) (fun cls d _ H' => E cls d H') := {
    ok := ⟨hN.symm, by rw [hN]; exact Sc.nd, hs.symm, rfl, hK, hr.mono (Nat.zero_le _), hfree, fun _ _ => rfl⟩
    tk := takes_of (X := cxOf (L2.CX P w) P w K mg base N qual scope fa cdv Ao outer s H E) rfl rfl rfl rfl
    fns := fun f hf => by
      obtain ⟨a, fd, ps, h1, h2, h3, h4, h5⟩ := hfns f hf
      exact ⟨a, fd, ps, lv, h1, h2, hr, h3, h4, h5⟩
    cons := hcons
    clss := hclss
    tups := htups
    own := passes_of rfl }
  obtain ⟨t, pt, kt⟩ := S.snds b xt hchk
  refine ⟨t, pt, ?_⟩
  obtain ⟨n, hn⟩ : ∃ n : En, n = ⟨H, B, ads (objsL c xs)⟩ := ⟨_, rfl⟩
  rw [← hn] at g hq
  obtain ⟨as, has⟩ : ∃ as : Sl, as = xs.map some ++ List.replicate (N.length - xs.length) none := ⟨_, rfl⟩
  have hlen : ps.length ≤ N.length := by
    have := congrArg List.length Sc.pre
    rw [List.length_take] at this
    omega
  have sr : SR (L2.start N (vals xs)) as := by
    rw [has, start_env]
    refine ⟨by simp, fun i y h => ?_⟩
    by_cases hi : i < xs.length
    · rw [List.getElem?_append_left (by simpa using hi)] at h ⊢
      rw [List.getElem?_map] at h ⊢
      cases e : xs[i]? with
      | none =>
        rw [e] at h
        cases h
      | some z =>
        rw [e] at h
        have h := Option.some.inj (Option.some.inj h)
        rw [← h]
        rfl
    · rw [List.getElem?_append_right (by simpa using hi)] at h
      have := List.eq_of_mem_replicate (List.mem_of_getElem? h)
      cases this
  have ge : G c n B H (live as ++ []) := by
    rw [has, live_app, List.append_nil]
    exact g
  have ee : ers as = (xs.map A.er).map some ++ List.replicate (N.length - (xs.map A.er).length) none := by
    rw [has]
    unfold ers
    simp
  refine kt n (L2.start N (vals xs)) as B H [] _ ge sr ?_
  rw [ee]
  -- what the den says
  have back : ∀ {M2 : List Nat} {σ2 : St} {as2 : Sl} {T2 : List A} {B2 H2 : Hp} {us : List W}, Sx c n M2 (S.wrL b) (L2.start N (vals xs)) as B σ2 as2 T2 B2 H2 → ioBack io (ers as2) = some us → (ro = [] ∨ M2 = S.modsL b) → ∃ ys, ys.map A.er = us ∧ vals ys = ioVals io xs ∧ G c n B2 H2 ((ys ++ roTr ro xs) ++ T2) := fun {M2 σ2 as2 T2 B2 H2 us} x hb hM => by
    obtain ⟨ys, as3, y1, y2, y3, y4⟩ := io_take (xs := xs) hio x.gd hb fun i hi y e => by
      have e1 := x.sr.2 i y e
      rw [x.sig i (hw i hi), start_env] at e1
      by_cases hx : i < xs.length
      · rw [List.getElem?_append_left (by simpa using hx), List.getElem?_map] at e1
        cases e3 : xs[i]? with
        | none =>
          rw [e3] at e1
          cases e1
        | some z =>
          rw [e3] at e1
          exact Option.some.inj e1
      · rw [List.getElem?_append_right (by simpa using hx)] at e1
        have := List.eq_of_mem_replicate (List.mem_of_getElem? e1)
        cases this
    refine ⟨ys, y1, y2, ?_⟩
    have hp : ∃ R, (live as3).Perm (roTr ro xs ++ R) := by
      rcases hM with hM | hM
      · subst hM
        exact ⟨live as3, List.Perm.refl _⟩
      · subst hM
        refine live_pick hro.1 fun i hi z hz => ?_
        obtain ⟨r1, r2⟩ := hro.2 i hi
        rw [y4 i r2, x.fr i r1, has]
        have hlt : i < xs.length := (List.getElem?_eq_some_iff.mp hz).1
        rw [List.getElem?_append_left (by simpa using hlt), List.getElem?_map, hz]
        rfl
    obtain ⟨R, hR⟩ := hp
    refine Gd.drop (M := R) (Gd.perm y3 ?_)
    refine (List.Perm.append_right _ (hR.trans List.perm_append_comm)).trans ?_
    rw [List.append_assoc]
    refine List.Perm.append_left _ ?_
    rw [← List.append_assoc]
    exact List.Perm.append_right _ List.perm_append_comm
  have hd : den (xs.map A.er) ≠ .bad := fun z => by
    rw [z] at hq
    exact hq
  have hrun := hden (xs.map A.er) (by rw [List.length_map, hl]) hd
  unfold runF at hrun
  cases e : S.sems Γ b ((xs.map A.er).map some ++ List.replicate (N.length - (xs.map A.er).length) none) with
  | bad =>
    rw [e] at hrun
    exact (hd hrun.symm).elim
  | bk r =>
    rw [e] at hrun
    exact (hd hrun.symm).elim
  | ct r =>
    rw [e] at hrun
    exact (hd hrun.symm).elim
  | nx r =>
    rw [e] at hrun
    dsimp only at hrun
    intro σ2 as2 B2 H2 x er
    cases eb : ioBack io r with
    | none =>
      rw [eb] at hrun
      exact (hd hrun.symm).elim
    | some us =>
      rw [eb] at hrun
      rw [← hrun] at hq
      rw [← er] at eb
      obtain ⟨ys, y1, y2, y3⟩ := back x eb (.inr rfl)
      rw [List.append_nil] at y3
      exact hq B2 H2 (.fl .non .non) ys x.sb (Gd.add y3 rfl) rfl y1 y2
  | rt w1 r =>
    rw [e] at hrun
    dsimp only at hrun
    intro σ2 as2 x1 B2 H2 x ex er
    cases eb : ioBack io r with
    | none =>
      rw [eb] at hrun
      exact (hd hrun.symm).elim
    | some us =>
      rw [eb] at hrun
      rw [← hrun] at hq
      rw [← er] at eb
      obtain ⟨ys, y1, y2, y3⟩ := back x eb (.inr rfl)
      exact hq B2 H2 x1 ys x.sb (Gd.perm y3 List.perm_append_comm) ex y1 y2
  | ex cl p r =>
    rw [e] at hrun
    dsimp only at hrun
    intro M2 σ2 as2 T2 B2 H2 x er
    cases eb : ioBack io r with
    | none =>
      rw [eb] at hrun
      exact (hd hrun.symm).elim
    | some us =>
      rw [eb] at hrun
      rw [← hrun] at hq
      rw [← er] at eb
      rcases hex with hex | hex
      · obtain ⟨ys, y1, y2, y3⟩ := back x eb (.inl hex)
        exact hq B2 H2 ys x.sb (Gd.drop (M := T2) (Gd.perm y3 List.perm_append_comm)) y1 y2
      · exact (hex _ _ _ _ hrun.symm).elim
end
end Vx
end

section
set_option maxHeartbeats 4000000
/-! Vx 23: the box of a law: the script's numbers and a seed. -/
namespace Vx
open PySem L2
/-- the seed of a script -/
def seedF (s : Int) (n : Int) : Int := (s * 31 + n + 17) % 2147483647
def seedOf (ns : List Int) : Int := ns.foldl seedF 0
theorem seed_lt {s n : Int} : 0 ≤ seedF s n ∧ seedF s n < 2147483647 := by
  unfold seedF
  omega
theorem seed_small : ∀ {ns : List Int} {s : Int}, 0 ≤ s → s < 2147483647 → 0 ≤ ns.foldl seedF s ∧ ns.foldl seedF s < 2147483647
  | [], s, h1, h2 => ⟨h1, h2⟩
  | n :: ns, s, _, _ => seed_small (ns := ns) (s := seedF s n) seed_lt.1 seed_lt.2
def boxN : List Str := ["_law_script", "_law_seed", "_law_cell"]
def spBox (K : PySem.W.Frag) : Sp := fun vs H Q _ => ∃ (a : Addr) (ns : List Int), vs = [.ref a] ∧ ns.length ≤ 63 ∧ SqL K H a (ns.map V.int) ∧
  ∀ q p H', Same H H' → H q = none → H p = none → q ≠ p → H' p = some (.lst [.ref q, .int 0, .int 0, .int 0, .int (seedOf ns)]) → H' q = some (.lst (ns.map V.int)) → Q (.ref p) H'
theorem cut63 {ns : List Int} (h : ns.length ≤ 63) : cutV (ns.map V.int) none (some 63) = ns.map V.int := by
  unfold cutV
  have e1 : HT.sIx (ns.map V.int).length 0 none = 0 := rfl
  have e2 : HT.sIx (ns.map V.int).length (ns.map V.int).length (some 63) = min 63 (ns.map V.int).length := HT.sIx_nat _ _ 63
  rw [e1, e2, List.drop_zero, List.length_map, Nat.min_eq_right h, Nat.sub_zero]
  rw [← List.length_map (f := V.int), List.take_length]
theorem sql_up {K : PySem.W.Frag} {H H' : Hp} {a : Addr} {xs : List V} (s : Same H H') (h : SqL K H a xs) : SqL K H' a xs := by
  rcases h with h | h
  · refine .inl ?_
    rcases h with h | ⟨o, h⟩
    · exact .inl (s _ _ h)
    · exact .inr ⟨o, s _ _ h⟩
  · exact .inr h
theorem same_upd {H : Hp} {p : Addr} {u : HO} (h : H p = none) : Same H (upd H p u) := fun b o e => by
  by_cases hb : b = p
  · subst hb
    rw [h] at e
    cases e
  · rw [upd_ne hb]
    exact e
section
variable {P : Program} {w : World} {K : PySem.W.Frag} {mg : Str → Option Value} {base : Heap} {fa : Addr} {fd : FuncData} {params : Arguments} {scope : Scope}
theorem box_ok {p1 p2 p3 p4 p5 p6 p7 p8 p9 p10 p11 p12 p13 p14 p15 p16 p17 p18 p19 p20 p21 p22 p23 p24 p25 p26 p27 p28 p29 p30 p31 p32 : Pos} {j1 j2 j3 j4 j5 j6 j7 j8 j9 : Nat}
    (F : FunD K "_law_box" "_law_box" params [
      .Assign [.Name "_law_seed" p1] (.Constant (.int 0) j1 p2) p3,
      .For (.Name "_law_cell" p4) (.Subscript (.Name "_law_script" p5) (.Slice none (some (.Constant (.int 63) j2 p6)) none p7) p8) [
        .Assign [.Name "_law_seed" p9] (.BinOp (.BinOp (.BinOp (.BinOp (.Name "_law_seed" p10) .Mult (.Constant (.int 31) j3 p11) p12) .Add (.Name "_law_cell" p13) p14) .Add (.Constant (.int 17) j4 p15) p16) .Mod (.Constant (.int 2147483647) j5 p17) p18) p19] [] p20,
      .Return (some (.List [.Call (.Name "list" p21) [.Subscript (.Name "_law_script" p22) (.Slice none (some (.Constant (.int 63) j6 p23)) none p24) p25] [] p26, .Constant (.int 0) j7 p27, .Constant (.int 0) j8 p28, .Constant (.int 0) j9 p29, .Name "_law_seed" p30] p31)) p32] scope [] [] fa fd)
    (S : FnScope boxN ["_law_script"] scope) (l1 : scope.names.lookup ("_law_script" : Str) = some .local) (l2 : scope.names.lookup ("_law_seed" : Str) = some .local) (l3 : scope.names.lookup ("_law_cell" : Str) = some .local) (l4 : scope.names.lookup ("list" : Str) = some .globalImplicit)
    (hm : mg "list" = none) : FnOk P w K mg base (L2.CX P w) 1 fa fd ["_law_script"] (spBox K) := by
  refine F.ok S (fun vs H Q E h => ?_) fun cdv A outer s H vs Q E hr h => ?_
  · obtain ⟨a, ns, rfl, _⟩ := h
    rfl
  have v0 : Vis scope ("_law_script" : Str) := .inl l1
  have v1 : Vis scope ("_law_seed" : Str) := .inl l2
  have v2 : Vis scope ("_law_cell" : Str) := .inl l3
  have S' : boxN.Nodup := S.nd
  have x0 : ∀ p : Pos, PE (cxOf (L2.CX P w) P w K mg base boxN "_law_box" scope fa cdv A outer s H E) (.Name ("_law_script" : Str) p) (tVar 0) := fun p => pe_var (i := 0) rfl v0
  have x1 : ∀ p : Pos, PE (cxOf (L2.CX P w) P w K mg base boxN "_law_box" scope fa cdv A outer s H E) (.Name ("_law_seed" : Str) p) (tVar 1) := fun p => pe_var (i := 1) rfl v1
  have x2 : ∀ p : Pos, PE (cxOf (L2.CX P w) P w K mg base boxN "_law_box" scope fa cdv A outer s H E) (.Name ("_law_cell" : Str) p) (tVar 2) := fun p => pe_var (i := 2) rfl v2
  have sl0 : ∀ (p q r p' : Pos) (j : Nat), PE (cxOf (L2.CX P w) P w K mg base boxN "_law_box" scope fa cdv A outer s H E) (.Subscript (.Name ("_law_script" : Str) p) (.Slice none (some (.Constant (.int 63) j q)) none r) p') (tSl (rSlL K) (tVar 0) tNoPart (tPart (tC (.int 63)))) := fun p q r p' j => pe_slice sl_list (x0 p) po_none (po_some pe_int)
  have s1 : PS (cxOf (L2.CX P w) P w K mg base boxN "_law_box" scope fa cdv A outer s H E) (.Assign [.Name "_law_seed" p1] (.Constant (.int 0) j1 p2) p3) (tAsg (tC (.int 0)) (gName 1)) := ps_set (i := 1) S' rfl (.inl l2) pe_int (by rfl) (.inr l2)
  have s2 : PS (cxOf (L2.CX P w) P w K mg base boxN "_law_box" scope fa cdv A outer s H E) (.Assign [.Name "_law_seed" p9] (.BinOp (.BinOp (.BinOp (.BinOp (.Name "_law_seed" p10) .Mult (.Constant (.int 31) j3 p11) p12) .Add (.Name "_law_cell" p13) p14) .Add (.Constant (.int 17) j4 p15) p16) .Mod (.Constant (.int 2147483647) j5 p17) p18) p19) _ := ps_set (i := 1) S' rfl (.inl l2) (pe_op op_mod (pe_op op_add (pe_op op_add (pe_op op_mul (x1 p10) pe_int) (x2 p13)) pe_int) pe_int) (by rfl) (.inr l2)
  have s3 : PE (cxOf (L2.CX P w) P w K mg base boxN "_law_box" scope fa cdv A outer s H E) (.Call (.Name "list" p21) [.Subscript (.Name "_law_script" p22) (.Slice none (some (.Constant (.int 63) j6 p23)) none p24) p25] [] p26) _ := pe_callTy call_list_of l4 hm (by decide +kernel) (pa_cons (sl0 p22 p23 p24 p25 j6) pa_nil)
  have lp : PG (cxOf (L2.CX P w) P w K mg base boxN "_law_box" scope fa cdv A outer s H E) (.Name "_law_cell" p4) (gName 2) := pg_name (i := 2) S' rfl (.inl l3) (.inr l3)
  refine ⟨_, pss_cons s1 (pss_cons (ps_for (passes_of rfl) rfl (pi_list (sl0 p5 p6 p7 p8 j2)) lp (pss_one s2)) (pss_one (ps_ret (pe_lst (pa_cons s3 (pa_cons pe_int (pa_cons pe_int (pa_cons pe_int (pa_cons (x1 p30) pa_nil))))))))), ?_⟩
  obtain ⟨a, ns, rfl, hl, hS, hQ⟩ := h
  -- the slice walked
  refine ⟨.ref a, rfl, _, rfl, a, ns.map V.int, rfl, hS, fun s1 hs1 => ?_⟩
  rw [cut63 hl]
  refine ⟨s1, rfl, ⟨ns.map V.int, .inl (.inl (upd_same))⟩, ?_⟩
  have sm1 : Same H (upd H s1 (.lst (ns.map V.int))) := same_upd hs1
  refine for_it (L2.walk_list (K := K) (a := s1) (xs := ns.map V.int)) (fun i σ H' => H' = upd H s1 (.lst (ns.map V.int)) ∧ σ.length = 3 ∧ σ[0]? = some (some (.ref a)) ∧ σ[1]? = some (some (.int ((ns.take i).foldl seedF 0)))) ?_ ?_ ?_ ?_
  · exact ⟨rfl, rfl, rfl, rfl⟩
  · rintro i σ H' _ ⟨rfl, _, _, _⟩
    exact .inl (.inl (upd_same))
  · rintro i x σ H1 H' hi ⟨rfl, e0, e1, e2⟩ ⟨rfl, ex⟩
    rw [List.length_map] at hi
    rw [List.getElem?_map, List.getElem?_eq_getElem hi] at ex
    have ex := Option.some.inj ex
    subst ex
    have q := seed_small (ns := ns.take i) (s := 0) (by omega) (by omega)
    have g1 : (σ.set 2 (some (.int ns[i])))[1]? = some (some (.int ((ns.take i).foldl seedF 0))) := by
      rw [List.getElem?_set_ne (by omega)]
      exact e2
    have g2 : (σ.set 2 (some (.int ns[i])))[2]? = some (some (.int ns[i])) := List.getElem?_set_self (by omega)
    refine ⟨_, g1, _, _, rfl, rfl, .inl (by constructor <;> omega), _, g2, _, _, rfl, rfl, _, _, rfl, rfl, _, _, rfl, rfl, by omega, rfl, by simp [e0], ?_, ?_⟩
    · rw [List.getElem?_set_ne (by omega), List.getElem?_set_ne (by omega)]
      exact e1
    · rw [List.getElem?_set_self (by simp [e0])]
      rw [List.take_add_one, List.getElem?_eq_getElem hi, List.foldl_append]
      rfl
  · rintro σ H1 ⟨rfl, e0, e1, e2⟩
    rw [List.length_map, List.take_length] at e2
    refine ⟨.ref a, e1, _, rfl, a, ns.map V.int, rfl, sql_up sm1 hS, fun s2 hs2 => ?_⟩
    rw [cut63 hl]
    refine ⟨s2, ns.map V.int, rfl, .inl (.inl (.inl (upd_same))), fun q hq => ?_⟩
    refine ⟨_, e2, by show (5 : Nat) ≤ sizeLine; decide, fun p hp => ?_⟩
    have sm2 := same_upd (u := HO.lst (ns.map V.int)) hs2
    have sm3 := same_upd (u := HO.lst (ns.map V.int)) hq
    have sm4 := same_upd (u := HO.lst [.ref q, .int 0, .int 0, .int 0, .int (seedOf ns)]) hp
    have n1 : ∀ {b : Addr}, upd (upd H s1 (.lst (ns.map V.int))) s2 (.lst (ns.map V.int)) b = none → H b = none := fun {b} hb => by
      cases e : H b with
      | none => rfl
      | some o =>
        rw [sm2 _ _ (sm1 _ _ e)] at hb
        cases hb
    have nqp : q ≠ p := fun z => by
      subst z
      rw [upd_same] at hp
      cases hp
    refine hQ q p _ (((sm1.trans sm2).trans sm3).trans sm4) (n1 hq) (n1 (by
      rw [upd_ne (Ne.symm nqp)] at hp
      exact hp)) nqp upd_same (sm4 _ _ upd_same)
end
end Vx
end

section
set_option maxHeartbeats 4000000
/-! Vx 24: a law's def. -/
namespace Vx
open PySem L2
def intsA (ns : List Int) : List A := ns.map fun i => .fl (.int i) (.int i)
def boxA (p q : Addr) (ns : List Int) : A := .nd p 0 .lst [.nd q 0 .lst (intsA ns), .fl (.int 0) (.int 0), .fl (.int 0) (.int 0), .fl (.int 0) (.int 0), .fl (.int (seedOf ns)) (.int (seedOf ns))]
def boxW (ls : List Int) (at' left turn seed : Int) : W := .nd .lst [.nd .lst (ls.map fun i => .fl (.int i)), .fl (.int at'), .fl (.int left), .fl (.int turn), .fl (.int seed)]
theorem intsA_objs (c : Gx) : ∀ ns : List Int, objsL c (intsA ns) = []
  | [] => rfl
  | n :: ns => by
    show ([] : List (Addr × HO)) ++ objsL c (intsA ns) = []
    rw [intsA_objs c ns]
    rfl
theorem intsA_vals : ∀ ns : List Int, vals (intsA ns) = ns.map V.int
  | [] => rfl
  | n :: ns => by
    show V.int n :: vals (intsA ns) = _
    rw [intsA_vals ns]
    rfl
theorem intsA_ok (c : Gx) (B : Hp) : ∀ ns : List Int, okL c B (intsA ns)
  | [] => trivial
  | n :: ns => ⟨rfl, intsA_ok c B ns⟩
theorem boxA_er {p q : Addr} {ns : List Int} : (boxA p q ns).er = boxW ns 0 0 0 (seedOf ns) := by
  unfold boxA boxW
  rw [A.er_nd]
  simp only [List.map_cons, List.map_nil, A.er_nd]
  have e : (intsA ns).map A.er = ns.map fun i => W.fl (.int i) := by
    unfold intsA
    rw [List.map_map]
    rfl
  rw [e]
  rfl
theorem boxA_objs {c : Gx} {p q : Addr} {ns : List Int} : objsL c [boxA p q ns] = [(p, .lst [.ref q, .int 0, .int 0, .int 0, .int (seedOf ns)]), (q, .lst (ns.map V.int))] := by
  show ((p, HO.lst [.ref q, .int 0, .int 0, .int 0, .int (seedOf ns)]) :: ([] ++ (((q, HO.lst (vals (intsA ns))) :: ([] ++ objsL c (intsA ns))) ++ ([] ++ ([] ++ ([] ++ ([] ++ []))))))) ++ [] = _
  rw [intsA_objs, intsA_vals]
  rfl
def spLaw (K : PySem.W.Frag) : Sp := fun vs H Q _ => ∃ (a : Addr) (ns : List Int), vs = [.ref a] ∧ ns.length ≤ 63 ∧ SqL K H a (ns.map V.int) ∧ ∀ H', Q (.bl true) H'
section
variable {c : Gx} {Γ : Den} {P : Program} {w : World} {K : PySem.W.Frag} {mg : Str → Option Value} {base : Heap}
theorem law_ok {x qual : Str} {params : Arguments} {rest : List Stmt} {scope : Scope} {fa : Addr} {fd : FuncData} {N : List Str} {lv : Nat} {b : List S} {k : Ck} {p1 p2 p3 p4 p5 : Pos}
    (F : FunD K x qual params (.Assign [.Name "_law_box_here" p1] (.Call (.Name "_law_box" p2) [.Name "_law_script" p3] [] p4) p5 :: rest) scope [] [] fa fd) (Sc : FnScope N ["_law_script"] scope)
    (hK : K = c.K) (hfree : ∀ x ∈ bNames, mg x = none) (hcons : ∀ p ∈ k.cons, ∃ u, mg p.1 = some u ∧ RelV p.2.v u) (hfns : ∀ f ∈ k.fns, FT c Γ P w K mg base lv f) (hclss : ∀ q ∈ k.clss, ClOk c K mg q) (htups : ∀ p ∈ k.tups, ∃ a, mg p.1 = some (.ref a) ∧ ∀ H, SqT K H a (p.2.map V.str)) (hN : k.N = N) (hs : k.sc = scope) (hchk : S.chks b k rest = true)
    {ab : Addr} {fb : FuncData} (FB : FnOk P w K mg base (L2.CX P w) 1 ab fb ["_law_script"] (spBox K)) (hmb : mg "_law_box" = some (.ref ab)) (hkb : PySem.W.keepIn K (.ref ab) = true) (hbb : Binds K fb ["_law_script"] []) (h1 : 1 ≤ lv)
    (n0 : N[0]? = some ("_law_script" : Str)) (n1 : N[1]? = some ("_law_box_here" : Str)) (l0 : scope.names.lookup ("_law_script" : Str) = some .local) (l1 : scope.names.lookup ("_law_box_here" : Str) = some .local ∨ scope.names.lookup ("_law_box_here" : Str) = some .cell) (l2 : scope.names.lookup ("_law_box" : Str) = some .globalImplicit)
    (hden : ∀ ns : List Int, ns.length ≤ 63 → ∃ r, S.sems Γ b (none :: some (boxW ns 0 0 0 (seedOf ns)) :: List.replicate (N.length - 2) none) = .rt (.fl (.bl true)) r) : FnOk P w K mg base (L2.CX P w) (lv + 3) fa fd ["_law_script"] (spLaw K) := by
  refine F.ok Sc (fun vs H Q E h => ?_) fun cdv Ao outer s H vs Q E hr h => ?_
  · obtain ⟨a, ns, rfl, _⟩ := h
    rfl
  obtain ⟨X, hX⟩ : ∃ X, X = cxOf (L2.CX P w) P w K mg base N qual scope fa cdv Ao outer s H E := ⟨_, rfl⟩
  have xt : XT c Γ k (cxOf (L2.CX P w) P w K mg base N qual scope fa cdv Ao outer s H E) (fun cls d _ H' => E cls d H') := {
    ok := ⟨hN.symm, by rw [hN]; exact Sc.nd, hs.symm, rfl, hK, hr.mono (Nat.zero_le _), hfree, fun _ _ => rfl⟩
    tk := takes_of (X := cxOf (L2.CX P w) P w K mg base N qual scope fa cdv Ao outer s H E) rfl rfl rfl rfl
    fns := fun f hf => by
      obtain ⟨a, fd, ps, h1, h2, h3, h4, h5⟩ := hfns f hf
      exact ⟨a, fd, ps, lv, h1, h2, hr, h3, h4, h5⟩
    cons := hcons
    clss := hclss
    tups := htups
    own := passes_of rfl }
  obtain ⟨t, pt, kt⟩ := S.snds b xt hchk
  have x0 : PE (cxOf (L2.CX P w) P w K mg base N qual scope fa cdv Ao outer s H E) (.Name ("_law_script" : Str) p3) (tVar 0) := pe_var (i := 0) n0 (.inl l0)
  have cl : PE (cxOf (L2.CX P w) P w K mg base N qual scope fa cdv Ao outer s H E) (.Call (.Name "_law_box" p2) [.Name "_law_script" p3] [] p4) (tCall (spBox K) [] E0 (tCons (tVar 0) tNil)) := pe_call FB (hr.mono (by omega)) l2 hmb hkb hbb .nil passL (pa_cons x0 pa_nil)
  refine ⟨_, pss_cons (ps_set (i := 1) Sc.nd n1 l1 cl (by rfl) (.inl rfl)) pt, ?_⟩
  obtain ⟨a, ns, rfl, hl, hS, hQ⟩ := h
  have len : 2 ≤ N.length := by
    have := (List.getElem?_eq_some_iff.mp n1).1
    omega
  obtain ⟨m, hm⟩ : ∃ m, N.length = m + 2 := ⟨N.length - 2, by omega⟩
  have es : L2.start N [V.ref a] = some (.ref a) :: none :: List.replicate m none := by
    unfold L2.start
    rw [hm]
    show some (V.ref a) :: List.replicate (m + 2 - 1) none = _
    rw [show m + 2 - 1 = m + 1 by omega, List.replicate_succ]
  rw [es]
  refine ⟨.ref a, rfl, a, ns, rfl, hl, hS, fun q p H' sm hq hp nqp e1 e2 => ?_⟩
  obtain ⟨r, hr2⟩ := hden ns hl
  rw [show N.length - 2 = m by omega] at hr2
  have g : G c ⟨H, fun _ => none, []⟩ (fun _ => none) H' (live (none :: some (boxA p q ns) :: List.replicate m none) ++ []) := by
    have el : live (none :: some (boxA p q ns) :: List.replicate m none) ++ [] = [boxA p q ns] := by
      have e := live_app (xs := [boxA p q ns]) (k := m)
      rw [List.append_nil]
      exact e
    rw [el]
    refine { b0 := Same.refl _, sub := fun b o e => (by cases e), hold := fun z hz => ?_, nd := ?_, lf := fun z hz => ?_, fr := fun b o e _ => sm b o e, nw := fun b hb => ?_ }
    · rw [boxA_objs] at hz
      rcases List.mem_cons.mp hz with z1 | z1
      · rw [z1]
        exact ⟨e1, rfl⟩
      · rcases List.mem_cons.mp z1 with z1 | z1
        · rw [z1]
          exact ⟨e2, rfl⟩
        · cases z1
    · rw [boxA_objs]
      show [p, q].Nodup
      simp [Ne.symm nqp]
    · rcases List.mem_cons.mp hz with z1 | z1
      · rw [z1]
        exact ⟨trivial, ⟨trivial, intsA_ok c _ ns⟩, rfl, rfl, rfl, rfl, trivial⟩
      · cases z1
    · rcases hb with hb | hb
      · exact (hb rfl).elim
      · rw [boxA_objs] at hb
        have hb' : b ∈ [p, q] := hb
        rcases List.mem_cons.mp hb' with z1 | z1
        · rw [z1]
          exact .inr (.inl hp)
        · rcases List.mem_cons.mp z1 with z1 | z1
          · rw [z1]
            exact .inr (.inl hq)
          · cases z1
  have sr : SR (some (V.ref a) :: some (V.ref p) :: List.replicate m none) (none :: some (boxA p q ns) :: List.replicate m none) := by
    refine ⟨by simp, fun i y e => ?_⟩
    match i with
    | 0 => cases e
    | 1 =>
      have e : some (some (boxA p q ns)) = some (some y) := e
      have e := Option.some.inj (Option.some.inj e)
      rw [← e]
      rfl
    | i + 2 =>
      have e : (List.replicate m (none : Option A))[i]? = some (some y) := e
      have := List.eq_of_mem_replicate (List.mem_of_getElem? e)
      cases this
  refine kt _ (some (V.ref a) :: some (V.ref p) :: List.replicate m none) (none :: some (boxA p q ns) :: List.replicate m none) (fun _ => none) H' [] _ g sr ?_
  have ee : ers (none :: some (boxA p q ns) :: List.replicate m none) = none :: some (boxW ns 0 0 0 (seedOf ns)) :: List.replicate m none := by
    show none :: some (boxA p q ns).er :: ers (List.replicate m none) = _
    rw [boxA_er]
    unfold ers
    rw [List.map_replicate]
    rfl
  rw [ee, hr2]
  intro σ2 as2 x2 B2 H2 sx ex er
  have : x2.val = .bl true := by
    have r := sx.gd.lf x2 (List.mem_append_right _ List.mem_cons_self)
    cases x2 with
    | fl v d =>
      have e2 : d = .bl true := W.fl.inj ex
      subst e2
      exact r
    | nd a dx k cs =>
      rw [A.er_nd] at ex
      cases ex
  show Q x2.val H2
  rw [this]
  exact hQ H2
/-- a def that lets nothing out, whatever is wished -/
theorem to0 {k : Nat} {f : Addr} {fd : FuncData} {ps : List Str} {sp : Sp} (F : FnOk P w K mg base (L2.CX P w) k f fd ps sp) (h : ∀ vs H Q E, sp vs H Q E → sp vs H Q E0) : FnOk P w K mg base CX0 k f fd ps sp :=
  ⟨F.len, fun A outer s H args us vs Q E hr he hb hv hs => codeAny_mono (F.run A outer s H args us vs Q E0 hr he hb hv (h _ _ _ _ hs)) fun r s' c => by
    cases r with
    | ok fl => cases fl <;> exact c
    | error e =>
      obtain ⟨_, _, _, _, _, _, _, _, _, _, _, _, z⟩ := (show L2.CX P w outer H s E0 e s' from c)
      exact z.elim⟩
theorem law0 {k : Nat} {f : Addr} {fd : FuncData} {ps : List Str} (F : FnOk P w K mg base (L2.CX P w) k f fd ps (spLaw K)) : FnOk P w K mg base CX0 k f fd ps (spLaw K) := to0 F fun _ _ _ _ h => h
end
end Vx
end

section
set_option maxHeartbeats 4000000
/-! Vx 25: the evaluator, step by step (for simp). -/
namespace Vx
open PySem L2
@[simp] theorem res_bind_ok {α β : Type} (a : α) (f : α → Res β) : (Res.ok a).bind f = f a := rfl
@[simp] theorem res_bind_bad {α β : Type} (f : α → Res β) : (Res.bad : Res α).bind f = .bad := rfl
@[simp] theorem res_of_some {α : Type} (a : α) : Res.of (some a) = .ok a := rfl
@[simp] theorem res_of_none {α : Type} : Res.of (none : Option α) = .bad := rfl
section
variable (Γ : Den) (r : Env)
@[simp] theorem ev_rd (p : Pl) : E.sem Γ (.rd p) r = (p.sem Γ r).bind fun x => Res.of (readAt x.2 x.1) := rfl
@[simp] theorem ev_gt (p : Pl) : E.sem Γ (.gt p) r = (p.sem Γ r).bind fun x => match eget x.2 x.1 with
    | some (.fl d) => .ok (.fl d, x.2)
    | _ => .bad := rfl
@[simp] theorem ev_mv (i : Nat) : E.sem Γ (.mv i) r = (match r[i]? with
    | some (some w) => .ok (w, r.set i none)
    | _ => .bad) := rfl
@[simp] theorem ev_con (d : D) : E.sem Γ (.con d) r = if d.flat then .ok (.fl d, r) else .bad := rfl
@[simp] theorem ev_op (o : Rop) (xs : List O) : E.sem Γ (.op o xs) r = (O.sems Γ xs r).bind fun x => Res.of (((x.1.mapM (Rv.val x.2)).bind o.run).map fun w => (w.fzT, x.2)) := rfl
@[simp] theorem ev_ixT (a b : E) : E.sem Γ (.ixT a b) r = (a.sem Γ r).bind fun x => (b.sem Γ x.2).bind fun i => Res.of ((kids1 x.1 i.1).map fun w => (w, i.2)) := rfl
@[simp] theorem ev_lst (es : List E) : E.sem Γ (.lst es) r = (E.sems Γ es r).bind fun x => if small x.1.length then .ok (.nd .lst x.1, x.2) else .bad := rfl
@[simp] theorem ev_tup (es : List E) : E.sem Γ (.tup es) r = (E.sems Γ es r).bind fun x => if small x.1.length then .ok (mkT x.1, x.2) else .bad := rfl
@[simp] theorem ev_fz (e : E) : E.sem Γ (.fz e) r = (e.sem Γ r).bind fun x => .ok (.fl x.1.dat, x.2) := rfl
@[simp] theorem ev_call (f : Nat) (xs : List Ar) : E.sem Γ (.call f xs) r = (Ar.sems Γ xs r).bind fun x => match takeIo x.1 x.2 with
    | some (ws, r2) => match Γ f ws with
      | .ok w us => Res.of ((putIo x.1 us r2).map fun r3 => (w, r3))
      | .ex c p us => match putIo x.1 us r2 with
        | some r3 => .ex c p r3
        | none => .bad
      | .bad => .bad
    | none => .bad := rfl
@[simp] theorem ev_call0 (f : Nat) : E.sem Γ (.call0 f) r = (match Γ f [] with
    | .ok w [] => .ok (w, r)
    | _ => .bad) := rfl
@[simp] theorem ev_ite (c a b : E) : E.sem Γ (.ite c a b) r = ((c.sem Γ r).bind bool?).bind fun x => if x.1 then a.sem Γ x.2 else b.sem Γ x.2 := rfl
@[simp] theorem ev_and (a b : E) : E.sem Γ (.and a b) r = ((a.sem Γ r).bind bool?).bind fun x => if x.1 then b.sem Γ x.2 else .ok (.fl (.bl false), x.2) := rfl
@[simp] theorem ev_or (a b : E) : E.sem Γ (.or a b) r = ((a.sem Γ r).bind bool?).bind fun x => if x.1 then .ok (.fl (.bl true), x.2) else b.sem Γ x.2 := rfl
@[simp] theorem ev_not (a : E) : E.sem Γ (.not a) r = ((a.sem Γ r).bind bool?).bind fun x => .ok (.fl (.bl (!x.1)), x.2) := rfl
@[simp] theorem ev_lc0 (own : List (Str × Nat)) (g : Tg) (it : It) (e : E) : E.sem Γ (.lc own g it none e) r = (It.sem Γ it r).bind fun x => (lcFold g.bind (fun r => Res.ok (true, r)) (E.sem Γ e) (own.map (·.2)) x.1 [] (wipeE x.2 (own.map (·.2)))).bind fun y => .ok (.nd .lst y.1, y.2) := by rw [lc_none]
@[simp] theorem ev_lc1 (own : List (Str × Nat)) (g : Tg) (it : It) (d e : E) : E.sem Γ (.lc own g it (some d) e) r = (It.sem Γ it r).bind fun x => (lcFold g.bind (fun r => (E.sem Γ d r).bind bool?) (E.sem Γ e) (own.map (·.2)) x.1 [] (wipeE x.2 (own.map (·.2)))).bind fun y => .ok (.nd .lst y.1, y.2) := by rw [lc_some]
@[simp] theorem evs_nil : E.sems Γ [] r = .ok ([], r) := rfl
@[simp] theorem evs_cons (e : E) (es : List E) : E.sems Γ (e :: es) r = (e.sem Γ r).bind fun x => (E.sems Γ es x.2).bind fun y => .ok (x.1 :: y.1, y.2) := rfl
@[simp] theorem ov_tm (e : E) : O.sem Γ (.tm e) r = (e.sem Γ r).bind fun x => .ok (.t x.1, x.2) := rfl
@[simp] theorem ov_bo (p : Pl) : O.sem Γ (.bo p) r = (p.sem Γ r).bind fun x => .ok (.p x.1, x.2) := rfl
@[simp] theorem ovs_nil : O.sems Γ [] r = .ok ([], r) := rfl
@[simp] theorem ovs_cons (e : O) (es : List O) : O.sems Γ (e :: es) r = (e.sem Γ r).bind fun x => (O.sems Γ es x.2).bind fun y => .ok (x.1 :: y.1, y.2) := rfl
@[simp] theorem ar_nil : Ar.sems Γ [] r = .ok ([], r) := rfl
@[simp] theorem ar_va (e : E) (es : List Ar) : Ar.sems Γ (.va e :: es) r = (e.sem Γ r).bind fun x => (Ar.sems Γ es x.2).bind fun y => .ok (.inl x.1 :: y.1, y.2) := rfl
@[simp] theorem ar_io (i : Nat) (es : List Ar) : Ar.sems Γ (.io i :: es) r = (match r[i]? with
    | some (some _) => (Ar.sems Γ es r).bind fun y => .ok (.inr i :: y.1, y.2)
    | _ => .bad) := rfl
@[simp] theorem pl_sl (i : Nat) : Pl.sem Γ (.sl i) r = (match r[i]? with
    | some (some _) => .ok ((i, []), r)
    | _ => .bad) := rfl
@[simp] theorem pl_ix (p : Pl) (e : E) : Pl.sem Γ (.ix p e) r = (p.sem Γ r).bind fun x => (e.sem Γ x.2).bind fun i => Res.of (((eget i.2 x.1).bind fun w => stepIx w i.1).map fun j => ((x.1.1, x.1.2 ++ [j]), i.2)) := rfl
@[simp] theorem it_sq (o : O) : It.sem Γ (.sq o) r = (O.sem Γ o r).bind fun x => Res.of (((x.1.val x.2).bind W.lstD).map fun ds => (ds.map .fl, x.2)) := rfl
@[simp] theorem it_r1 (e : E) : It.sem Γ (.r1 e) r = (e.sem Γ r).bind fun x => match x.1 with
    | .fl (.int n) => if within n then .ok (rangeW 0 n, x.2) else .bad
    | _ => .bad := rfl
@[simp] theorem it_en (o : O) : It.sem Γ (.en o) r = (O.sem Γ o r).bind fun x => Res.of (((x.1.val x.2).bind W.lstD).map fun ds => (enumW 0 ds, x.2)) := rfl
@[simp] theorem it_zp (a b : O) : It.sem Γ (.zp a b) r = (O.sem Γ a r).bind fun x => (O.sem Γ b x.2).bind fun y => match (x.1.val y.2).bind W.lstD, (y.1.val y.2).bind W.lstD with
    | some ds, some es => .ok (zipW ds es, y.2)
    | _, _ => .bad := rfl
@[simp] theorem st_asg (i : Nat) (e : E) : S.sem Γ (.asg i e) r = (e.sem Γ r).out fun x => if i < x.2.length then .nx (x.2.set i (some x.1)) else .bad := rfl
@[simp] theorem st_asgC (i : Nat) (e : E) : S.sem Γ (.asgC i e) r = (e.sem Γ r).out fun x => if i < x.2.length then .nx (x.2.set i (some x.1)) else .bad := rfl
@[simp] theorem st_unp (g : Tg) (e : E) : S.sem Γ (.unp g e) r = (e.sem Γ r).out fun x => match g.bind x.1 x.2 with
    | some r2 => .nx r2
    | none => .bad := rfl
@[simp] theorem st_seti (p : Pl) (i e : E) : S.sem Γ (.seti p i e) r = (e.sem Γ r).out fun x => (p.sem Γ x.2).out fun q => (i.sem Γ q.2).out fun k => match (eget k.2 q.1).bind fun y => stepIx y k.1 with
    | some j => match onL k.2 q.1 fun cs => some (cs.set j x.1) with
      | some r4 => .nx r4
      | none => .bad
    | none => .bad := rfl
@[simp] theorem st_app (p : Pl) (e : E) : S.sem Γ (.app p e) r = (p.sem Γ r).out fun q => if isL q.2 q.1 then (e.sem Γ q.2).out fun x => match onL x.2 q.1 fun cs => some (cs ++ [x.1]) with
    | some r3 => .nx r3
    | none => .bad
    else .bad := rfl
@[simp] theorem st_iff (c : E) (a b : List S) : S.sem Γ (.iff c a b) r = ((c.sem Γ r).bind bool?).out fun x => if x.1 then S.sems Γ a x.2 else S.sems Γ b x.2 := rfl
@[simp] theorem st_for (g : Tg) (it : It) (b : List S) : S.sem Γ (.forr g it b) r = (it.sem Γ r).out fun x => forFold g.bind (S.sems Γ b) x.1 x.2 := rfl
@[simp] theorem st_ret (e : E) : S.sem Γ (.ret e) r = (e.sem Γ r).out fun x => .rt x.1 x.2 := rfl
@[simp] theorem st_retN : S.sem Γ .retN r = .rt (.fl .non) r := rfl
@[simp] theorem sts_nil : S.sems Γ [] r = .nx r := rfl
@[simp] theorem sts_cons (s : S) (ss : List S) : S.sems Γ (s :: ss) r = (s.sem Γ r).andThen (S.sems Γ ss) := rfl
end
@[simp] theorem wget_nil (w : W) : w.get [] = some w := W.get_nil
@[simp] theorem wget_nd (k : Kd) (cs : List W) (j : Nat) (p : List Nat) : (W.nd k cs).get (j :: p) = (cs[j]?).bind fun y => y.get p := rfl
@[simp] theorem wget_fl (d : D) (j : Nat) (p : List Nat) : (W.fl d).get (j :: p) = (d.get (j :: p)).map .fl := rfl
@[simp] theorem dget_nil (d : D) : d.get [] = some d := D.get_nil
@[simp] theorem dget_nd (k : Kd) (cs : List D) (j : Nat) (p : List Nat) : (D.nd k cs).get (j :: p) = (cs[j]?).bind fun y => y.get p := rfl
@[simp] theorem rval_t (r : Env) (w : W) : Rv.val r (.t w) = some (.fl w.dat) := rfl
@[simp] theorem rval_p (r : Env) (q : Nat × List Nat) : Rv.val r (.p q) = eget r q := rfl
@[simp] theorem bool_bl (b : Bool) (r : Env) : bool? (.fl (.bl b), r) = .ok (b, r) := rfl
theorem small64_of {i : Int} (h1 : -(2 ^ 64) < i) (h2 : i < 2 ^ 64) : small64 i = true := decide_eq_true ⟨h1, h2⟩
theorem for_nx {bind : W → Env → Option Env} {body : Env → Out} {w : W} {ws : List W} {r r1 r2 : Env} (h1 : bind w r = some r1) (h2 : body r1 = .nx r2) : forFold bind body (w :: ws) r = forFold bind body ws r2 := by
  rw [forFold, h1]
  dsimp only
  rw [h2]
theorem for_nil {bind : W → Env → Option Env} {body : Env → Out} {r : Env} : forFold bind body [] r = .nx r := rfl
theorem lc_yes {bind : W → Env → Option Env} {elt : Env → Res (W × Env)} {own : List Nat} {w x : W} {ws acc : List W} {r r1 r2 : Env} (h1 : bind w r = some r1) (h2 : elt r1 = .ok (x, r2)) (h3 : small acc.length = true) :
    lcFold bind (fun r => Res.ok (true, r)) elt own (w :: ws) acc r = lcFold bind (fun r => Res.ok (true, r)) elt own ws (acc ++ [x]) (wipeE r2 own) := by
  rw [lcFold, h1]
  show (elt r1).noEx.bind _ = _
  rw [h2]
  show (if small acc.length then _ else _) = _
  rw [h3]
  rfl
theorem lc_end {bind : W → Env → Option Env} {test : Env → Res (Bool × Env)} {elt : Env → Res (W × Env)} {own : List Nat} {acc : List W} {r : Env} : lcFold bind test elt own [] acc r = .ok (acc, r) := rfl
end Vx
end

section
set_option maxHeartbeats 4000000
/-! Vx 26: plain laws of the operators. -/
namespace Vx
open PySem L2
theorem leD_total : PySem.W.TotalLe leD := by
  have h := PySem.W.sortLe_total (PyProof.Rows.listOrd PyProof.Rows.itemOrd) false (fun b : D => PySem.W.keyToks (py0 b))
  exact ⟨fun a b c => h.trans a b c, fun a b => h.total a b⟩
def tp2 (p : Int × Int) : D := .nd .tup [.int p.1, .int p.2]
theorem leD_ii (p q : Int × Int) : leD (tp2 p) (tp2 q) = decide (p.1 < q.1 ∨ (p.1 = q.1 ∧ p.2 ≤ q.2)) := by
  have e := congrFun (congrFun (PySem.W.dataLe_ii (β := Int × Int) (fun b => b.1) (fun b => b.2)) p) q
  rw [← e]
  rfl
theorem leD_int (p q : Int) : leD (.int p) (.int q) = decide (p ≤ q) := by
  have e := congrFun (congrFun (PySem.W.dataLe_int (β := Int) (fun b => b)) p) q
  rw [← e]
  rfl
theorem sort_ints (ns : List Int) : (ns.map D.int).mergeSort leD = (ns.mergeSort fun a b => decide (a ≤ b)).map D.int := by
  rw [← List.map_mergeSort (r := fun a b : Int => decide (a ≤ b)) (s := leD) (f := D.int) (l := ns)]
  intro a _ b _
  exact (leD_int a b).symm
theorem sort_ii (ps : List (Int × Int)) : (ps.map tp2).mergeSort leD = (ps.mergeSort fun p q => decide (p.1 < q.1 ∨ (p.1 = q.1 ∧ p.2 ≤ q.2))).map tp2 := by
  rw [← List.map_mergeSort (r := fun p q : Int × Int => decide (p.1 < q.1 ∨ (p.1 = q.1 ∧ p.2 ≤ q.2))) (s := leD) (f := tp2) (l := ps)]
  intro a _ b _
  exact (leD_ii a b).symm
theorem pys_ints : ∀ ns : List Int, D.pys (ns.map D.int) = some (ns.map PyData.int)
  | [] => rfl
  | n :: ns => by
    show (match D.py (.int n), D.pys (ns.map D.int) with
      | some p, some q => some (p :: q)
      | _, _ => none) = _
    rw [pys_ints ns]
    rfl
theorem eqD_nil (ns : List Int) : eqD? (.nd .lst (ns.map D.int)) (.nd .lst []) = some ns.isEmpty := by
  have e1 : D.py (.nd .lst (ns.map D.int)) = some (.list (ns.map PyData.int)) := by
    show (D.pys (ns.map D.int)).map PyData.list = _
    rw [pys_ints]
    rfl
  have e2 : D.py (.nd .lst []) = some (.list []) := rfl
  unfold eqD?
  rw [e1, e2]
  have s1 : SeqAt.shaped (.list (ns.map PyData.int)) = true := PySem.W.ke_shaped_ints ns
  have s2 : SeqAt.shaped (.list []) = true := by decide
  simp only [s1, s2, Bool.and_self, if_true]
  cases ns with
  | nil => simp [PyData.eqv, PyData.eqvAll]
  | cons n ns => simp [PyData.eqv, PyData.eqvAll]
theorem eqD_self {d : D} {p : PyData} (h : d.py = some p) (hl : p.canLay0 = true) (hd : p.depth ≤ 64) : eqD? d d = some true := by
  unfold eqD?
  rw [h]
  have s1 : SeqAt.shaped p = true := by
    unfold SeqAt.shaped
    rw [hl]
    simpa using hd
  simp [s1, SeqAt.eqv_refl p hl]
theorem pys_ii : ∀ ps : List (Int × Int), D.pys (ps.map tp2) = some (ps.map fun p => PyData.tuple [.int p.1, .int p.2])
  | [] => rfl
  | n :: ns => by
    show (match D.py (tp2 n), D.pys (ns.map tp2) with
      | some p, some q => some (p :: q)
      | _, _ => none) = _
    rw [pys_ii ns]
    rfl
theorem lay_ii : ∀ ps : List (Int × Int), PyData.canLayAll0 (ps.map fun p => PyData.tuple [.int p.1, .int p.2]) = true ∧ PyData.depthAll (ps.map fun p => PyData.tuple [.int p.1, .int p.2]) ≤ 10
  | [] => by constructor <;> simp [PyData.canLayAll0, PyData.depthAll]
  | n :: ns => by
    obtain ⟨h1, h2⟩ := lay_ii ns
    constructor
    · simp [PyData.canLayAll0, PyData.canLay0, h1]
    · simp only [List.map_cons, PyData.depthAll, PyData.depth]
      omega
theorem eqD_ii (ps : List (Int × Int)) : eqD? (.nd .lst (ps.map tp2)) (.nd .lst (ps.map tp2)) = some true := by
  obtain ⟨h1, h2⟩ := lay_ii ps
  refine eqD_self (p := .list (ps.map fun p => PyData.tuple [.int p.1, .int p.2])) ?_ (by simp [PyData.canLay0, h1]) (by simp only [PyData.depth]; omega)
  show (D.pys (ps.map tp2)).map PyData.list = _
  rw [pys_ii]
  rfl
theorem canSort_ii (ps : List (Int × Int)) : canSort (ps.map tp2) = true := by
  unfold canSort
  have a1 : ∀ p : Int × Int, (tp2 p).py = some (.tuple [.int p.1, .int p.2]) := fun p => rfl
  have a2 : ∀ p q : Int × Int, PySem.W.alike (py0 (tp2 p)) (py0 (tp2 q)) = true := fun p q => by
    simp [py0, a1, PySem.W.alike, PySem.W.alikeAll]
  simp [List.all_map, Function.comp_def, a1, a2, tp2, py0, PyData.depth, PyData.depthAll, PySem.W.alike, PySem.W.alikeAll, D.py, D.pys]
theorem canSort_ints (ns : List Int) : canSort (ns.map D.int) = true := by
  unfold canSort
  simp [List.all_map, Function.comp_def, py0, PyData.depth, PySem.W.alike, D.py]
theorem lstD_newL (ds : List D) : (newL ds).lstD = some ds := by
  obtain ⟨a1, a2⟩ := map_fl ds
  have e : (newL ds).shal = some (.lst, ds) := by
    show (if (ds.map W.fl).all W.isFl then some (Kd.lst, (ds.map W.fl).map W.unfl) else none) = _
    rw [a1, a2]
    rfl
  show (match (newL ds).shal with
    | some (.lst, ds) => some ds
    | _ => none) = _
  rw [e]
theorem lstD_fl (ds : List D) : (W.fl (.nd .lst ds)).lstD = some ds := rfl
end Vx
end

section
set_option maxHeartbeats 4000000
/-! Sh 1: typed data; plain functions that may fail; what a term computes of typed data. -/
namespace Vx
open PySem L2
namespace Sh

/-! ### typed data -/
structure Tx where
  s : Str
  ok : PyData.strOk s = true
  len : s.length ≤ 100000
theorem Tx.ext {a b : Tx} (h : a.s = b.s) : a = b := by
  cases a; cases b; cases h; rfl
instance : DecidableEq Tx := fun a b => if h : a.s = b.s then isTrue (Tx.ext h) else isFalse fun e => h (by rw [e])
abbrev dI (i : Int) : D := .int i
abbrev dB (i : Bool) : D := .bl i
abbrev dS (t : Tx) : D := .str t.s
abbrev dN (_ : Unit) : D := .non
def dO : Option Int → D
  | some i => .int i
  | none => .non
def dL {α : Type} (f : α → D) (xs : List α) : D := .nd .lst (xs.map f)
abbrev d1 {α : Type} (f : α → D) (p : α) : D := .nd .tup [f p]
abbrev d2 {α β : Type} (f : α → D) (g : β → D) (p : α × β) : D := .nd .tup [f p.1, g p.2]
abbrev d3 {α β γ : Type} (f : α → D) (g : β → D) (h : γ → D) (p : α × β × γ) : D := .nd .tup [f p.1, g p.2.1, h p.2.2]
abbrev d4 {α β γ δ : Type} (f : α → D) (g : β → D) (h : γ → D) (k : δ → D) (p : α × β × γ × δ) : D := .nd .tup [f p.1, g p.2.1, h p.2.2.1, k p.2.2.2]
abbrev d5 {α β γ δ ε : Type} (f : α → D) (g : β → D) (h : γ → D) (k : δ → D) (l : ε → D) (p : α × β × γ × δ × ε) : D := .nd .tup [f p.1, g p.2.1, h p.2.2.1, k p.2.2.2.1, l p.2.2.2.2]
abbrev d6 {α β γ δ ε ζ : Type} (f : α → D) (g : β → D) (h : γ → D) (k : δ → D) (l : ε → D) (m : ζ → D) (p : α × β × γ × δ × ε × ζ) : D := .nd .tup [f p.1, g p.2.1, h p.2.2.1, k p.2.2.2.1, l p.2.2.2.2.1, m p.2.2.2.2.2]
abbrev wI (i : Int) : W := .fl (.int i)
abbrev wB (i : Bool) : W := .fl (.bl i)
abbrev wN : W := .fl .non
abbrev fz {α : Type} (f : α → D) (x : α) : W := .fl (f x)
def oL {α : Type} (f : α → D) (xs : List α) : W := .nd .lst (xs.map fun x => .fl (f x))
/-- a list, its own or known for good -/
def IsL {α : Type} (f : α → D) (xs : List α) (w : W) : Prop := w = .fl (dL f xs) ∨ w = oL f xs
section
variable {α β : Type} {f : α → D} {xs : List α} {w : W}
theorem IsL.fz : IsL f xs (.fl (dL f xs)) := .inl rfl
theorem IsL.ow : IsL f xs (oL f xs) := .inr rfl
theorem dats_fl' : ∀ ds : List D, W.dats (ds.map W.fl) = ds
  | [] => rfl
  | d :: ds => by
    show d :: W.dats (ds.map W.fl) = d :: ds
    rw [dats_fl' ds]
theorem oL_new (f : α → D) (xs : List α) : oL f xs = newL (xs.map f) := by
  unfold oL newL
  rw [List.map_map]
  rfl
theorem oL_dat (f : α → D) (xs : List α) : (oL f xs).dat = dL f xs := by
  rw [oL_new]
  show D.nd .lst (W.dats ((xs.map f).map W.fl)) = _
  rw [dats_fl']
  rfl
theorem IsL.dat (h : IsL f xs w) : w.dat = dL f xs := by
  rcases h with h | h <;> rw [h]
  · rfl
  · exact oL_dat f xs
theorem IsL.lstD (h : IsL f xs w) : w.lstD = some (xs.map f) := by
  rcases h with h | h <;> rw [h]
  · rfl
  · rw [oL_new]
    exact lstD_newL _
theorem IsL.seqD (h : IsL f xs w) : w.seqD = some (xs.map f) := by
  have h1 := h.lstD
  unfold W.lstD at h1
  unfold W.seqD
  split at h1
  · rename_i e
    rw [e]
    exact h1
  · cases h1
theorem IsL.lenD (h : IsL f xs w) : w.lenD = some (xs.length : Int) := by
  rcases h with h | h <;> rw [h]
  · show some (((xs.map f).length : Nat) : Int) = _
    rw [List.length_map]
  · show some (((xs.map fun x => W.fl (f x)).length : Nat) : Int) = _
    rw [List.length_map]
theorem IsL.truth (h : IsL f xs w) : w.truth = some (!xs.isEmpty) := by
  rcases h with h | h <;> rw [h]
  · show some (!(xs.map f).isEmpty) = _
    rw [List.isEmpty_map]
  · show some (!(xs.map fun x => W.fl (f x)).isEmpty) = _
    rw [List.isEmpty_map]
theorem IsL.at (h : IsL f xs w) {j : Int} {x : α} (hx : atI xs j = some x) : ∃ n, stepIx w (wI j) = some n ∧ w.get [n] = some (.fl (f x)) := by
  unfold atI at hx
  obtain ⟨n, h1, h2⟩ := Option.bind_eq_some_iff.mp hx
  rcases h with h | h <;> subst h
  · refine ⟨n, ?_, ?_⟩
    · show ixN (xs.map f).length j = _
      rw [List.length_map]
      exact h1
    · show ((D.nd Kd.lst (xs.map f)).get [n]).map W.fl = _
      rw [dget_nd, List.getElem?_map, h2]
      simp
  · refine ⟨n, ?_, ?_⟩
    · show ixN (xs.map fun x => W.fl (f x)).length j = _
      rw [List.length_map]
      exact h1
    · show (W.nd Kd.lst (xs.map fun x => W.fl (f x))).get [n] = _
      rw [wget_nd, List.getElem?_map, h2]
      simp
end

/-! ### plain functions that may fail -/
section
variable {α β σ ρ : Type}
def ob (o : Option α) (f : α → Option β) : Option β := match o with
  | some a => f a
  | none => none
theorem ob_some {o : Option α} {f : α → Option β} {b : β} (h : ob o f = some b) : ∃ a, o = some a ∧ f a = some b := by
  cases o with
  | none => cases h
  | some a => exact ⟨a, rfl, h⟩
@[simp] theorem ob_of (a : α) (f : α → Option β) : ob (some a) f = f a := rfl
theorem ite_some {b : Bool} {x y : Option α} {v : α} (h : (if b = true then x else y) = some v) : (b = true ∧ x = some v) ∨ (b = false ∧ y = some v) := by
  cases b with
  | true => exact .inl ⟨rfl, h⟩
  | false => exact .inr ⟨rfl, h⟩
def forS (F : α → σ → Option σ) : List α → σ → Option σ
  | [], s => some s
  | x :: xs, s => ob (F x s) fun s' => forS F xs s'
def forO (F : α → σ → Option (ρ ⊕ σ)) : List α → σ → Option (ρ ⊕ σ)
  | [], s => some (.inr s)
  | x :: xs, s => ob (F x s) fun o => match o with
    | .inr s' => forO F xs s'
    | .inl v => some (.inl v)
def whlS (C : σ → Option Bool) (F : σ → Option σ) : Nat → σ → Option σ
  | 0, _ => none
  | n + 1, s => ob (C s) fun b => if b = true then ob (F s) fun s' => whlS C F n s' else some s
def orn (o : ρ ⊕ σ) (k : σ → Option ρ) : Option ρ := match o with
  | .inl v => some v
  | .inr s => k s
def ornS {τ : Type} (o : ρ ⊕ σ) (k : σ → Option (ρ ⊕ τ)) : Option (ρ ⊕ τ) := match o with
  | .inl v => some (.inl v)
  | .inr s => k s
def lcG (F : α → σ → Option (Option β × σ)) : List α → σ → Option (List β × σ)
  | [], s => some ([], s)
  | x :: xs, s => ob (F x s) fun p => ob (lcG F xs p.2) fun q => some (match p.1 with
    | some y => (y :: q.1, q.2)
    | none => q)
def lenOk (xs : List α) : Option Unit := if xs.length ≤ 100000 then some () else none
def mapC (F : α → β) (xs : List α) : Option (List β) := if xs.length ≤ 100000 then some (xs.map F) else none
def filC (P : α → Bool) (F : α → β) (xs : List α) : Option (List β) := if xs.length ≤ 100000 then some ((xs.filter P).map F) else none
def appO (xs : List α) (x : α) : Option (List α) := if xs.length + 1 ≤ 100000 then some (xs ++ [x]) else none
def catO (xs ys : List α) : Option (List α) := if xs.length + ys.length ≤ 100000 then some (xs ++ ys) else none
def insO (xs : List α) (i : Int) (x : α) : Option (List α) := if 0 ≤ i ∧ i < 2 ^ 63 ∧ xs.length + 1 ≤ 100000 then some (xs.take i.toNat ++ x :: xs.drop i.toNat) else none
def setO (xs : List α) (i : Int) (x : α) : Option (List α) := (ixN xs.length i).bind fun j => if xs.length ≤ 100000 then some (xs.set j x) else none
def delO (xs : List α) (i : Int) : Option (List α) := (ixN xs.length i).bind fun j => if xs.length ≤ 100000 then some (xs.eraseIdx j) else none
def mulO (x y : Int) : Option Int := if small64 x = true ∨ small64 y = true then some (x * y) else none
def divO (x y : Int) : Option Int := if 0 < y ∧ y < 1073741824 then some (x / y) else none
def modO (x y : Int) : Option Int := if 0 < y then some (x % y) else none
def rgI (lo hi : Int) : List Int := (List.range (hi - lo).toNat).map fun (i : Nat) => lo + (i : Int)
def rngO (lo hi : Int) : Option (List Int) := if within lo = true ∧ within hi = true then some (rgI lo hi) else none
def rngL (lo hi : Int) : Option (List Int) := if -100000 ≤ lo ∧ lo ≤ 100000 ∧ -100000 ≤ hi ∧ hi ≤ 100000 then some (rgI lo hi) else none
def cutL (xs : List α) (lo hi : Option Int) : List α := (xs.drop (HT.sIx xs.length 0 lo)).take (HT.sIx xs.length xs.length hi - HT.sIx xs.length 0 lo)
def enumL : Nat → List α → List (Int × α)
  | _, [] => []
  | n, d :: ds => ((n : Int), d) :: enumL (n + 1) ds
end

/-! ### what terms compute -/
section
variable (Γ : Den)
abbrev X (e : E) (r : Env) (w : W) (r' : Env) : Prop := E.sem Γ e r = .ok (w, r')
abbrev XA (as : List Ar) (r : Env) (vs : List (W ⊕ Nat)) (r' : Env) : Prop := Ar.sems Γ as r = .ok (vs, r')
abbrev XI (it : It) (r : Env) (ws : List W) (r' : Env) : Prop := It.sem Γ it r = .ok (ws, r')
def PW (p : Pl) (r : Env) (i : Nat) (w : W) (r' : Env) : Prop := ∃ js, Pl.sem Γ p r = .ok ((i, js), r') ∧ eget r' (i, js) = some w
def Keep : Option Nat → Env → Env → Prop
  | none, _, _ => True
  | some i, r, r' => r'[i]? = r[i]?
def OV (o : O) (r : Env) (rt : Option Nat) (w : W) (r' : Env) : Prop := ∃ v, O.sem Γ o r = .ok (v, r') ∧ ∀ r'', Keep rt r' r'' → Rv.val r'' v = some w
def XE (es : List E) (r : Env) (ws : List W) (r' : Env) : Prop := E.sems Γ es r = .ok (ws, r')
end
section
variable {Γ : Den} {r r1 r2 r3 : Env} {w u : W} {d : D}
theorem get_app : ∀ {js : List Nat} {w : W} {n : Nat}, w.get (js ++ [n]) = (w.get js).bind fun u => u.get [n]
  | [], w, n => by simp
  | j :: js, .fl d, n => by
    have key : ∀ (js : List Nat) (d : D), d.get (js ++ [n]) = (d.get js).bind fun u => u.get [n] := by
      intro js
      induction js with
      | nil => intro d; simp
      | cons j js ih =>
        intro d
        cases d with
        | nd k cs =>
          show (cs[j]?.bind fun y => y.get (js ++ [n])) = ((cs[j]?).bind fun y => y.get js).bind fun u => u.get [n]
          cases cs[j]? with
          | none => rfl
          | some y => exact ih y
        | _ => rfl
    show (d.get (j :: (js ++ [n]))).map W.fl = ((d.get (j :: js)).map W.fl).bind fun u => u.get [n]
    have k1 := key (j :: js) d
    rw [show j :: (js ++ [n]) = (j :: js) ++ [n] from rfl, k1]
    cases d.get (j :: js) with
    | none => rfl
    | some y => rfl
  | j :: js, .nd k cs, n => by
    show (cs[j]?.bind fun y => y.get (js ++ [n])) = ((cs[j]?).bind fun y => y.get js).bind fun u => u.get [n]
    cases cs[j]? with
    | none => rfl
    | some y => exact get_app
theorem PW.sl {i : Nat} (h : r[i]? = some (some w)) : PW Γ (.sl i) r i w r := by
  refine ⟨[], ?_, ?_⟩
  · rw [pl_sl, h]
  · unfold eget
    rw [h]
    simp
theorem PW.st {p : Pl} {e : E} {i n : Nat} {k : W} (hp : PW Γ p r i w r1) (he : X Γ e r1 k r2) (hk : r2[i]? = r1[i]?) (h1 : stepIx w k = some n) (h2 : w.get [n] = some u) : PW Γ (.ix p e) r i u r2 := by
  obtain ⟨js, a1, a2⟩ := hp
  have a3 : eget r2 (i, js) = some w := by
    unfold eget at a2 ⊢
    rw [hk]
    exact a2
  refine ⟨js ++ [n], ?_, ?_⟩
  · rw [pl_ix, a1]
    show (E.sem Γ e r1).bind _ = _
    rw [he]
    show Res.of (((eget r2 (i, js)).bind fun w => stepIx w k).map fun j => ((i, js ++ [j]), r2)) = _
    rw [a3]
    show Res.of ((stepIx w k).map fun j => ((i, js ++ [j]), r2)) = _
    rw [h1]
    rfl
  · unfold eget at a3 ⊢
    dsimp only at a3 ⊢
    split at a3
    · rename_i x e
      rw [get_app, a3]
      exact h2
    · cases a3
theorem PW.ky {p : Pl} {e : E} {i n : Nat} {k : W} (hp : PW Γ p r i w r1) (he : X Γ e r1 k r2) (hk : r2[i]? = r1[i]?) (h1 : stepKy w k = some n) (h2 : w.get [n] = some u) : PW Γ (.ky p e) r i u r2 := by
  obtain ⟨js, a1, a2⟩ := hp
  have a3 : eget r2 (i, js) = some w := by
    unfold eget at a2 ⊢
    rw [hk]
    exact a2
  refine ⟨js ++ [n], ?_, ?_⟩
  · show ((p.sem Γ r).bind fun x => (e.sem Γ x.2).bind fun i => Res.of (((eget i.2 x.1).bind fun w => stepKy w i.1).map fun j => ((x.1.1, x.1.2 ++ [j]), i.2))) = _
    rw [a1]
    show (E.sem Γ e r1).bind _ = _
    rw [he]
    show Res.of (((eget r2 (i, js)).bind fun w => stepKy w k).map fun j => ((i, js ++ [j]), r2)) = _
    rw [a3]
    show Res.of ((stepKy w k).map fun j => ((i, js ++ [j]), r2)) = _
    rw [h1]
    rfl
  · unfold eget at a3 ⊢
    dsimp only at a3 ⊢
    split at a3
    · rename_i x e
      rw [get_app, a3]
      exact h2
    · cases a3
theorem PW.ixL {α : Type} {f : α → D} {xs : List α} {x : α} {p : Pl} {e : E} {i : Nat} {j : Int} (hp : PW Γ p r i w r1) (hl : IsL f xs w) (he : X Γ e r1 (wI j) r2) (hk : r2[i]? = r1[i]?) (hx : atI xs j = some x) : PW Γ (.ix p e) r i (.fl (f x)) r2 := by
  obtain ⟨n, h1, h2⟩ := hl.at hx
  exact PW.st hp he hk h1 h2
theorem PW.ixT {ds : List D} {p : Pl} {i n : Nat} (hp : PW Γ p r i (.fl (.nd .tup ds)) r1) (hn : (match ixN ds.length (n : Int) with
    | some m => ds[m]?
    | none => none) = some d) : PW Γ (.ix p (.con (.int (n : Int)))) r i (.fl d) r1 := by
  split at hn
  · rename_i m e
    refine PW.st (k := wI (n : Int)) (n := m) hp rfl rfl e ?_
    show ((D.nd Kd.tup ds).get [m]).map W.fl = _
    rw [dget_nd, hn]
    simp
  · cases hn
theorem X.gt {p : Pl} {i : Nat} (h : PW Γ p r i (.fl d) r1) : X Γ (.gt p) r (.fl d) r1 := by
  obtain ⟨js, a1, a2⟩ := h
  rw [X, ev_gt, a1]
  show (match eget r1 (i, js) with
    | some (.fl d) => Res.ok (W.fl d, r1)
    | _ => .bad) = _
  rw [a2]
theorem X.rdF {p : Pl} {i : Nat} (h : PW Γ p r i (.fl d) r1) : X Γ (.rd p) r (.fl d) r1 := by
  obtain ⟨js, a1, a2⟩ := h
  rw [X, ev_rd, a1]
  show Res.of (readAt r1 (i, js)) = _
  unfold readAt
  rw [a2]
  rfl
theorem X.rdO {i : Nat} {k : Kd} {cs : List W} (h : r[i]? = some (some (.nd k cs))) : X Γ (.rd (.sl i)) r (.fl (W.nd k cs).dat) (r.set i (some (.fl (W.nd k cs).dat))) := by
  rw [X, ev_rd, pl_sl, h]
  show Res.of (readAt r (i, [])) = _
  have e : eget r (i, []) = some (.nd k cs) := by
    unfold eget
    rw [h]
    simp
  unfold readAt
  rw [e]
  show Res.ok (W.fl (W.nd k cs).dat, W.setAt r i [] (.fl (W.nd k cs).dat)) = _
  unfold W.setAt
  rw [h]
  rfl
theorem X.rdL {α : Type} {f : α → D} {xs : List α} {i : Nat} (h : r[i]? = some (some w)) (hl : IsL f xs w) : X Γ (.rd (.sl i)) r (.fl (dL f xs)) (r.set i (some (.fl (dL f xs)))) := by
  rcases hl with hl | hl
  · subst hl
    have e : r.set i (some (.fl (dL f xs))) = r := by
      obtain ⟨hi, e⟩ := List.getElem?_eq_some_iff.mp h
      rw [← e]
      exact List.set_getElem_self hi
    rw [e]
    exact X.rdF (PW.sl h)
  · subst hl
    have := X.rdO (Γ := Γ) (k := .lst) (cs := xs.map fun x => .fl (f x)) h
    have e : (W.nd Kd.lst (xs.map fun x => W.fl (f x))).dat = dL f xs := oL_dat f xs
    rw [e] at this
    exact this
theorem X.mv {i : Nat} (h : r[i]? = some (some w)) : X Γ (.mv i) r w (r.set i none) := by
  rw [X, ev_mv, h]
theorem X.conI {i : Int} : X Γ (.con (.int i)) r (wI i) r := rfl
theorem X.conB {i : Bool} : X Γ (.con (.bl i)) r (wB i) r := rfl
theorem X.conN : X Γ (.con .non) r wN r := rfl
theorem X.conS (t : Tx) : X Γ (.con (.str t.s)) r (fz dS t) r := rfl
theorem X.glI {x : Str} {i : Int} : X Γ (.gl x (.int i)) r (wI i) r := rfl
theorem X.glS {x : Str} (t : Tx) : X Γ (.gl x (.str t.s)) r (fz dS t) r := rfl
/-! operands -/
theorem OV.tm {e : E} (h : X Γ e r (.fl d) r1) : OV Γ (.tm e) r none (.fl d) r1 := by
  refine ⟨.t (.fl d), ?_, fun _ _ => rfl⟩
  rw [ov_tm, h]
  rfl
theorem OV.tmW {e : E} (h : X Γ e r w r1) : OV Γ (.tm e) r none (.fl w.dat) r1 := by
  refine ⟨.t w, ?_, fun _ _ => rfl⟩
  rw [ov_tm, h]
  rfl
theorem OV.tmL {α : Type} {f : α → D} {xs : List α} {e : E} (h : X Γ e r (oL f xs) r1) : OV Γ (.tm e) r none (.fl (dL f xs)) r1 := by
  have := OV.tmW h
  rw [oL_dat] at this
  exact this
theorem OV.bo {p : Pl} {i : Nat} (h : PW Γ p r i w r1) : OV Γ (.bo p) r (some i) w r1 := by
  obtain ⟨js, a1, a2⟩ := h
  refine ⟨.p (i, js), ?_, fun r'' k => ?_⟩
  · rw [ov_bo, a1]
    rfl
  · show eget r'' (i, js) = _
    unfold eget at a2 ⊢
    have k' : r''[i]? = r1[i]? := k
    rw [k']
    exact a2
theorem keep_rfl : ∀ {rt : Option Nat} {r : Env}, Keep rt r r
  | none, _ => trivial
  | some _, _ => rfl
theorem X.op1 {o : Rop} {a : O} {ra : Option Nat} {wa : W} (ha : OV Γ a r ra wa r1) (h : o.run [wa] = some w) : X Γ (.op o [a]) r w.fzT r1 := by
  obtain ⟨v, a1, a2⟩ := ha
  rw [X, ev_op, ovs_cons, a1]
  show Res.of ((([v].mapM (Rv.val r1)).bind o.run).map fun w => (w.fzT, r1)) = _
  have e : [v].mapM (Rv.val r1) = some [wa] := by
    rw [List.mapM_cons, a2 r1 keep_rfl]
    rfl
  rw [e]
  show Res.of ((o.run [wa]).map fun w => (w.fzT, r1)) = _
  rw [h]
  rfl
theorem X.op2 {o : Rop} {a b : O} {ra rb : Option Nat} {wa wb : W} (ha : OV Γ a r ra wa r1) (hb : OV Γ b r1 rb wb r2) (hk : Keep ra r1 r2) (h : o.run [wa, wb] = some w) : X Γ (.op o [a, b]) r w.fzT r2 := by
  obtain ⟨v, a1, a2⟩ := ha
  obtain ⟨u, b1, b2⟩ := hb
  have e : [v, u].mapM (Rv.val r2) = some [wa, wb] := by
    rw [List.mapM_cons, List.mapM_cons, a2 r2 hk, b2 r2 keep_rfl]
    rfl
  rw [X, ev_op, ovs_cons, a1]
  simp only [res_bind_ok, ovs_cons, b1, ovs_nil, e]
  show Res.of ((o.run [wa, wb]).map fun w => (w.fzT, r2)) = _
  rw [h]
  rfl
theorem X.op3 {o : Rop} {a b c : O} {ra rb rc : Option Nat} {wa wb wc : W} (ha : OV Γ a r ra wa r1) (hb : OV Γ b r1 rb wb r2) (hc : OV Γ c r2 rc wc r3) (hk : Keep ra r1 r3) (hk2 : Keep rb r2 r3) (h : o.run [wa, wb, wc] = some w) : X Γ (.op o [a, b, c]) r w.fzT r3 := by
  obtain ⟨v, a1, a2⟩ := ha
  obtain ⟨u, b1, b2⟩ := hb
  obtain ⟨z, c1, c2⟩ := hc
  have e : [v, u, z].mapM (Rv.val r3) = some [wa, wb, wc] := by
    rw [List.mapM_cons, List.mapM_cons, List.mapM_cons, a2 r3 hk, b2 r3 hk2, c2 r3 keep_rfl]
    rfl
  rw [X, ev_op, ovs_cons, a1]
  simp only [res_bind_ok, ovs_cons, b1, c1, ovs_nil, e]
  show Res.of ((o.run [wa, wb, wc]).map fun w => (w.fzT, r3)) = _
  rw [h]
  rfl
/-! numbers -/
section
variable {a b : O} {ra rb : Option Nat} {x y : Int}
theorem X.add (ha : OV Γ a r ra (wI x) r1) (hb : OV Γ b r1 rb (wI y) r2) (hk : Keep ra r1 r2) : X Γ (.op .add [a, b]) r (wI (x + y)) r2 := X.op2 (w := wI (x + y)) ha hb hk rfl
theorem X.sub (ha : OV Γ a r ra (wI x) r1) (hb : OV Γ b r1 rb (wI y) r2) (hk : Keep ra r1 r2) : X Γ (.op .sub [a, b]) r (wI (x - y)) r2 := X.op2 (w := wI (x - y)) ha hb hk rfl
theorem X.mulO {z : Int} (ha : OV Γ a r ra (wI x) r1) (hb : OV Γ b r1 rb (wI y) r2) (hk : Keep ra r1 r2) (h : Sh.mulO x y = some z) : X Γ (.op .mul [a, b]) r (wI z) r2 := by
  unfold Sh.mulO at h
  split at h
  · rename_i c
    refine X.op2 (w := wI z) ha hb hk ?_
    show (if small64 x || small64 y then pI (x * y) else none) = _
    rw [if_pos (by simpa using c)]
    rw [Option.some.inj h]
  · cases h
theorem X.mulL (ha : OV Γ a r ra (wI x) r1) (hb : OV Γ b r1 rb (wI y) r2) (hk : Keep ra r1 r2) (h : small64 x = true) : X Γ (.op .mul [a, b]) r (wI (x * y)) r2 := X.mulO ha hb hk (if_pos (.inl h))
theorem X.mulR (ha : OV Γ a r ra (wI x) r1) (hb : OV Γ b r1 rb (wI y) r2) (hk : Keep ra r1 r2) (h : small64 y = true) : X Γ (.op .mul [a, b]) r (wI (x * y)) r2 := X.mulO ha hb hk (if_pos (.inr h))
theorem X.divO {z : Int} (ha : OV Γ a r ra (wI x) r1) (hb : OV Γ b r1 rb (wI y) r2) (hk : Keep ra r1 r2) (h : Sh.divO x y = some z) : X Γ (.op .fdiv [a, b]) r (wI z) r2 := by
  unfold Sh.divO at h
  split at h
  · rename_i c
    refine X.op2 (w := wI z) ha hb hk ?_
    show (if _ then _ else _) = _
    rw [if_pos c, Option.some.inj h]
  · cases h
theorem X.div (ha : OV Γ a r ra (wI x) r1) (hb : OV Γ b r1 rb (wI y) r2) (hk : Keep ra r1 r2) (h : 0 < y ∧ y < 1073741824) : X Γ (.op .fdiv [a, b]) r (wI (x / y)) r2 := X.divO ha hb hk (if_pos h)
theorem X.modO {z : Int} (ha : OV Γ a r ra (wI x) r1) (hb : OV Γ b r1 rb (wI y) r2) (hk : Keep ra r1 r2) (h : Sh.modO x y = some z) : X Γ (.op .mod [a, b]) r (wI z) r2 := by
  unfold Sh.modO at h
  split at h
  · rename_i c
    refine X.op2 (w := wI z) ha hb hk ?_
    show (if _ then _ else _) = _
    rw [if_pos c, Option.some.inj h]
  · cases h
theorem X.mod (ha : OV Γ a r ra (wI x) r1) (hb : OV Γ b r1 rb (wI y) r2) (hk : Keep ra r1 r2) (h : 0 < y) : X Γ (.op .mod [a, b]) r (wI (x % y)) r2 := X.modO ha hb hk (if_pos h)
theorem X.pow {z : Int} (ha : OV Γ a r ra (wI x) r1) (hb : OV Γ b r1 rb (wI y) r2) (hk : Keep ra r1 r2) (h : (if 0 ≤ y ∧ y ≤ 1000000 ∧ x.natAbs < 2 ^ 64 then pI (x ^ y.toNat) else none) = some (wI z)) : X Γ (.op .pow [a, b]) r (wI z) r2 := X.op2 (w := wI z) ha hb hk h
theorem X.neg (ha : OV Γ a r ra (wI x) r1) : X Γ (.op .neg [a]) r (wI (-x)) r1 := X.op1 (w := wI (-x)) ha rfl
theorem X.lt (ha : OV Γ a r ra (wI x) r1) (hb : OV Γ b r1 rb (wI y) r2) (hk : Keep ra r1 r2) : X Γ (.op .lt [a, b]) r (wB (decide (x < y))) r2 := X.op2 (w := wB (decide (x < y))) ha hb hk rfl
theorem X.le (ha : OV Γ a r ra (wI x) r1) (hb : OV Γ b r1 rb (wI y) r2) (hk : Keep ra r1 r2) : X Γ (.op .le [a, b]) r (wB (decide (x ≤ y))) r2 := X.op2 (w := wB (decide (x ≤ y))) ha hb hk rfl
theorem X.gtI (ha : OV Γ a r ra (wI x) r1) (hb : OV Γ b r1 rb (wI y) r2) (hk : Keep ra r1 r2) : X Γ (.op .gt [a, b]) r (wB (decide (y < x))) r2 := X.op2 (w := wB (decide (y < x))) ha hb hk rfl
theorem X.geI (ha : OV Γ a r ra (wI x) r1) (hb : OV Γ b r1 rb (wI y) r2) (hk : Keep ra r1 r2) : X Γ (.op .ge [a, b]) r (wB (decide (y ≤ x))) r2 := X.op2 (w := wB (decide (y ≤ x))) ha hb hk rfl
theorem X.min2 (ha : OV Γ a r ra (wI x) r1) (hb : OV Γ b r1 rb (wI y) r2) (hk : Keep ra r1 r2) : X Γ (.op .min2 [a, b]) r (wI (min x y)) r2 := by
  refine X.op2 (w := wI (min x y)) ha hb hk ?_
  show pI (if y < x then y else x) = _
  have : (if y < x then y else x) = min x y := by
    rw [Int.min_def]
    split <;> split <;> omega
  rw [this]
theorem X.max2 (ha : OV Γ a r ra (wI x) r1) (hb : OV Γ b r1 rb (wI y) r2) (hk : Keep ra r1 r2) : X Γ (.op .max2 [a, b]) r (wI (max x y)) r2 := by
  refine X.op2 (w := wI (max x y)) ha hb hk ?_
  show pI (if y > x then y else x) = _
  have : (if y > x then y else x) = max x y := by
    rw [Int.max_def]
    split <;> split <;> omega
  rw [this]
theorem X.intI (ha : OV Γ a r ra (wI x) r1) : X Γ (.op .intB [a]) r (wI x) r1 := X.op1 (w := wI x) ha rfl
theorem X.intB {x : Bool} (ha : OV Γ a r ra (wB x) r1) : X Γ (.op .intB [a]) r (wI (if x = true then 1 else 0)) r1 := X.op1 (w := wI (if x = true then 1 else 0)) ha rfl
theorem eqF_I (n : Bool) : eqF? n (wI x) (wI y) = pB (n != decide (x = y)) := by
  unfold eqF?
  show (if scal (V.int x) (V.int y) then pB (n != decide (V.int x = V.int y)) else none) = _
  simp [scal]
theorem X.eqI (ha : OV Γ a r ra (wI x) r1) (hb : OV Γ b r1 rb (wI y) r2) (hk : Keep ra r1 r2) : X Γ (.op .eqF [a, b]) r (wB (decide (x = y))) r2 := by
  refine X.op2 (w := wB (decide (x = y))) ha hb hk ?_
  show eqF? false (wI x) (wI y) = _
  rw [eqF_I]
  simp
theorem X.neI (ha : OV Γ a r ra (wI x) r1) (hb : OV Γ b r1 rb (wI y) r2) (hk : Keep ra r1 r2) : X Γ (.op .neF [a, b]) r (wB (decide (x ≠ y))) r2 := by
  refine X.op2 (w := wB (decide (x ≠ y))) ha hb hk ?_
  show eqF? true (wI x) (wI y) = _
  rw [eqF_I]
  simp
end
/-! texts -/
section
variable {a b : O} {ra rb : Option Nat} {s t : Tx}
theorem tx_eq : (s.s = t.s) = (s = t) := propext ⟨Tx.ext, fun h => by rw [h]⟩
theorem eqF_S (n : Bool) : eqF? n (fz dS s) (fz dS t) = pB (n != decide (s = t)) := by
  unfold eqF?
  show (if scal (V.str s.s) (V.str t.s) then pB (n != decide (V.str s.s = V.str t.s)) else none) = _
  simp [scal, tx_eq]
theorem X.eqS (ha : OV Γ a r ra (fz dS s) r1) (hb : OV Γ b r1 rb (fz dS t) r2) (hk : Keep ra r1 r2) : X Γ (.op .eqF [a, b]) r (wB (decide (s = t))) r2 := by
  refine X.op2 (w := wB (decide (s = t))) ha hb hk ?_
  show eqF? false (fz dS s) (fz dS t) = _
  rw [eqF_S]
  simp
theorem X.neS (ha : OV Γ a r ra (fz dS s) r1) (hb : OV Γ b r1 rb (fz dS t) r2) (hk : Keep ra r1 r2) : X Γ (.op .neF [a, b]) r (wB (decide (s ≠ t))) r2 := by
  refine X.op2 (w := wB (decide (s ≠ t))) ha hb hk ?_
  show eqF? true (fz dS s) (fz dS t) = _
  rw [eqF_S]
  simp
end
end
end Sh
end Vx
end

section
set_option maxHeartbeats 4000000
/-! Sh 2: typed data compared and put in order; lists, texts, tuples; calls. -/
namespace Vx
open PySem L2
namespace Sh
/-! ### equality -/
structure Rp {α : Type} (f : α → D) (n : Nat) : Prop where
  ex : ∃ g : α → PyData, (∀ x, (f x).py = some (g x)) ∧ (∀ x, PyData.canLay0 (g x) = true) ∧ (∀ x, PyData.depth (g x) ≤ n) ∧ ∀ x y, PyData.eqv (g x) (g y) = true ↔ x = y
theorem rpI {n : Nat} : Rp dI n := ⟨PyData.int, fun _ => rfl, fun _ => by simp [PyData.canLay0], fun _ => by simp [PyData.depth], fun x y => by simp [PyData.eqv]⟩
theorem rpB {n : Nat} : Rp dB n := ⟨PyData.bool, fun _ => rfl, fun _ => by simp [PyData.canLay0], fun _ => by simp [PyData.depth], fun x y => by simp [PyData.eqv]⟩
theorem rpN {n : Nat} : Rp dN n := ⟨fun _ => PyData.none, fun _ => rfl, fun _ => by simp [PyData.canLay0], fun _ => by simp [PyData.depth], fun x y => by simp [PyData.eqv]⟩
theorem rpS {n : Nat} : Rp dS n := ⟨fun t => PyData.str t.s, fun _ => rfl, fun t => by simpa [PyData.canLay0] using t.ok, fun _ => by simp [PyData.depth], fun x y => by simp [PyData.eqv, tx_eq]⟩
theorem rpO {n : Nat} : Rp dO n := ⟨fun o => match o with
    | some i => PyData.int i
    | none => .none, fun x => by cases x <;> rfl, fun x => by cases x <;> simp [PyData.canLay0], fun x => by cases x <;> simp [PyData.depth], fun x y => by cases x <;> cases y <;> simp [PyData.eqv]⟩
section
variable {α β γ δ ε ζ : Type} {f : α → D} {g : β → D} {h : γ → D} {k : δ → D} {l : ε → D} {m : ζ → D} {n : Nat}
theorem Rp.pys {f : α → D} {q : α → PyData} (h : ∀ x, (f x).py = some (q x)) : ∀ xs : List α, D.pys (xs.map f) = some (xs.map q)
  | [] => rfl
  | x :: xs => by
    show (match D.py (f x), D.pys (xs.map f) with
      | some p, some q => some (p :: q)
      | _, _ => none) = _
    rw [h, Rp.pys h xs]
    rfl
theorem lay_all {q : α → PyData} (h : ∀ x, PyData.canLay0 (q x) = true) : ∀ xs : List α, PyData.canLayAll0 (xs.map q) = true
  | [] => by simp [PyData.canLayAll0]
  | x :: xs => by
    rw [List.map_cons]
    simp only [PyData.canLayAll0, h, lay_all h xs, Bool.and_self]
theorem depth_all {q : α → PyData} (h : ∀ x, PyData.depth (q x) ≤ n) : ∀ xs : List α, PyData.depthAll (xs.map q) ≤ n
  | [] => by simp [PyData.depthAll]
  | x :: xs => by
    have h1 := h x
    have h2 := depth_all h xs
    simp only [List.map_cons, PyData.depthAll]
    omega
theorem eqv_all {q : α → PyData} (h : ∀ x y, PyData.eqv (q x) (q y) = true ↔ x = y) : ∀ xs ys : List α, PyData.eqvAll (xs.map q) (ys.map q) = true ↔ xs = ys
  | [], [] => by simp [PyData.eqvAll]
  | [], y :: ys => by simp [PyData.eqvAll]
  | x :: xs, [] => by simp [PyData.eqvAll]
  | x :: xs, y :: ys => by
    simp only [List.map_cons, PyData.eqvAll, Bool.and_eq_true, h, eqv_all h xs ys, List.cons.injEq]
theorem rpL (r : Rp f n) : Rp (dL f) (n + 1) := by
  obtain ⟨q, h1, h2, h3, h4⟩ := r.ex
  refine ⟨fun xs => PyData.list (xs.map q), fun xs => ?_, fun xs => ?_, fun xs => ?_, fun xs ys => ?_⟩
  · show (D.pys (xs.map f)).map PyData.list = _
    rw [Rp.pys h1]
    rfl
  · simp only [PyData.canLay0, lay_all h2]
  · have := depth_all h3 xs
    simp only [PyData.depth]
    omega
  · simp only [PyData.eqv, eqv_all h4]
theorem rp1 (r1 : Rp f n) : Rp (d1 f) (n + 1) := by
  obtain ⟨q1, a1, a2, a3, a4⟩ := r1.ex
  refine ⟨fun p => .tuple [q1 p], fun p => ?_, fun p => ?_, fun p => ?_, fun p q => ?_⟩
  · simp [d1, D.py, D.pys, a1]
  · simp [PyData.canLay0, PyData.canLayAll0, a2]
  · have := a3 p
    simp only [PyData.depth, PyData.depthAll]
    omega
  · simp [PyData.eqv, PyData.eqvAll, a4]
theorem rp2 (r1 : Rp f n) (r2 : Rp g n) : Rp (d2 f g) (n + 1) := by
  obtain ⟨q1, a1, a2, a3, a4⟩ := r1.ex
  obtain ⟨q2, b1, b2, b3, b4⟩ := r2.ex
  refine ⟨fun p => .tuple [q1 p.1, q2 p.2], fun p => ?_, fun p => ?_, fun p => ?_, fun p q => ?_⟩
  · simp [d2, D.py, D.pys, a1, b1]
  · simp [PyData.canLay0, PyData.canLayAll0, a2, b2]
  · have := a3 p.1
    have := b3 p.2
    simp only [PyData.depth, PyData.depthAll]
    omega
  · obtain ⟨p1, p2⟩ := p
    obtain ⟨p1', p2'⟩ := q
    simp [PyData.eqv, PyData.eqvAll, a4, b4]
theorem rp3 (r1 : Rp f n) (r2 : Rp g n) (r3 : Rp h n) : Rp (d3 f g h) (n + 1) := by
  obtain ⟨q1, a1, a2, a3, a4⟩ := r1.ex
  obtain ⟨q2, b1, b2, b3, b4⟩ := r2.ex
  obtain ⟨q3, c1, c2, c3, c4⟩ := r3.ex
  refine ⟨fun p => .tuple [q1 p.1, q2 p.2.1, q3 p.2.2], fun p => ?_, fun p => ?_, fun p => ?_, fun p q => ?_⟩
  · simp [d3, D.py, D.pys, a1, b1, c1]
  · simp [PyData.canLay0, PyData.canLayAll0, a2, b2, c2]
  · have := a3 p.1
    have := b3 p.2.1
    have := c3 p.2.2
    simp only [PyData.depth, PyData.depthAll]
    omega
  · obtain ⟨p1, p2, p3⟩ := p
    obtain ⟨p1', p2', p3'⟩ := q
    simp [PyData.eqv, PyData.eqvAll, a4, b4, c4]
theorem rp4 (r1 : Rp f n) (r2 : Rp g n) (r3 : Rp h n) (r4 : Rp k n) : Rp (d4 f g h k) (n + 1) := by
  obtain ⟨q1, a1, a2, a3, a4⟩ := r1.ex
  obtain ⟨q2, b1, b2, b3, b4⟩ := r2.ex
  obtain ⟨q3, c1, c2, c3, c4⟩ := r3.ex
  obtain ⟨q4, e1, e2, e3, e4⟩ := r4.ex
  refine ⟨fun p => .tuple [q1 p.1, q2 p.2.1, q3 p.2.2.1, q4 p.2.2.2], fun p => ?_, fun p => ?_, fun p => ?_, fun p q => ?_⟩
  · simp [d4, D.py, D.pys, a1, b1, c1, e1]
  · simp [PyData.canLay0, PyData.canLayAll0, a2, b2, c2, e2]
  · have := a3 p.1
    have := b3 p.2.1
    have := c3 p.2.2.1
    have := e3 p.2.2.2
    simp only [PyData.depth, PyData.depthAll]
    omega
  · obtain ⟨p1, p2, p3, p4⟩ := p
    obtain ⟨p1', p2', p3', p4'⟩ := q
    simp [PyData.eqv, PyData.eqvAll, a4, b4, c4, e4]
theorem rp5 (r1 : Rp f n) (r2 : Rp g n) (r3 : Rp h n) (r4 : Rp k n) (r5 : Rp l n) : Rp (d5 f g h k l) (n + 1) := by
  obtain ⟨q1, a1, a2, a3, a4⟩ := r1.ex
  obtain ⟨q2, b1, b2, b3, b4⟩ := r2.ex
  obtain ⟨q3, c1, c2, c3, c4⟩ := r3.ex
  obtain ⟨q4, e1, e2, e3, e4⟩ := r4.ex
  obtain ⟨q5, o1, o2, o3, o4⟩ := r5.ex
  refine ⟨fun p => .tuple [q1 p.1, q2 p.2.1, q3 p.2.2.1, q4 p.2.2.2.1, q5 p.2.2.2.2], fun p => ?_, fun p => ?_, fun p => ?_, fun p q => ?_⟩
  · simp [d5, D.py, D.pys, a1, b1, c1, e1, o1]
  · simp [PyData.canLay0, PyData.canLayAll0, a2, b2, c2, e2, o2]
  · have := a3 p.1
    have := b3 p.2.1
    have := c3 p.2.2.1
    have := e3 p.2.2.2.1
    have := o3 p.2.2.2.2
    simp only [PyData.depth, PyData.depthAll]
    omega
  · obtain ⟨p1, p2, p3, p4, p5⟩ := p
    obtain ⟨p1', p2', p3', p4', p5'⟩ := q
    simp [PyData.eqv, PyData.eqvAll, a4, b4, c4, e4, o4]
theorem rp6 {m : ζ → D} (r1 : Rp f n) (r2 : Rp g n) (r3 : Rp h n) (r4 : Rp k n) (r5 : Rp l n) (r6 : Rp m n) : Rp (d6 f g h k l m) (n + 1) := by
  obtain ⟨q1, a1, a2, a3, a4⟩ := r1.ex
  obtain ⟨q2, b1, b2, b3, b4⟩ := r2.ex
  obtain ⟨q3, c1, c2, c3, c4⟩ := r3.ex
  obtain ⟨q4, e1, e2, e3, e4⟩ := r4.ex
  obtain ⟨q5, o1, o2, o3, o4⟩ := r5.ex
  obtain ⟨q6, s1, s2, s3, s4⟩ := r6.ex
  refine ⟨fun p => .tuple [q1 p.1, q2 p.2.1, q3 p.2.2.1, q4 p.2.2.2.1, q5 p.2.2.2.2.1, q6 p.2.2.2.2.2], fun p => ?_, fun p => ?_, fun p => ?_, fun p q => ?_⟩
  · simp [d6, D.py, D.pys, a1, b1, c1, e1, o1, s1]
  · simp [PyData.canLay0, PyData.canLayAll0, a2, b2, c2, e2, o2, s2]
  · have := a3 p.1
    have := b3 p.2.1
    have := c3 p.2.2.1
    have := e3 p.2.2.2.1
    have := o3 p.2.2.2.2.1
    have := s3 p.2.2.2.2.2
    simp only [PyData.depth, PyData.depthAll]
    omega
  · obtain ⟨p1, p2, p3, p4, p5, p6⟩ := p
    obtain ⟨p1', p2', p3', p4', p5', p6'⟩ := q
    simp [PyData.eqv, PyData.eqvAll, a4, b4, c4, e4, o4, s4]
theorem shaped_of {p : PyData} (h1 : PyData.canLay0 p = true) (h2 : PyData.depth p ≤ 64) : SeqAt.shaped p = true := by
  unfold SeqAt.shaped
  rw [h1]
  simpa using h2
theorem Rp.eq (r : Rp f 60) [DecidableEq α] (x y : α) : eqD? (f x) (f y) = some (decide (x = y)) := by
  obtain ⟨q, h1, h2, h3, h4⟩ := r.ex
  unfold eqD?
  rw [h1, h1]
  show (if SeqAt.shaped (q x) && SeqAt.shaped (q y) then some (PyData.eqv (q x) (q y)) else none) = _
  have a1 := h3 x
  have a2 := h3 y
  rw [shaped_of (h2 x) (by omega), shaped_of (h2 y) (by omega)]
  have e : PyData.eqv (q x) (q y) = decide (x = y) := by
    rw [Bool.eq_iff_iff]
    simp [h4]
  rw [e]
  rfl
theorem Rp.mem (r : Rp f 60) [DecidableEq α] (x : α) (ys : List α) : inD? (f x) (dL f ys) = some (decide (x ∈ ys)) := by
  obtain ⟨q, h1, h2, h3, h4⟩ := r.ex
  have e2 : (dL f ys).py = some (.list (ys.map q)) := by
    show (D.pys (ys.map f)).map PyData.list = _
    rw [Rp.pys h1]
    rfl
  unfold inD?
  rw [h1, e2]
  show (if SeqAt.shaped (q x) && SeqAt.shaped (.list (ys.map q)) then some ((ys.map q).any fun z => PyData.eqv z (q x)) else none) = _
  have a1 := h3 x
  have a2 := depth_all h3 ys
  rw [shaped_of (h2 x) (by omega), shaped_of (p := .list (ys.map q)) (by simp only [PyData.canLay0, lay_all h2]) (by simp only [PyData.depth]; omega)]
  have e : ((ys.map q).any fun z => PyData.eqv z (q x)) = decide (x ∈ ys) := by
    rw [Bool.eq_iff_iff]
    simp [h4]
  rw [e]
  rfl
end
/-! ### order -/
structure Sr {α : Type} (f : α → D) (lt : α → α → Bool) (n : Nat) : Prop where
  ir : ∀ x, lt x x = false
  ex : ∃ g : α → PyData, (∀ x, (f x).py = some (g x)) ∧ (∀ x, PyData.depth (g x) ≤ n) ∧ (∀ x y, PySem.W.alike (g x) (g y) = true) ∧ (∀ x y, PyData.eqv (g x) (g y) = true ↔ x = y) ∧ (∀ x y, PySem.W.dataLt (g x) (g y) = lt x y) ∧
    ((∀ x, ∃ a l, f x = .nd .tup (a :: l)) ∨ ∀ x, (match f x with
      | .non => false
      | .nd .tup _ => false
      | _ => true) = true)
def srt {α : Type} (lt : α → α → Bool) (xs : List α) : List α := xs.mergeSort fun a b => !lt b a
def ltI (x y : Int) : Bool := decide (x < y)
def ltT (x y : Tx) : Bool := ltStr x.s y.s
def lt2 {α β : Type} [DecidableEq α] (l : α → α → Bool) (m : β → β → Bool) (x y : α × β) : Bool := if x.1 = y.1 then m x.2 y.2 else l x.1 y.1
theorem srI {n : Nat} : Sr dI ltI n := ⟨fun x => by simp [ltI], PyData.int, fun _ => rfl, fun _ => by simp [PyData.depth], fun _ _ => by simp [PySem.W.alike], fun x y => by simp [PyData.eqv], fun x y => PySem.W.dataLt_int x y, .inr fun _ => rfl⟩
theorem srS {n : Nat} : Sr dS ltT n := ⟨fun x => by simp [ltT, ltStr], fun t => PyData.str t.s, fun _ => rfl, fun _ => by simp [PyData.depth], fun _ _ => by simp [PySem.W.alike], fun x y => by simp [PyData.eqv, tx_eq], fun x y => PySem.W.dataLt_str x.s y.s, .inr fun _ => rfl⟩
section
variable {α β γ δ : Type} {f : α → D} {g : β → D} {h : γ → D} {k : δ → D} {l : α → α → Bool} {m : β → β → Bool} {o : γ → γ → Bool} {u : δ → δ → Bool} {n : Nat}
theorem eqv_ite {α β : Type} [DecidableEq α] {q : α → PyData} (a4 : ∀ x y, PyData.eqv (q x) (q y) = true ↔ x = y) (x y : α) (u v : β) : (if PyData.eqv (q x) (q y) = true then u else v) = if x = y then u else v := by
  by_cases c : x = y
  · rw [if_pos ((a4 x y).mpr c), if_pos c]
  · rw [if_neg (fun z => c ((a4 x y).mp z)), if_neg c]
theorem last_ite {β : Type} {q : β → PyData} {m : β → β → Bool} (ir : ∀ x, m x x = false) (a4 : ∀ x y, PyData.eqv (q x) (q y) = true ↔ x = y) (x y : β) : (if PyData.eqv (q x) (q y) = true then false else m x y) = m x y := by
  by_cases c : PyData.eqv (q x) (q y) = true
  · rw [if_pos c, (a4 x y).mp c, ir]
  · rw [if_neg c]
theorem lt_nil : PyProof.Rows.lexLt PyProof.Rows.itemOrd (PySem.W.keyToksAll []) (PySem.W.keyToksAll []) = false := by decide
theorem sr2 [DecidableEq α] (r1 : Sr f l n) (r2 : Sr g m n) : Sr (d2 f g) (lt2 l m) (n + 1) := by
  obtain ⟨q1, a1, a2, a3, a4, a5, a6⟩ := r1.ex
  obtain ⟨q2, b1, b2, b3, b4, b5, b6⟩ := r2.ex
  refine ⟨fun x => by simp [lt2, r2.ir], fun p => .tuple [q1 p.1, q2 p.2], fun p => ?_, fun p => ?_, fun p q => ?_, fun p q => ?_, fun p q => ?_, .inl fun x => ⟨_, _, rfl⟩⟩
  · simp [d2, D.py, D.pys, a1, b1]
  · have := a2 p.1
    have := b2 p.2
    simp only [PyData.depth, PyData.depthAll]
    omega
  · simp [PySem.W.alike, PySem.W.alikeAll, a3, b3]
  · obtain ⟨p1, p2⟩ := p
    obtain ⟨p1', p2'⟩ := q
    simp [PyData.eqv, PyData.eqvAll, a4, b4]
  · show PySem.W.dataLt (.tuple [q1 p.1, q2 p.2]) (.tuple [q1 q.1, q2 q.2]) = lt2 l m p q
    rw [PySem.W.dataLt_tuple, PySem.W.dataLt_cons (a3 _ _), PySem.W.dataLt_cons (b3 _ _), lt_nil, a5, b5, last_ite r2.ir b4, eqv_ite a4]
    rfl
def lt3 {α β γ : Type} [DecidableEq α] [DecidableEq β] (l : α → α → Bool) (m : β → β → Bool) (o : γ → γ → Bool) (x y : α × β × γ) : Bool := if x.1 = y.1 then (if x.2.1 = y.2.1 then o x.2.2 y.2.2 else m x.2.1 y.2.1) else l x.1 y.1
theorem sr3 [DecidableEq α] [DecidableEq β] (r1 : Sr f l n) (r2 : Sr g m n) (r3 : Sr h o n) : Sr (d3 f g h) (lt3 l m o) (n + 1) := by
  obtain ⟨q1, a1, a2, a3, a4, a5, a6⟩ := r1.ex
  obtain ⟨q2, b1, b2, b3, b4, b5, b6⟩ := r2.ex
  obtain ⟨q3, c1, c2, c3, c4, c5, c6⟩ := r3.ex
  refine ⟨fun x => by simp [lt3, r3.ir], fun p => .tuple [q1 p.1, q2 p.2.1, q3 p.2.2], fun p => ?_, fun p => ?_, fun p q => ?_, fun p q => ?_, fun p q => ?_, .inl fun x => ⟨_, _, rfl⟩⟩
  · simp [d3, D.py, D.pys, a1, b1, c1]
  · have := a2 p.1
    have := b2 p.2.1
    have := c2 p.2.2
    simp only [PyData.depth, PyData.depthAll]
    omega
  · simp [PySem.W.alike, PySem.W.alikeAll, a3, b3, c3]
  · obtain ⟨p1, p2, p3⟩ := p
    obtain ⟨p1', p2', p3'⟩ := q
    simp [PyData.eqv, PyData.eqvAll, a4, b4, c4]
  · show PySem.W.dataLt (.tuple [q1 p.1, q2 p.2.1, q3 p.2.2]) (.tuple [q1 q.1, q2 q.2.1, q3 q.2.2]) = lt3 l m o p q
    rw [PySem.W.dataLt_tuple, PySem.W.dataLt_cons (a3 _ _), PySem.W.dataLt_cons (b3 _ _), PySem.W.dataLt_cons (c3 _ _), lt_nil, a5, b5, c5, last_ite r3.ir c4, eqv_ite a4, eqv_ite b4]
    rfl
theorem Sr.can (r : Sr f l 60) (xs : List α) : canSort (xs.map f) = true := by
  obtain ⟨q, a1, a2, a3, a4, a5, a6⟩ := r.ex
  have e : ∀ x, py0 (f x) = q x := fun x => by
    unfold py0
    rw [a1]
    rfl
  unfold canSort
  simp only [List.all_map, Function.comp_def, e, a1, a3, Option.isSome_some, Bool.true_and, Bool.and_eq_true, List.all_eq_true, decide_eq_true_eq, Bool.or_eq_true]
  refine ⟨⟨fun x _ => a2 x, fun _ _ _ _ => trivial⟩, ?_⟩
  rcases a6 with a6 | a6
  · refine .inl fun x _ => ?_
    obtain ⟨a, t, ez⟩ := a6 x
    rw [ez]
  · refine .inr fun x _ => a6 x
theorem Sr.sort (r : Sr f l 60) (xs : List α) : (xs.map f).mergeSort leD = (srt l xs).map f := by
  obtain ⟨q, a1, a2, a3, a4, a5, a6⟩ := r.ex
  unfold srt
  rw [← List.map_mergeSort (r := fun a b => !l b a) (s := leD) (f := f) (l := xs)]
  intro a _ b _
  have e : ∀ x, py0 (f x) = q x := fun x => by
    unfold py0
    rw [a1]
    rfl
  have h1 : leD (f a) (f b) = !PySem.W.dataLt (py0 (f b)) (py0 (f a)) := rfl
  rw [h1, e, e, a5]
end
end Sh
end Vx
end

section
set_option maxHeartbeats 4000000
/-! Sh 3: rules of lists, texts, tuples, calls, comprehensions. -/
namespace Vx
open PySem L2
namespace Sh
section
variable {Γ : Den} {r r1 r2 r3 r4 : Env} {w u wa wb : W} {d : D} {α β γ σ : Type} {f : α → D} {g : β → D} {a b c : O} {ra rb rc : Option Nat} {x y : α} {xs ys : List α} {i j : Int}
theorem small_of {n : Nat} (h : n ≤ 100000) : small n = true := decide_eq_true h
theorem X.eqD [DecidableEq α] (rp : Rp f 60) (ha : OV Γ a r ra wa r1) (hb : OV Γ b r1 rb wb r2) (hk : Keep ra r1 r2) (h1 : wa.dat = f x) (h2 : wb.dat = f y) : X Γ (.op .eqD [a, b]) r (wB (decide (x = y))) r2 := by
  refine X.op2 (w := wB (decide (x = y))) ha hb hk ?_
  show ((eqD? wa.dat wb.dat).bind fun b => pB b) = _
  rw [h1, h2, rp.eq]
  rfl
theorem X.neD [DecidableEq α] (rp : Rp f 60) (ha : OV Γ a r ra wa r1) (hb : OV Γ b r1 rb wb r2) (hk : Keep ra r1 r2) (h1 : wa.dat = f x) (h2 : wb.dat = f y) : X Γ (.op .neD [a, b]) r (wB (decide (x ≠ y))) r2 := by
  refine X.op2 (w := wB (decide (x ≠ y))) ha hb hk ?_
  show ((eqD? wa.dat wb.dat).bind fun b => pB (!b)) = _
  rw [h1, h2, rp.eq]
  show some (W.fl (.bl (!decide (x = y)))) = some (W.fl (.bl (decide (x ≠ y))))
  simp
theorem X.inD [DecidableEq α] (rp : Rp f 60) (ha : OV Γ a r ra wa r1) (hb : OV Γ b r1 rb wb r2) (hk : Keep ra r1 r2) (h1 : wa.dat = f x) (h2 : IsL f xs wb) : X Γ (.op .inD [a, b]) r (wB (decide (x ∈ xs))) r2 := by
  refine X.op2 (w := wB (decide (x ∈ xs))) ha hb hk ?_
  show ((inD? wa.dat wb.dat).bind fun b => pB b) = _
  rw [h1, h2.dat, rp.mem]
  rfl
theorem X.niD [DecidableEq α] (rp : Rp f 60) (ha : OV Γ a r ra wa r1) (hb : OV Γ b r1 rb wb r2) (hk : Keep ra r1 r2) (h1 : wa.dat = f x) (h2 : IsL f xs wb) : X Γ (.op .niD [a, b]) r (wB (decide (x ∉ xs))) r2 := by
  refine X.op2 (w := wB (decide (x ∉ xs))) ha hb hk ?_
  show ((inD? wa.dat wb.dat).bind fun b => pB (!b)) = _
  rw [h1, h2.dat, rp.mem]
  show some (W.fl (.bl (!decide (x ∈ xs)))) = some (W.fl (.bl (decide (x ∉ xs))))
  simp
/-- membership of scalars -/
structure Sc {α : Type} (f : α → D) : Prop where
  fl : ∀ x, (f x).flat = true ∧ flatV (f x).v = true ∧ (W.fl (f x)).flat? = some (f x)
  eq : ∀ x y, eqV (f x).v (f y).v = true ↔ x = y
theorem scI : Sc dI := ⟨fun x => ⟨rfl, rfl, rfl⟩, fun x y => by simp [dI, D.v, eqV]⟩
theorem scS : Sc dS := ⟨fun x => ⟨rfl, rfl, rfl⟩, fun x y => by simp [dS, D.v, eqV, tx_eq]⟩
theorem Sc.mem (s : Sc f) [DecidableEq α] (x : α) {xs : List α} {w : W} (h : w.seqD = some (xs.map f)) : inQ? (f x) w = some (decide (x ∈ xs)) := by
  unfold inQ?
  rw [h]
  have e : (xs.map f).all (fun d => d.flat && flatV d.v) = true := by
    simp [(s.fl _).1, (s.fl _).2.1]
  show (if flatV (f x).v && (f x).flat && (xs.map f).all (fun d => d.flat && flatV d.v) then some (inV (f x).v ((xs.map f).map D.v)) else none) = _
  rw [e, (s.fl x).1, (s.fl x).2.1]
  have e2 : inV (f x).v ((xs.map f).map D.v) = decide (x ∈ xs) := by
    rw [Bool.eq_iff_iff]
    unfold inV
    simp [s.eq]
  rw [e2]
  rfl
theorem X.inQ [DecidableEq α] (s : Sc f) (ha : OV Γ a r ra (fz f x) r1) (hb : OV Γ b r1 rb wb r2) (hk : Keep ra r1 r2) (h2 : IsL f xs wb) : X Γ (.op .inQ [a, b]) r (wB (decide (x ∈ xs))) r2 := by
  refine X.op2 (w := wB (decide (x ∈ xs))) ha hb hk ?_
  show ((W.fl (f x)).flat?.bind fun d => (inQ? d wb).bind fun b => pB b) = _
  rw [(s.fl x).2.2]
  show ((inQ? (f x) wb).bind fun b => pB b) = _
  rw [s.mem x h2.seqD]
  rfl
theorem X.niQ [DecidableEq α] (s : Sc f) (ha : OV Γ a r ra (fz f x) r1) (hb : OV Γ b r1 rb wb r2) (hk : Keep ra r1 r2) (h2 : IsL f xs wb) : X Γ (.op .niQ [a, b]) r (wB (decide (x ∉ xs))) r2 := by
  refine X.op2 (w := wB (decide (x ∉ xs))) ha hb hk ?_
  show ((W.fl (f x)).flat?.bind fun d => (inQ? d wb).bind fun b => pB (!b)) = _
  rw [(s.fl x).2.2]
  show ((inQ? (f x) wb).bind fun b => pB (!b)) = _
  rw [s.mem x h2.seqD]
  show some (W.fl (.bl (!decide (x ∈ xs)))) = some (W.fl (.bl (decide (x ∉ xs))))
  simp
/-! lists -/
theorem X.lenL (ha : OV Γ a r ra wa r1) (h : IsL f xs wa) : X Γ (.op .len [a]) r (wI xs.length) r1 := by
  refine X.op1 (w := wI xs.length) ha ?_
  show (wa.lenD.bind fun n => pI n) = _
  rw [h.lenD]
  rfl
theorem X.lenW {n : Int} (ha : OV Γ a r ra wa r1) (h : wa.lenD = some n) : X Γ (.op .len [a]) r (wI n) r1 := by
  refine X.op1 (w := wI n) ha ?_
  show (wa.lenD.bind fun n => pI n) = _
  rw [h]
  rfl
theorem X.lenS {t : Tx} (ha : OV Γ a r ra (fz dS t) r1) : X Γ (.op .len [a]) r (wI t.s.length) r1 := by
  refine X.lenW ha ?_
  show (if t.s.length ≤ 100000 then some (t.s.length : Int) else none) = _
  rw [if_pos t.len]
theorem X.truL (ha : OV Γ a r ra wa r1) (h : IsL f xs wa) : X Γ (.tru a) r (wB (!xs.isEmpty)) r1 := by
  obtain ⟨v, a1, a2⟩ := ha
  have : X Γ (.tru a) r (wB (!xs.isEmpty)) r1 = ((O.sem Γ a r).bind (fun (v, r1) => Res.of (((v.val r1).bind W.truth).map fun b => (W.fl (.bl b), r1))) = .ok (wB (!xs.isEmpty), r1)) := rfl
  rw [this, a1]
  show Res.of (((v.val r1).bind W.truth).map fun b => (W.fl (.bl b), r1)) = _
  rw [a2 r1 keep_rfl]
  show Res.of (wa.truth.map fun b => (W.fl (.bl b), r1)) = _
  rw [h.truth]
  rfl
theorem X.truW {q : Bool} (ha : OV Γ a r ra wa r1) (h : wa.truth = some q) : X Γ (.tru a) r (wB q) r1 := by
  obtain ⟨v, a1, a2⟩ := ha
  have : X Γ (.tru a) r (wB q) r1 = ((O.sem Γ a r).bind (fun (v, r1) => Res.of (((v.val r1).bind W.truth).map fun b => (W.fl (.bl b), r1))) = .ok (wB q, r1)) := rfl
  rw [this, a1]
  show Res.of (((v.val r1).bind W.truth).map fun b => (W.fl (.bl b), r1)) = _
  rw [a2 r1 keep_rfl]
  show Res.of (wa.truth.map fun b => (W.fl (.bl b), r1)) = _
  rw [h]
  rfl
theorem X.listOf (ha : OV Γ a r ra wa r1) (h : IsL f xs wa) : X Γ (.op .listOf [a]) r (oL f xs) r1 := by
  rw [oL_new]
  refine X.op1 (w := newL (xs.map f)) ha ?_
  show (wa.seqD.bind fun ds => some (newL ds)) = _
  rw [h.seqD]
  rfl
theorem dInts_map : ∀ ns : List Int, dInts (ns.map dI) = some ns
  | [] => rfl
  | n :: ns => by
    show (dInts (ns.map dI)).map (n :: ·) = _
    rw [dInts_map ns]
    rfl
theorem dBls_map : ∀ ns : List Bool, dBls (ns.map dB) = some ns
  | [] => rfl
  | n :: ns => by
    show (dBls (ns.map dB)).map (n :: ·) = _
    rw [dBls_map ns]
    rfl
theorem X.sum {ns : List Int} (ha : OV Γ a r ra wa r1) (h : IsL dI ns wa) : X Γ (.op .sum [a]) r (wI ns.sum) r1 := by
  refine X.op1 (w := wI ns.sum) ha ?_
  show ((wa.lstD.bind dInts).bind fun ns => pI ns.sum) = _
  rw [h.lstD]
  show ((dInts (ns.map dI)).bind fun ns => pI ns.sum) = _
  rw [dInts_map]
  rfl
theorem X.min1 {ns : List Int} {n : Int} (ha : OV Γ a r ra wa r1) (h : IsL dI ns wa) (e : leastI ns = some n) : X Γ (.op .min1 [a]) r (wI n) r1 := by
  refine X.op1 (w := wI n) ha ?_
  show (((wa.lstD.bind dInts).bind leastI).bind fun n => pI n) = _
  rw [h.lstD]
  show (((dInts (ns.map dI)).bind leastI).bind fun n => pI n) = _
  rw [dInts_map]
  show ((leastI ns).bind fun n => pI n) = _
  rw [e]
  rfl
theorem X.max1 {ns : List Int} {n : Int} (ha : OV Γ a r ra wa r1) (h : IsL dI ns wa) (e : mostI ns = some n) : X Γ (.op .max1 [a]) r (wI n) r1 := by
  refine X.op1 (w := wI n) ha ?_
  show (((wa.lstD.bind dInts).bind mostI).bind fun n => pI n) = _
  rw [h.lstD]
  show (((dInts (ns.map dI)).bind mostI).bind fun n => pI n) = _
  rw [dInts_map]
  show ((mostI ns).bind fun n => pI n) = _
  rw [e]
  rfl
theorem X.allB {ns : List Bool} (ha : OV Γ a r ra wa r1) (h : IsL dB ns wa) : X Γ (.op .allB [a]) r (wB (ns.all id)) r1 := by
  refine X.op1 (w := wB (ns.all id)) ha ?_
  show ((wa.lstD.bind dBls).bind fun bs => pB (bs.all id)) = _
  rw [h.lstD]
  show ((dBls (ns.map dB)).bind fun bs => pB (bs.all id)) = _
  rw [dBls_map]
  rfl
theorem X.anyB {ns : List Bool} (ha : OV Γ a r ra wa r1) (h : IsL dB ns wa) : X Γ (.op .anyB [a]) r (wB (ns.any id)) r1 := by
  refine X.op1 (w := wB (ns.any id)) ha ?_
  show ((wa.lstD.bind dBls).bind fun bs => pB (bs.any id)) = _
  rw [h.lstD]
  show ((dBls (ns.map dB)).bind fun bs => pB (bs.any id)) = _
  rw [dBls_map]
  rfl
theorem X.catL {zs : List α} (ha : OV Γ a r ra wa r1) (hb : OV Γ b r1 rb wb r2) (hk : Keep ra r1 r2) (h1 : IsL f xs wa) (h2 : IsL f ys wb) (e : catO xs ys = some zs) : X Γ (.op .catL [a, b]) r (oL f zs) r2 := by
  unfold catO at e
  split at e
  · rename_i hl
    rw [oL_new, ← Option.some.inj e]
    refine X.op2 (w := newL ((xs ++ ys).map f)) ha hb hk ?_
    show (wa.lstD.bind fun a => wb.lstD.bind fun b => if small (a.length + b.length) then some (newL (a ++ b)) else none) = _
    rw [h1.lstD, h2.lstD]
    show (if small ((xs.map f).length + (ys.map f).length) then some (newL (xs.map f ++ ys.map f)) else none) = _
    rw [List.length_map, List.length_map, small_of hl, List.map_append]
    rfl
  · cases e
theorem map_unfl' : ∀ ds : List D, (ds.map W.fl).map W.unfl = ds
  | [] => rfl
  | d :: ds => by
    rw [List.map_cons, List.map_cons, map_unfl' ds]
    rfl
theorem X.catT {ds es : List D} (ha : OV Γ a r ra (.fl (.nd .tup ds)) r1) (hb : OV Γ b r1 rb (.fl (.nd .tup es)) r2) (hk : Keep ra r1 r2) (h : (small (ds.length + es.length) && !ds.isEmpty && !es.isEmpty) = true) (hw : W.fl (.nd .tup (ds ++ es)) = w) : X Γ (.op .catT [a, b]) r w r2 := by
  subst hw
  have e := X.op2 (o := .catT) (w := newT (ds ++ es)) ha hb hk (by
    show (if small (ds.length + es.length) && !ds.isEmpty && !es.isEmpty then some (newT (ds ++ es)) else none) = _
    rw [h]
    rfl)
  have e2 : (newT (ds ++ es)).fzT = .fl (.nd .tup (ds ++ es)) := by
    show W.fl (.nd .tup (((ds ++ es).map W.fl).map W.unfl)) = _
    rw [map_unfl']
  rw [e2] at e
  exact e
theorem cutD_map (f : α → D) (xs : List α) (lo hi : Option Int) : cutD (xs.map f) lo hi = (cutL xs lo hi).map f := by
  unfold cutD cutL
  rw [List.length_map, List.map_take, List.map_drop]
theorem IsL.slice (h : IsL f xs w) (lo hi : Option Int) : slice? w lo hi = some (oL f (cutL xs lo hi)) := by
  rw [oL_new, ← cutD_map]
  rcases h with h | h <;> rw [h]
  · rfl
  · obtain ⟨a1, a2⟩ := map_fl (xs.map f)
    rw [oL_new]
    have e : (newL (xs.map f)).shal = some (.lst, xs.map f) := by
      show (if ((xs.map f).map W.fl).all W.isFl then some (Kd.lst, ((xs.map f).map W.fl).map W.unfl) else none) = _
      rw [a1, a2]
      rfl
    show (match (newL (xs.map f)).shal with
      | some (.lst, ds) => some (newL (cutD ds lo hi))
      | some (.tup, ds) => if ((HT.sIx ds.length 0 lo : Nat) = 0 ∧ HT.sIx ds.length ds.length hi = ds.length) then none else some (newT (cutD ds lo hi))
      | _ => none) = _
    rw [e]
theorem fzT_oL (f : α → D) (xs : List α) : (oL f xs).fzT = oL f xs := rfl
theorem X.slLo (ha : OV Γ a r ra wa r1) (hb : OV Γ b r1 rb (wI i) r2) (hk : Keep ra r1 r2) (h : IsL f xs wa) : X Γ (.op (.slice true false) [a, b]) r (oL f (cutL xs (some i) none)) r2 := by
  refine X.op2 (w := oL f (cutL xs (some i) none)) ha hb hk ?_
  show slice? wa (some i) none = _
  rw [h.slice]
theorem X.slHi (ha : OV Γ a r ra wa r1) (hb : OV Γ b r1 rb (wI i) r2) (hk : Keep ra r1 r2) (h : IsL f xs wa) : X Γ (.op (.slice false true) [a, b]) r (oL f (cutL xs none (some i))) r2 := by
  refine X.op2 (w := oL f (cutL xs none (some i))) ha hb hk ?_
  show slice? wa none (some i) = _
  rw [h.slice]
/-- slices with their results by computation -/
theorem X.slW (rop : Rop) (ha : OV Γ a r ra wa r1) (hb : OV Γ b r1 rb (wI i) r2) (hk : Keep ra r1 r2) (h : rop.run [wa, wI i] = some u) (hw : u.fzT = w) : X Γ (.op rop [a, b]) r w r2 := by
  subst hw
  exact X.op2 ha hb hk h
theorem X.sl3 {o : O} {e1 e2 : E} {ro : Option Nat} {w2 : W} (ho : OV Γ o r ro wa r1) (h1 : X Γ e1 r1 (wI i) r2) (h2 : X Γ e2 r2 (wI j) r3) (hk : Keep ro r1 r3) (h : slice? wa (some i) (some j) = some w2) (hw : w2.fzT = w) : X Γ (.sl3 o e1 e2) r w r3 := by
  subst hw
  obtain ⟨v, a1, a2⟩ := ho
  have e : X Γ (.sl3 o e1 e2) r w2.fzT r3 = ((O.sem Γ o r).bind (fun (v, r1) => (e1.sem Γ r1).bind fun (i, r2) => match i with
    | .fl (.int i) => (e2.sem Γ r2).bind fun (j, r3) => match j with
      | .fl (.int j) => Res.of (((v.val r3).bind fun w => slice? w (some i) (some j)).map fun w => (w.fzT, r3))
      | _ => .bad
    | _ => .bad) = .ok (w2.fzT, r3)) := rfl
  rw [e, a1]
  show ((e1.sem Γ r1).bind _) = _
  rw [h1]
  show ((e2.sem Γ r2).bind _) = _
  rw [h2]
  show Res.of (((v.val r3).bind fun w => slice? w (some i) (some j)).map fun w => (w.fzT, r3)) = _
  rw [a2 r3 hk]
  show Res.of ((slice? wa (some i) (some j)).map fun w => (w.fzT, r3)) = _
  rw [h]
  rfl
theorem X.sl3L {o : O} {e1 e2 : E} {ro : Option Nat} (ho : OV Γ o r ro wa r1) (h1 : X Γ e1 r1 (wI i) r2) (h2 : X Γ e2 r2 (wI j) r3) (hk : Keep ro r1 r3) (h : IsL f xs wa) : X Γ (.sl3 o e1 e2) r (oL f (cutL xs (some i) (some j))) r3 := X.sl3 ho h1 h2 hk (h.slice _ _) rfl
theorem X.sorted {lt : α → α → Bool} (s : Sr f lt 60) (ha : OV Γ a r ra wa r1) (h : IsL f xs wa) : X Γ (.op .sorted [a]) r (oL f (srt lt xs)) r1 := by
  rw [oL_new]
  refine X.op1 (w := newL ((srt lt xs).map f)) ha ?_
  show (wa.lstD.bind fun ds => if canSort ds then some (newL (ds.mergeSort leD)) else none) = _
  rw [h.lstD]
  show (if canSort (xs.map f) then some (newL ((xs.map f).mergeSort leD)) else none) = _
  rw [s.can, s.sort]
  rfl
/-- by a key -/
def srtK {α : Type} (k : α → Int) (xs : List α) : List α := sortBy (xs.map k) xs
theorem sortBy_map (f : α → D) (ns : List Int) (xs : List α) : sortBy ns (xs.map f) = (sortBy ns xs).map f := by
  unfold sortBy
  have e : ns.zip (xs.map f) = (ns.zip xs).map fun p => (p.1, f p.2) := by
    rw [← List.map_id ns, List.zip_map]
    simp
  rw [e]
  have e2 : ((ns.zip xs).map fun p => (p.1, f p.2)).mergeSort (fun p q => decide (p.1 ≤ q.1)) = ((ns.zip xs).mergeSort fun p q => decide (p.1 ≤ q.1)).map fun p => (p.1, f p.2) := by
    rw [← List.map_mergeSort (r := fun p q : Int × α => decide (p.1 ≤ q.1))]
    intro a _ b _
    rfl
  rw [e2, List.map_map, List.map_map]
  rfl
theorem X.sortK {fn : Nat} {k : α → Int} {o : O} {ro : Option Nat} (ho : OV Γ o r ro wa r1) (h : IsL f xs wa) (hk : ∀ x, Γ fn [fz f x] = .ok (wI (k x)) []) : X Γ (.srtK fn o) r (oL f (srtK k xs)) r1 := by
  obtain ⟨v, a1, a2⟩ := ho
  have e : X Γ (.srtK fn o) r (oL f (srtK k xs)) r1 = ((O.sem Γ o r).bind (fun (v, r1) => Res.of (((v.val r1).bind W.lstD).bind fun ds => (ds.mapM (keyOf Γ fn)).map fun ks => (newL (sortBy ks ds), r1))) = .ok (oL f (srtK k xs), r1)) := rfl
  rw [e, a1]
  show Res.of (((v.val r1).bind W.lstD).bind fun ds => (ds.mapM (keyOf Γ fn)).map fun ks => (newL (sortBy ks ds), r1)) = _
  rw [a2 r1 keep_rfl]
  show Res.of (wa.lstD.bind fun ds => (ds.mapM (keyOf Γ fn)).map fun ks => (newL (sortBy ks ds), r1)) = _
  rw [h.lstD]
  have ek : (xs.map f).mapM (keyOf Γ fn) = some (xs.map k) := by
    clear h a1 a2 e
    induction xs with
    | nil => rfl
    | cons x xs ih =>
      have e1 : keyOf Γ fn (f x) = some (k x) := by
        unfold keyOf
        rw [hk x]
      rw [List.map_cons, List.mapM_cons, e1, ih]
      rfl
  show Res.of (((xs.map f).mapM (keyOf Γ fn)).map fun ks => (newL (sortBy ks (xs.map f)), r1)) = _
  rw [ek]
  show Res.ok (newL (sortBy (xs.map k) (xs.map f)), r1) = _
  rw [oL_new, sortBy_map]
  rfl
/-! kinds -/
theorem X.isI {t : String} {q : Bool} (ha : OV Γ a r ra wa r1) (h : isOf t wa.dat = some q) : X Γ (.op (.isI t) [a]) r (wB q) r1 := by
  refine X.op1 (w := wB q) ha ?_
  show ((isOf t wa.dat).bind fun b => pB b) = _
  rw [h]
  rfl
theorem isOf_lst (ds : List D) : isOf "list" (.nd .lst ds) = some true := by simp [isOf]
theorem isOf_tup (ds : List D) : isOf "tuple" (.nd .tup ds) = some true := by simp [isOf]
theorem isOf_II (i : Int) : isOf "int" (.int i) = some true := by simp [isOf]
theorem isOf_IB (i : Int) : isOf "bool" (.int i) = some false := by simp [isOf]
theorem isOf_BB (i : Bool) : isOf "bool" (.bl i) = some true := by simp [isOf]
theorem isOf_SS (i : Str) : isOf "str" (.str i) = some true := by simp [isOf]
theorem isOf_SI (i : Str) : isOf "int" (.str i) = some false := by simp [isOf]
theorem isOf_IS (i : Int) : isOf "str" (.int i) = some false := by simp [isOf]
theorem isOf_SB (i : Str) : isOf "bool" (.str i) = some false := by simp [isOf]
theorem isOf_OI (o : Option Int) : isOf "int" (dO o) = some o.isSome := by cases o <;> simp [isOf, dO]
theorem isOf_OB (o : Option Int) : isOf "bool" (dO o) = some false := by cases o <;> simp [isOf, dO]
theorem X.isNO {o : Option Int} (ha : OV Γ a r ra (fz dO o) r1) (hb : OV Γ b r1 rb wN r2) (hk : Keep ra r1 r2) : X Γ (.op .isN [a, b]) r (wB o.isNone) r2 := by
  refine X.op2 (w := wB o.isNone) ha hb hk ?_
  cases o <;> rfl
theorem X.notNO {o : Option Int} (ha : OV Γ a r ra (fz dO o) r1) (hb : OV Γ b r1 rb wN r2) (hk : Keep ra r1 r2) : X Γ (.op .notN [a, b]) r (wB o.isSome) r2 := by
  refine X.op2 (w := wB o.isSome) ha hb hk ?_
  cases o <;> rfl
theorem X.isB {p q : Bool} (ha : OV Γ a r ra (wB p) r1) (hb : OV Γ b r1 rb (wB q) r2) (hk : Keep ra r1 r2) : X Γ (.op .isB [a, b]) r (wB (decide (p = q))) r2 := X.op2 (w := wB (decide (p = q))) ha hb hk rfl
theorem X.notB {p q : Bool} (ha : OV Γ a r ra (wB p) r1) (hb : OV Γ b r1 rb (wB q) r2) (hk : Keep ra r1 r2) : X Γ (.op .notB [a, b]) r (wB (!decide (p = q))) r2 := X.op2 (w := wB (!decide (p = q))) ha hb hk rfl
/-! texts -/
theorem strOk_sub {s : Str} (h : PyData.strOk s = true) {l : List Nat} (hs : ∀ c ∈ l, c ∈ s.cps.toList) : PyData.strOk ⟨l.toArray⟩ = true := by
  unfold PyData.strOk at *
  rw [Array.all_eq_true'] at *
  intro c hc
  have : c ∈ l := by simpa using hc
  exact h c (by simpa using hs c this)
def Tx.cut (t : Tx) (lo hi : Option Int) : Tx where
  s := cutS t.s lo hi
  ok := strOk_sub t.ok fun c hc => List.mem_of_mem_drop (List.mem_of_mem_take hc)
  len := by
    have := t.len
    unfold cutS Str.length at *
    simp only [List.size_toArray, List.length_take, List.length_drop, Array.length_toList]
    omega
theorem slice_S (t : Tx) (lo hi : Option Int) : slice? (fz dS t) lo hi = some (fz dS (t.cut lo hi)) := by
  show (if t.s.length ≤ 100000 then some (W.fl (.str (cutS t.s lo hi))) else none) = _
  rw [if_pos t.len]
  rfl
theorem X.slHiS {t : Tx} (ha : OV Γ a r ra (fz dS t) r1) (hb : OV Γ b r1 rb (wI i) r2) (hk : Keep ra r1 r2) : X Γ (.op (.slice false true) [a, b]) r (fz dS (t.cut none (some i))) r2 := X.op2 (w := fz dS (t.cut none (some i))) ha hb hk (slice_S t none (some i))
theorem X.slLoS {t : Tx} (ha : OV Γ a r ra (fz dS t) r1) (hb : OV Γ b r1 rb (wI i) r2) (hk : Keep ra r1 r2) : X Γ (.op (.slice true false) [a, b]) r (fz dS (t.cut (some i) none)) r2 := X.op2 (w := fz dS (t.cut (some i) none)) ha hb hk (slice_S t (some i) none)
def chT (c : Nat) : Option Tx := if h : c < 0x110000 then some ⟨⟨#[c]⟩, by simp [PyData.strOk, h], by simp [Str.length]⟩ else none
def ixT (t : Tx) (i : Int) : Option Tx := (atI t.s.cps.toList i).bind chT
theorem chT_s {c : Nat} {t : Tx} (h : chT c = some t) : t.s = ⟨#[c]⟩ := by
  unfold chT at h
  split at h
  · rw [← Option.some.inj h]
  · cases h
theorem X.ixS {t z : Tx} (ha : OV Γ a r ra (fz dS t) r1) (hb : OV Γ b r1 rb (wI i) r2) (hk : Keep ra r1 r2) (h : ixT t i = some z) : X Γ (.op .ixS [a, b]) r (fz dS z) r2 := by
  refine X.op2 (w := fz dS z) ha hb hk ?_
  obtain ⟨c, h1, h2⟩ := Option.bind_eq_some_iff.mp h
  show (if t.s.length ≤ 100000 then (atI t.s.cps.toList i).bind fun c => some (W.fl (.str ⟨#[c]⟩)) else none) = _
  rw [if_pos t.len, h1]
  show some (W.fl (.str ⟨#[c]⟩)) = some (W.fl (.str z.s))
  rw [chT_s h2]
def mkTx (s : Str) : Option Tx := if h : PyData.strOk s = true ∧ s.length ≤ 100000 then some ⟨s, h.1, h.2⟩ else none
theorem mkTx_s {s : Str} {t : Tx} (h : mkTx s = some t) : t.s = s := by
  unfold mkTx at h
  split at h
  · rw [← Option.some.inj h]
  · cases h
def addT (a b : Tx) : Option Tx := if a.s.length + b.s.length ≤ 100000 then mkTx (a.s ++ b.s) else none
theorem X.addS {s t z : Tx} (ha : OV Γ a r ra (fz dS s) r1) (hb : OV Γ b r1 rb (fz dS t) r2) (hk : Keep ra r1 r2) (h : addT s t = some z) : X Γ (.op .addS [a, b]) r (fz dS z) r2 := by
  refine X.op2 (w := fz dS z) ha hb hk ?_
  unfold addT at h
  split at h
  · rename_i hl
    show (if small (s.s.length + t.s.length) then some (W.fl (.str (s.s ++ t.s))) else none) = _
    rw [small_of hl, ← mkTx_s h]
    rfl
  · cases h
def joinT (z : Str) (ts : List Tx) : Option Tx := if (ts.map fun t => t.s.length).sum + ts.length * z.length ≤ 16777216 then mkTx (Txt.join z (ts.map Tx.s)) else none
theorem dStrs_map : ∀ ns : List Tx, dStrs (ns.map dS) = some (ns.map Tx.s)
  | [] => rfl
  | n :: ns => by
    show (dStrs (ns.map dS)).map (n.s :: ·) = _
    rw [dStrs_map ns]
    rfl
theorem X.join {z : Str} {ts : List Tx} {t : Tx} (ha : OV Γ a r ra wa r1) (h : IsL dS ts wa) (e : joinT z ts = some t) : X Γ (.op (.join z) [a]) r (fz dS t) r1 := by
  refine X.op1 (w := fz dS t) ha ?_
  show ((wa.lstD.bind dStrs).bind fun ys => if (ys.map (·.length)).sum + ys.length * z.length ≤ 16777216 then some (W.fl (.str (Txt.join z ys))) else none) = _
  rw [h.lstD]
  show ((dStrs (ts.map dS)).bind fun ys => if (ys.map (·.length)).sum + ys.length * z.length ≤ 16777216 then some (W.fl (.str (Txt.join z ys))) else none) = _
  rw [dStrs_map]
  unfold joinT at e
  split at e
  · rename_i hl
    show (if ((ts.map Tx.s).map (·.length)).sum + (ts.map Tx.s).length * z.length ≤ 16777216 then some (W.fl (.str (Txt.join z (ts.map Tx.s)))) else none) = _
    rw [List.map_map, List.length_map]
    have e2 : (ts.map (Str.length ∘ Tx.s)) = ts.map fun t => t.s.length := rfl
    rw [show (List.map ((fun x => x.length) ∘ Tx.s) ts) = ts.map fun t => t.s.length from rfl, if_pos hl, ← mkTx_s e]
  · cases e
theorem X.ltS {s t : Tx} (ha : OV Γ a r ra (fz dS s) r1) (hb : OV Γ b r1 rb (fz dS t) r2) (hk : Keep ra r1 r2) : X Γ (.op .ltS [a, b]) r (wB (ltT s t)) r2 := X.op2 (w := wB (ltT s t)) ha hb hk rfl
theorem X.leS {s t : Tx} (ha : OV Γ a r ra (fz dS s) r1) (hb : OV Γ b r1 rb (fz dS t) r2) (hk : Keep ra r1 r2) : X Γ (.op .leS [a, b]) r (wB (!ltT t s)) r2 := X.op2 (w := wB (!ltT t s)) ha hb hk rfl
theorem X.gtS {s t : Tx} (ha : OV Γ a r ra (fz dS s) r1) (hb : OV Γ b r1 rb (fz dS t) r2) (hk : Keep ra r1 r2) : X Γ (.op .gtS [a, b]) r (wB (ltT t s)) r2 := X.op2 (w := wB (ltT t s)) ha hb hk rfl
/-! displays -/
theorem XE.nil : XE Γ [] r [] r := rfl
theorem XE.cons {e : E} {es : List E} {ws : List W} (h1 : X Γ e r w r1) (h2 : XE Γ es r1 ws r2) : XE Γ (e :: es) r (w :: ws) r2 := by
  show E.sems Γ (e :: es) r = _
  rw [evs_cons, h1]
  show (E.sems Γ es r1).bind _ = _
  have h2' : E.sems Γ es r1 = .ok (ws, r2) := h2
  rw [h2']
  rfl
theorem X.lst {es : List E} {ws : List W} (h : XE Γ es r ws r1) (hs : small ws.length = true) : X Γ (.lst es) r (.nd .lst ws) r1 := by
  have h' : E.sems Γ es r = .ok (ws, r1) := h
  rw [X, ev_lst, h']
  show (if small ws.length then _ else _) = _
  rw [hs]
  rfl
theorem X.tup {es : List E} {ws : List W} (h : XE Γ es r ws r1) (hs : small ws.length = true) (hw : mkT ws = w) : X Γ (.tup es) r w r1 := by
  subst hw
  have h' : E.sems Γ es r = .ok (ws, r1) := h
  rw [X, ev_tup, h']
  show (if small ws.length then _ else _) = _
  rw [hs]
  rfl
/-- a list written and read at once -/
theorem X.ixT {e1 e2 : E} (h1 : X Γ e1 r wa r1) (h2 : X Γ e2 r1 (wI i) r2) (hl : IsL f xs wa) (hx : atI xs i = some x) : X Γ (.ixT e1 e2) r (fz f x) r2 := by
  obtain ⟨n, a1, a2⟩ := hl.at hx
  rw [X, ev_ixT, h1]
  show (E.sem Γ e2 r1).bind _ = _
  rw [h2]
  show Res.of ((kids1 wa (wI i)).map fun w => (w, r2)) = _
  unfold kids1
  rw [a1]
  show Res.of ((wa.get [n]).map fun w => (w, r2)) = _
  rw [a2]
  rfl
/-! tests -/
theorem X.not {e : E} {p : Bool} (h : X Γ e r (wB p) r1) : X Γ (.not e) r (wB (!p)) r1 := by
  rw [X, ev_not, h]
  rfl
theorem X.andP {e1 e2 : E} {p q : Bool} (h1 : X Γ e1 r (wB p) r1) (h2 : X Γ e2 r1 (wB q) r1) : X Γ (.and e1 e2) r (wB (p && q)) r1 := by
  rw [X, ev_and, h1]
  show (if p then E.sem Γ e2 r1 else .ok (.fl (.bl false), r1)) = _
  cases p with
  | true => exact h2
  | false => rfl
theorem X.orP {e1 e2 : E} {p q : Bool} (h1 : X Γ e1 r (wB p) r1) (h2 : X Γ e2 r1 (wB q) r1) : X Γ (.or e1 e2) r (wB (p || q)) r1 := by
  rw [X, ev_or, h1]
  show (if p then .ok (.fl (.bl true), r1) else E.sem Γ e2 r1) = _
  cases p with
  | true => rfl
  | false => exact h2
theorem X.andT {e1 e2 : E} {p : Bool} (h1 : X Γ e1 r (wB p) r1) (hp : p = true) (h2 : X Γ e2 r1 w r2) : X Γ (.and e1 e2) r w r2 := by
  subst hp
  rw [X, ev_and, h1]
  exact h2
theorem X.andF {e1 e2 : E} {p : Bool} (h1 : X Γ e1 r (wB p) r1) (hp : p = false) : X Γ (.and e1 e2) r (wB false) r1 := by
  subst hp
  rw [X, ev_and, h1]
  rfl
theorem X.orT {e1 e2 : E} {p : Bool} (h1 : X Γ e1 r (wB p) r1) (hp : p = true) : X Γ (.or e1 e2) r (wB true) r1 := by
  subst hp
  rw [X, ev_or, h1]
  rfl
theorem X.orF {e1 e2 : E} {p : Bool} (h1 : X Γ e1 r (wB p) r1) (hp : p = false) (h2 : X Γ e2 r1 w r2) : X Γ (.or e1 e2) r w r2 := by
  subst hp
  rw [X, ev_or, h1]
  exact h2
theorem X.iteT {c e1 e2 : E} {p : Bool} (h1 : X Γ c r (wB p) r1) (hp : p = true) (h2 : X Γ e1 r1 w r2) : X Γ (.ite c e1 e2) r w r2 := by
  subst hp
  rw [X, ev_ite, h1]
  exact h2
theorem X.iteF {c e1 e2 : E} {p : Bool} (h1 : X Γ c r (wB p) r1) (hp : p = false) (h2 : X Γ e2 r1 w r2) : X Γ (.ite c e1 e2) r w r2 := by
  subst hp
  rw [X, ev_ite, h1]
  exact h2
theorem X.chn {o p : Rop} {e1 e2 e3 : E} {k : Int} {b1 b2 : Bool} (h1 : X Γ e1 r (wI i) r1) (h2 : X Γ e2 r1 (wI j) r2) (h3 : X Γ e3 r2 (wI k) r2) (q1 : o.run [wI i, wI j] = some (wB b1)) (q2 : p.run [wI j, wI k] = some (wB b2)) : X Γ (.chn o p e1 e2 e3) r (wB (b1 && b2)) r2 := by
  have e : X Γ (.chn o p e1 e2 e3) r (wB (b1 && b2)) r2 = ((e1.sem Γ r).bind (fun (x, r1) => (e2.sem Γ r1).bind fun (y, r2) => match o.run [x, y] with
    | some (.fl (.bl k)) => if k then (e3.sem Γ r2).bind fun (z, r3) => Res.of ((p.run [y, z]).map fun w => (w, r3)) else .ok (.fl (.bl false), r2)
    | _ => .bad) = .ok (wB (b1 && b2), r2)) := rfl
  rw [e, h1]
  show ((e2.sem Γ r1).bind _) = _
  rw [h2]
  show (match o.run [wI i, wI j] with
    | some (.fl (.bl k)) => if k then (e3.sem Γ r2).bind fun (z, r3) => Res.of ((p.run [wI j, z]).map fun w => (w, r3)) else .ok (.fl (.bl false), r2)
    | _ => .bad) = _
  rw [q1]
  cases b1 with
  | false => rfl
  | true =>
    show ((e3.sem Γ r2).bind _) = _
    rw [h3]
    show Res.of ((p.run [wI j, wI k]).map fun w => (w, r2)) = _
    rw [q2]
    rfl
/-! calls -/
theorem XA.nil : XA Γ [] r [] r := rfl
theorem XA.va {e : E} {es : List Ar} {vs : List (W ⊕ Nat)} (h1 : X Γ e r w r1) (h2 : XA Γ es r1 vs r2) : XA Γ (.va e :: es) r (.inl w :: vs) r2 := by
  rw [XA, ar_va, h1]
  show (Ar.sems Γ es r1).bind _ = _
  rw [h2]
  rfl
theorem XA.io {n : Nat} {es : List Ar} {vs : List (W ⊕ Nat)} (h1 : r[n]? = some (some w)) (h2 : XA Γ es r vs r2) : XA Γ (.io n :: es) r (.inr n :: vs) r2 := by
  rw [XA, ar_io, h1]
  show (Ar.sems Γ es r).bind _ = _
  rw [h2]
  rfl
theorem X.call {fn : Nat} {as : List Ar} {vs : List (W ⊕ Nat)} {ws us : List W} (hf : Γ fn ws = .ok w us) (ha : XA Γ as r vs r1) (ht : takeIo vs r1 = some (ws, r2)) (hp : putIo vs us r2 = some r3) : X Γ (.call fn as) r w r3 := by
  rw [X, ev_call, ha]
  show (match takeIo vs r1 with
    | some (ws, r2) => match Γ fn ws with
      | .ok w us => Res.of ((putIo vs us r2).map fun r3 => (w, r3))
      | .ex c p us => match putIo vs us r2 with
        | some r3 => .ex c p r3
        | none => .bad
      | .bad => .bad
    | none => .bad) = _
  rw [ht]
  show (match Γ fn ws with
      | .ok w us => Res.of ((putIo vs us r2).map fun r3 => (w, r3))
      | .ex c p us => match putIo vs us r2 with
        | some r3 => .ex c p r3
        | none => .bad
      | .bad => .bad) = _
  rw [hf]
  show Res.of ((putIo vs us r2).map fun r3 => (w, r3)) = _
  rw [hp]
  rfl
theorem X.call0 {fn : Nat} (hf : Γ fn [] = .ok w []) : X Γ (.call0 fn) r w r := by
  rw [X, ev_call0, hf]
/-! list(range(..)) -/
theorem rangeD_eq (i j : Int) : rangeD i j = (rgI i j).map dI := by
  unfold rangeD rgI
  rw [List.map_map]
  rfl
theorem rangeW_eq (i j : Int) : rangeW i j = (rgI i j).map wI := by
  unfold rangeW rgI
  rw [List.map_map]
  rfl
theorem X.rng {e1 e2 : E} {ns : List Int} (h1 : X Γ e1 r (wI i) r1) (h2 : X Γ e2 r1 (wI j) r2) (h : rngL i j = some ns) : X Γ (.rng e1 e2) r (oL dI ns) r2 := by
  have e : X Γ (.rng e1 e2) r (oL dI ns) r2 = ((e1.sem Γ r).bind (fun (x, r1) => (e2.sem Γ r1).bind fun (y, r2) => match x, y with
    | .fl (.int m), .fl (.int n) => if decide (-100000 ≤ m ∧ m ≤ 100000 ∧ -100000 ≤ n ∧ n ≤ 100000) then .ok (newL (rangeD m n), r2) else .bad
    | _, _ => .bad) = .ok (oL dI ns, r2)) := rfl
  rw [e, h1]
  show ((e2.sem Γ r1).bind _) = _
  rw [h2]
  show (if decide (-100000 ≤ i ∧ i ≤ 100000 ∧ -100000 ≤ j ∧ j ≤ 100000) then Res.ok (newL (rangeD i j), r2) else .bad) = _
  unfold rngL at h
  split at h
  · rename_i c
    rw [if_pos (decide_eq_true c), rangeD_eq, ← Option.some.inj h, oL_new]
  · cases h
/-! what is gone through -/
theorem XI.sq {o : O} {ro : Option Nat} (ho : OV Γ o r ro wa r1) (h : IsL f xs wa) : XI Γ (.sq o) r (xs.map (fz f)) r1 := by
  obtain ⟨v, a1, a2⟩ := ho
  rw [XI, it_sq, a1]
  show Res.of (((v.val r1).bind W.lstD).map fun ds => (ds.map W.fl, r1)) = _
  rw [a2 r1 keep_rfl]
  show Res.of (wa.lstD.map fun ds => (ds.map W.fl, r1)) = _
  rw [h.lstD]
  show Res.ok ((xs.map f).map W.fl, r1) = _
  rw [List.map_map]
  rfl
theorem XI.tq {o : O} {ro : Option Nat} {ds : List D} (ho : OV Γ o r ro (.fl (.nd .tup ds)) r1) : XI Γ (.tq o) r (ds.map W.fl) r1 := by
  obtain ⟨v, a1, a2⟩ := ho
  have e : XI Γ (.tq o) r (ds.map W.fl) r1 = ((O.sem Γ o r).bind (fun (v, r1) => Res.of (((v.val r1).bind W.tupD).map fun ds => (ds.map W.fl, r1))) = .ok (ds.map W.fl, r1)) := rfl
  rw [e, a1]
  show Res.of (((v.val r1).bind W.tupD).map fun ds => (ds.map W.fl, r1)) = _
  rw [a2 r1 keep_rfl]
  rfl
theorem XI.rg1 {e : E} {n : Int} {ns : List Int} (h : X Γ e r (wI n) r1) (hn : rngO 0 n = some ns) : XI Γ (.r1 e) r (ns.map wI) r1 := by
  rw [XI, it_r1, h]
  show (if within n then Res.ok (rangeW 0 n, r1) else .bad) = _
  unfold rngO at hn
  split at hn
  · rename_i c
    rw [c.2, ← Option.some.inj hn, rangeW_eq]
    rfl
  · cases hn
theorem XI.rg2 {e1 e2 : E} {m n : Int} {ns : List Int} (h1 : X Γ e1 r (wI m) r1) (h2 : X Γ e2 r1 (wI n) r2) (hn : rngO m n = some ns) : XI Γ (.r2 e1 e2) r (ns.map wI) r2 := by
  have e : XI Γ (.r2 e1 e2) r (ns.map wI) r2 = ((e1.sem Γ r).bind (fun (x, r1) => (e2.sem Γ r1).bind fun (y, r2) => match x, y with
    | .fl (.int m), .fl (.int n) => if within m && within n then .ok (rangeW m n, r2) else .bad
    | _, _ => .bad) = .ok (ns.map wI, r2)) := rfl
  rw [e, h1]
  show ((e2.sem Γ r1).bind _) = _
  rw [h2]
  show (if within m && within n then Res.ok (rangeW m n, r2) else .bad) = _
  unfold rngO at hn
  split at hn
  · rename_i c
    rw [c.1, c.2, ← Option.some.inj hn, rangeW_eq]
    rfl
  · cases hn
theorem zipW_map (f : α → D) (g : β → D) : ∀ (xs : List α) (ys : List β), zipW (xs.map f) (ys.map g) = (xs.zip ys).map (fz (d2 f g))
  | [], _ => by simp [zipW]
  | _ :: _, [] => by simp [zipW]
  | x :: xs, y :: ys => by
    show W.fl (.nd .tup [f x, g y]) :: zipW (xs.map f) (ys.map g) = _
    rw [zipW_map f g xs ys]
    rfl
theorem XI.zp {o p : O} {ro rp : Option Nat} {ys : List β} (ho : OV Γ o r ro wa r1) (hp : OV Γ p r1 rp wb r2) (hk : Keep ro r1 r2) (h1 : IsL f xs wa) (h2 : IsL g ys wb) : XI Γ (.zp o p) r ((xs.zip ys).map (fz (d2 f g))) r2 := by
  obtain ⟨v, a1, a2⟩ := ho
  obtain ⟨u, b1, b2⟩ := hp
  rw [XI, it_zp, a1]
  show (O.sem Γ p r1).bind _ = _
  rw [b1]
  show (match (v.val r2).bind W.lstD, (u.val r2).bind W.lstD with
    | some ds, some es => Res.ok (zipW ds es, r2)
    | _, _ => .bad) = _
  rw [a2 r2 hk, b2 r2 keep_rfl]
  show (match wa.lstD, wb.lstD with
    | some ds, some es => Res.ok (zipW ds es, r2)
    | _, _ => .bad) = _
  rw [h1.lstD, h2.lstD]
  show Res.ok (zipW (xs.map f) (ys.map g), r2) = _
  rw [zipW_map]
theorem enumW_map (f : α → D) : ∀ (xs : List α) (n : Nat), enumW n (xs.map f) = (enumL n xs).map (fz (d2 dI f))
  | [], _ => rfl
  | x :: xs, n => by
    show W.fl (.nd .tup [.int (n : Int), f x]) :: enumW (n + 1) (xs.map f) = _
    rw [enumW_map f xs (n + 1)]
    rfl
theorem XI.en {o : O} {ro : Option Nat} (ho : OV Γ o r ro wa r1) (h : IsL f xs wa) : XI Γ (.en o) r ((enumL 0 xs).map (fz (d2 dI f))) r1 := by
  obtain ⟨v, a1, a2⟩ := ho
  rw [XI, it_en, a1]
  show Res.of (((v.val r1).bind W.lstD).map fun ds => (enumW 0 ds, r1)) = _
  rw [a2 r1 keep_rfl]
  show Res.of (wa.lstD.map fun ds => (enumW 0 ds, r1)) = _
  rw [h.lstD]
  show Res.ok (enumW 0 (xs.map f), r1) = _
  rw [enumW_map]
def sgT (t : Tx) : List Tx := t.s.cps.toList.attach.map fun c => ⟨⟨#[c.1]⟩, by
    have := t.ok
    unfold PyData.strOk at this
    rw [Array.all_eq_true'] at this
    have h := this c.1 (by simpa using c.2)
    simpa [PyData.strOk] using h, by simp [Str.length]⟩
theorem signs_eq (t : Tx) : signsW t.s = (sgT t).map (fz dS) := by
  unfold signsW sgT
  rw [List.map_map]
  show _ = List.map (fun c : { x // x ∈ t.s.cps.toList } => W.fl (.str ⟨#[c.1]⟩)) _
  rw [← List.attach_map_subtype_val (l := t.s.cps.toList)]
  simp [List.map_map]
theorem XI.st {o : O} {ro : Option Nat} {t : Tx} (ho : OV Γ o r ro (fz dS t) r1) : XI Γ (.st o) r ((sgT t).map (fz dS)) r1 := by
  obtain ⟨v, a1, a2⟩ := ho
  have e : XI Γ (.st o) r ((sgT t).map (fz dS)) r1 = ((O.sem Γ o r).bind (fun (v, r1) => match v.val r1 with
    | some (.fl (.str z)) => .ok (signsW z, r1)
    | _ => .bad) = .ok ((sgT t).map (fz dS), r1)) := rfl
  rw [e, a1]
  show (match v.val r1 with
    | some (.fl (.str z)) => Res.ok (signsW z, r1)
    | _ => .bad) = _
  rw [a2 r1 keep_rfl]
  show Res.ok (signsW t.s, r1) = _
  rw [signs_eq]
/-! targets -/
theorem TB.nm {n : Nat} (hn : n < r.length) (hr : r.set n (some w) = r1) : Tg.bind (.nm n) w r = some r1 := by
  show (if n < r.length then some (r.set n (some w)) else none) = _
  rw [if_pos hn, hr]
theorem TBs.nil : Tg.binds [] [] r = some r := rfl
theorem TBs.cons {t : Tg} {ts : List Tg} {ws : List W} (h1 : t.bind w r = some r1) (h2 : Tg.binds ts ws r1 = some r2) : Tg.binds (t :: ts) (w :: ws) r = some r2 := by
  show ((t.bind w r).bind fun r1 => Tg.binds ts ws r1) = _
  rw [h1]
  exact h2
theorem TB.tp {ts : List Tg} {ws : List W} (h1 : w.parts = some ws) (h2 : Tg.binds ts ws r = some r1) : Tg.bind (.tp ts) w r = some r1 := by
  show (match w.parts with
    | some ws => Tg.binds ts ws r
    | none => none) = _
  rw [h1]
  exact h2
/-! comprehensions -/
theorem lc_gen {enc : γ → W} {en : β → W} {F : γ → σ → Option (Option β × σ)} {I : σ → Env → Prop} {t : Tg} {test : Env → Res (Bool × Env)} {elt : Env → Res (W × Env)} {own : List Nat}
    (step : ∀ x s o s' r, F x s = some (o, s') → I s r → ∃ rx, t.bind (enc x) r = some rx ∧ (match o with
      | none => ∃ ry, test rx = .ok (false, ry) ∧ I s' (wipeE ry own)
      | some y => ∃ ry rz, test rx = .ok (true, ry) ∧ elt ry = .ok (en y, rz) ∧ I s' (wipeE rz own))) :
    ∀ (xs : List γ) (s : σ) (ys : List β) (s' : σ) (r : Env) (acc : List W), lcG F xs s = some (ys, s') → I s r → acc.length + xs.length ≤ 100000 → ∃ r', lcFold t.bind test elt own (xs.map enc) acc r = .ok (acc ++ ys.map en, r') ∧ I s' r'
  | [], s, ys, s', r, acc, h, hi, _ => by
    have h' := Option.some.inj h
    injection h' with e1 e2
    subst e1 e2
    exact ⟨r, by simp [lcFold], hi⟩
  | x :: xs, s, ys, s', r, acc, h, hi, hl => by
    obtain ⟨⟨o, s1⟩, h1, h⟩ := ob_some h
    obtain ⟨⟨zs, s2⟩, h2, h⟩ := ob_some h
    obtain ⟨rx, q1, q2⟩ := step x s o s1 r h1 hi
    have hl' : acc.length + (xs.length + 1) ≤ 100000 := hl
    cases o with
    | none =>
      obtain ⟨ry, q3, q4⟩ := q2
      obtain ⟨r', k1, k2⟩ := lc_gen step xs s1 zs s2 _ acc h2 q4 (by omega)
      have h := Option.some.inj h
      injection h with e1 e2
      subst e1 e2
      refine ⟨r', ?_, k2⟩
      rw [List.map_cons, lcFold, q1]
      show ((test rx).noEx.bind _) = _
      rw [q3]
      exact k1
    | some y =>
      obtain ⟨ry, rz, q3, q4, q5⟩ := q2
      obtain ⟨r', k1, k2⟩ := lc_gen step xs s1 zs s2 _ (acc ++ [en y]) h2 q5 (by simp; omega)
      have h := Option.some.inj h
      injection h with e1 e2
      subst e1 e2
      refine ⟨r', ?_, k2⟩
      rw [List.map_cons, lcFold, q1]
      show ((test rx).noEx.bind _) = _
      rw [q3]
      show (elt ry).noEx.bind _ = _
      rw [q4]
      show (if small acc.length then _ else _) = _
      rw [small_of (by omega)]
      show lcFold t.bind test elt own (xs.map enc) (acc ++ [en y]) (wipeE rz own) = _
      rw [k1]
      simp
theorem X.lc0 {own : List (Str × Nat)} {t : Tg} {it : It} {e : E} {enc : γ → W} {en : β → W} {F : γ → σ → Option (Option β × σ)} {I : σ → Env → Prop} {zs : List γ} {s s' : σ} {bs : List β}
    (hi : XI Γ it r (zs.map enc) r1) (hl : zs.length ≤ 100000) (hf : lcG F zs s = some (bs, s')) (h0 : I s (wipeE r1 (own.map (·.2))))
    (step : ∀ x s o s' r, F x s = some (o, s') → I s r → ∃ rx, t.bind (enc x) r = some rx ∧ ∃ y, o = some y ∧ ∃ rz, X Γ e rx (en y) rz ∧ I s' (wipeE rz (own.map (·.2)))) (k : ∀ r2, I s' r2 → r2 = r3) :
    X Γ (.lc own t it none e) r (.nd .lst (bs.map en)) r3 := by
  rw [X, ev_lc0, hi]
  obtain ⟨r', k1, k2⟩ := lc_gen (en := en) (elt := E.sem Γ e) (test := fun r => Res.ok (true, r)) (own := own.map (·.2)) (I := I) (t := t) (fun x s o s' r h hi => by
    obtain ⟨rx, q1, y, rfl, rz, q2, q3⟩ := step x s o s' r h hi
    exact ⟨rx, q1, rx, rz, rfl, q2, q3⟩) zs s bs s' _ [] hf h0 (by simpa using hl)
  show ((lcFold t.bind _ _ _ (zs.map enc) [] (wipeE r1 (own.map (·.2)))).bind _) = _
  rw [k1, k r' k2]
  rfl
theorem X.lc1 {own : List (Str × Nat)} {t : Tg} {it : It} {c e : E} {enc : γ → W} {en : β → W} {F : γ → σ → Option (Option β × σ)} {I : σ → Env → Prop} {zs : List γ} {s s' : σ} {bs : List β}
    (hi : XI Γ it r (zs.map enc) r1) (hl : zs.length ≤ 100000) (hf : lcG F zs s = some (bs, s')) (h0 : I s (wipeE r1 (own.map (·.2))))
    (step : ∀ x s o s' r, F x s = some (o, s') → I s r → ∃ rx, t.bind (enc x) r = some rx ∧ (match o with
      | none => ∃ ry, X Γ c rx (wB false) ry ∧ I s' (wipeE ry (own.map (·.2)))
      | some y => ∃ ry rz, X Γ c rx (wB true) ry ∧ X Γ e ry (en y) rz ∧ I s' (wipeE rz (own.map (·.2))))) (k : ∀ r2, I s' r2 → r2 = r3) :
    X Γ (.lc own t it (some c) e) r (.nd .lst (bs.map en)) r3 := by
  rw [X, ev_lc1, hi]
  obtain ⟨r', k1, k2⟩ := lc_gen (en := en) (elt := E.sem Γ e) (test := fun r => (E.sem Γ c r).bind bool?) (own := own.map (·.2)) (I := I) (t := t) (fun x s o s' r h hi => by
    obtain ⟨rx, q1, q2⟩ := step x s o s' r h hi
    refine ⟨rx, q1, ?_⟩
    cases o with
    | none =>
      obtain ⟨ry, q3, q4⟩ := q2
      refine ⟨ry, ?_, q4⟩
      show (E.sem Γ c rx).bind bool? = _
      rw [q3]
      rfl
    | some y =>
      obtain ⟨ry, rz, q3, q4, q5⟩ := q2
      refine ⟨ry, rz, ?_, q4, q5⟩
      show (E.sem Γ c rx).bind bool? = _
      rw [q3]
      rfl) zs s bs s' _ [] hf h0 (by simpa using hl)
  show ((lcFold t.bind _ _ _ (zs.map enc) [] (wipeE r1 (own.map (·.2)))).bind _) = _
  rw [k1, k r' k2]
  rfl
/-- all pure -/
theorem lcG_map {F : γ → β} : ∀ zs : List γ, lcG (fun x (_ : Unit) => some (some (F x), ())) zs () = some (zs.map F, ())
  | [] => rfl
  | z :: zs => by
    show ob (lcG _ zs ()) _ = _
    rw [lcG_map zs]
    rfl
theorem lcG_fil {P : γ → Bool} {F : γ → β} : ∀ zs : List γ, lcG (fun x (_ : Unit) => some (if P x = true then some (F x) else none, ())) zs () = some ((zs.filter P).map F, ())
  | [] => rfl
  | z :: zs => by
    show ob (lcG _ zs ()) _ = _
    rw [lcG_fil zs]
    by_cases c : P z = true
    · simp [c]
    · simp [c]
theorem X.lcM {own : List (Str × Nat)} {t : Tg} {it : It} {e : E} {enc : γ → W} {g : β → D} {F : γ → β} {zs : List γ} {bs : List β} (hf : mapC F zs = some bs)
    (hi : XI Γ it r (zs.map enc) r1) (hw : wipeE r1 (own.map (·.2)) = r2)
    (step : ∀ x, ∃ rx, t.bind (enc x) r2 = some rx ∧ X Γ e rx (fz g (F x)) rx ∧ wipeE rx (own.map (·.2)) = r2) :
    X Γ (.lc own t it none e) r (oL g bs) r2 := by
  unfold mapC at hf
  split at hf
  · rename_i hl
    rw [← Option.some.inj hf]
    refine X.lc0 (en := fz g) (I := fun (_ : Unit) r3 => r3 = r2) hi hl (lcG_map zs) hw (fun x s o s' r h hi => ?_) fun r3 h => h
    have h' := Option.some.inj h
    injection h' with e1 e2
    subst e1
    subst hi
    obtain ⟨rx, q1, q2, q3⟩ := step x
    exact ⟨rx, q1, _, rfl, rx, q2, q3⟩
  · cases hf
theorem X.lcF {own : List (Str × Nat)} {t : Tg} {it : It} {c e : E} {enc : γ → W} {g : β → D} {P : γ → Bool} {F : γ → β} {zs : List γ} {bs : List β} (hf : filC P F zs = some bs)
    (hi : XI Γ it r (zs.map enc) r1) (hw : wipeE r1 (own.map (·.2)) = r2)
    (step : ∀ x, ∃ rx, t.bind (enc x) r2 = some rx ∧ X Γ c rx (wB (P x)) rx ∧ X Γ e rx (fz g (F x)) rx ∧ wipeE rx (own.map (·.2)) = r2) :
    X Γ (.lc own t it (some c) e) r (oL g bs) r2 := by
  unfold filC at hf
  split at hf
  · rename_i hl
    rw [← Option.some.inj hf]
    refine X.lc1 (en := fz g) (I := fun (_ : Unit) r3 => r3 = r2) hi hl (lcG_fil (P := P) (F := F) zs) hw (fun x s o s' r h hi => ?_) fun r3 h => h
    have h' := Option.some.inj h
    injection h' with e1 e2
    subst hi
    obtain ⟨rx, q1, q2, q3, q4⟩ := step x
    refine ⟨rx, q1, ?_⟩
    by_cases p : P x = true
    · rw [if_pos p] at e1
      subst e1
      rw [p] at q2
      exact ⟨rx, rx, q2, q3, q4⟩
    · rw [if_neg p] at e1
      subst e1
      have p' : P x = false := by simpa using p
      rw [p'] at q2
      exact ⟨rx, q2, q4⟩
  · cases hf
end
end Sh
end Vx
end

section
set_option maxHeartbeats 4000000
/-! Sh 4: rules of statements, loops, defs. -/
namespace Vx
open PySem L2
namespace Sh
def Run (Γ : Den) (ss : List S) (r : Env) (Q : Out → Prop) : Prop := Q (S.sems Γ ss r)
def Out.stop : Out → Bool
  | .rt _ _ => true
  | .ex _ _ _ => true
  | _ => false
def FallQ {σ : Type} (I : σ → Env → Prop) (s : σ) (o : Out) : Prop := ∃ r2, o = .nx r2 ∧ I s r2
def SumQ {ρ σ : Type} (RT : ρ → Out → Prop) (I : σ → Env → Prop) : ρ ⊕ σ → Out → Prop
  | .inl v, o => Out.stop o = true ∧ RT v o
  | .inr s, o => ∃ r2, o = .nx r2 ∧ I s r2
/-- what a def's run ends with -/
def fin (io : List Nat) : Out → Rf
  | .rt w r => match ioBack io r with
    | some us => .ok w us
    | none => .bad
  | .nx r => match ioBack io r with
    | some us => .ok (.fl .non) us
    | none => .bad
  | .ex c p r => match ioBack io r with
    | some us => .ex c p us
    | none => .bad
  | _ => .bad
section
variable {Γ : Den} {r r1 r2 r3 r4 : Env} {w u wa wb : W} {d : D} {α β γ σ ρ τ : Type} {f : α → D} {x y : α} {xs ys : List α} {i j : Int} {e e2 : E} {s : S} {ss ta tb : List S} {Q : Out → Prop} {n : Nat} {p : Bool}
theorem def_run {m : Nat} {io : List Nat} {b : List S} {ws : List W} {x : Rf} (h : Run Γ b (ws.map some ++ List.replicate (m - ws.length) none) fun o => fin io o = x) : runF Γ m io b ws = x := by
  unfold Run at h
  rw [← h]
  unfold runF fin
  generalize S.sems Γ b (ws.map some ++ List.replicate (m - ws.length) none) = o
  cases o <;> rfl
theorem Run.nil (h : Q (.nx r)) : Run Γ [] r Q := h
theorem Run.step (h : s.sem Γ r = .nx r1) (k : Run Γ ss r1 Q) : Run Γ (s :: ss) r Q := by
  unfold Run
  rw [sts_cons, h]
  exact k
theorem Run.asg (h : X Γ e r w r1) (hl : n < r1.length) (hr : r1.set n (some w) = r2) (k : Run Γ ss r2 Q) : Run Γ (.asg n e :: ss) r Q := by
  refine Run.step (r1 := r2) ?_ k
  rw [st_asg, h]
  show (if n < r1.length then Out.nx (r1.set n (some w)) else .bad) = _
  rw [if_pos hl, hr]
theorem Run.asgC (h : X Γ e r w r1) (hl : n < r1.length) (hr : r1.set n (some w) = r2) (k : Run Γ ss r2 Q) : Run Γ (.asgC n e :: ss) r Q := by
  refine Run.step (r1 := r2) ?_ k
  rw [st_asgC, h]
  show (if n < r1.length then Out.nx (r1.set n (some w)) else .bad) = _
  rw [if_pos hl, hr]
theorem Run.unp {t : Tg} (h : X Γ e r w r1) (hb : t.bind w r1 = some r2) (k : Run Γ ss r2 Q) : Run Γ (.unp t e :: ss) r Q := by
  refine Run.step (r1 := r2) ?_ k
  rw [st_unp, h]
  show (match t.bind w r1 with
    | some r2 => Out.nx r2
    | none => .bad) = _
  rw [hb]
theorem Run.aug {o : Rop} (h0 : r[n]? = some (some (wI i))) (h : X Γ e r (wI j) r1) (hl : n < r1.length) (hr : r1.set n (some (wI (i + j))) = r2) (k : Run Γ ss r2 Q) : Run Γ (.aug n o e :: ss) r Q := by
  refine Run.step (r1 := r2) ?_ k
  have e0 : S.sem Γ (.aug n o e) r = (match r[n]? with
    | some (some (.fl (.int a))) => (e.sem Γ r).out fun (w, r1) => match w with
      | .fl (.int b) => if n < r1.length then .nx (r1.set n (some (.fl (.int (a + b))))) else .bad
      | _ => .bad
    | _ => .bad) := rfl
  rw [e0, h0]
  show ((e.sem Γ r).out _) = _
  rw [h]
  show (if n < r1.length then Out.nx (r1.set n (some (.fl (.int (i + j))))) else .bad) = _
  rw [if_pos hl, hr]
theorem Run.ex (h : X Γ e r w r1) (k : Run Γ ss r1 Q) : Run Γ (.ex e :: ss) r Q := by
  refine Run.step (r1 := r1) ?_ k
  show (e.sem Γ r).out _ = _
  rw [h]
  rfl
theorem Run.ret (h : X Γ e r w r1) (q : Q (.rt w r1)) : Run Γ (.ret e :: ss) r Q := by
  unfold Run
  rw [sts_cons, st_ret, h]
  exact q
theorem Run.retN (q : Q (.rt (.fl .non) r)) : Run Γ (.retN :: ss) r Q := q
theorem Run.pass (k : Run Γ ss r Q) : Run Γ (.pass :: ss) r Q := k
theorem sems_append : ∀ {a b : List S} {r : Env}, S.sems Γ (a ++ b) r = (S.sems Γ a r).andThen (S.sems Γ b)
  | [], b, r => rfl
  | s :: a, b, r => by
    show (s.sem Γ r).andThen (S.sems Γ (a ++ b)) = ((s.sem Γ r).andThen (S.sems Γ a)).andThen (S.sems Γ b)
    cases s.sem Γ r with
    | nx r1 => exact sems_append
    | _ => rfl
theorem Run.ifT {a b : List S} (hc : X Γ e r (wB p) r1) (hp : p = true) (k : Run Γ (a ++ ss) r1 Q) : Run Γ (.iff e a b :: ss) r Q := by
  subst hp
  unfold Run at k ⊢
  rw [sems_append] at k
  rw [sts_cons, st_iff, hc]
  exact k
theorem Run.ifF {a b : List S} (hc : X Γ e r (wB p) r1) (hp : p = false) (k : Run Γ (b ++ ss) r1 Q) : Run Γ (.iff e a b :: ss) r Q := by
  subst hp
  unfold Run at k ⊢
  rw [sems_append] at k
  rw [sts_cons, st_iff, hc]
  exact k
theorem Run.join {I : σ → Env → Prop} {q : σ} (h1 : Run Γ [s] r (FallQ I q)) (h2 : ∀ r2, I q r2 → Run Γ ss r2 Q) : Run Γ (s :: ss) r Q := by
  obtain ⟨r2, e, hi⟩ := h1
  have e' : S.sem Γ s r = .nx r2 := by
    have e2 : (S.sem Γ s r).andThen (S.sems Γ []) = .nx r2 := e
    generalize S.sem Γ s r = o at e2
    cases o <;> first | exact e2 | cases e2
  exact Run.step e' (h2 r2 hi)
theorem stop_then {o : Out} {k : Env → Out} (h : Out.stop o = true) : o.andThen k = o := by
  cases o <;> first | rfl | cases h
theorem one_sem : S.sems Γ [s] r = S.sem Γ s r := by
  show (S.sem Γ s r).andThen (S.sems Γ []) = _
  cases S.sem Γ s r <;> rfl
theorem Run.orn {RT : ρ → Out → Prop} {I : σ → Env → Prop} {oo : ρ ⊕ σ} {K : σ → Option ρ} {v : ρ} (h1 : Run Γ [s] r (SumQ RT I oo)) (h : Sh.orn oo K = some v) (h2 : ∀ q r2, K q = some v → I q r2 → Run Γ ss r2 (RT v)) : Run Γ (s :: ss) r (RT v) := by
  unfold Run at h1 ⊢
  rw [one_sem] at h1
  rw [sts_cons]
  cases oo with
  | inl a =>
    have e : a = v := Option.some.inj h
    subst e
    rw [stop_then h1.1]
    exact h1.2
  | inr q =>
    obtain ⟨r2, e, hi⟩ := h1
    rw [e]
    exact h2 q r2 h hi
theorem Run.ornS {RT : ρ → Out → Prop} {I : σ → Env → Prop} {J : τ → Env → Prop} {oo : ρ ⊕ σ} {K : σ → Option (ρ ⊕ τ)} {v : ρ ⊕ τ} (h1 : Run Γ [s] r (SumQ RT I oo)) (h : Sh.ornS oo K = some v) (h2 : ∀ q r2, K q = some v → I q r2 → Run Γ ss r2 (SumQ RT J v)) : Run Γ (s :: ss) r (SumQ RT J v) := by
  unfold Run at h1 ⊢
  rw [one_sem] at h1
  rw [sts_cons]
  cases oo with
  | inl a =>
    have e : .inl a = v := Option.some.inj h
    subst e
    rw [stop_then h1.1]
    exact h1
  | inr q =>
    obtain ⟨r2, e, hi⟩ := h1
    rw [e]
    exact h2 q r2 h hi
/-! loops -/
theorem for_cons {bind : W → Env → Option Env} {body : Env → Out} {ws : List W} : forFold bind body (w :: ws) r = (match bind w r with
    | none => Out.bad
    | some r1 => match body r1 with
      | .nx r2 => forFold bind body ws r2
      | .ct r2 => forFold bind body ws r2
      | .bk r2 => .nx r2
      | y => y) := rfl
theorem fold_S {enc : γ → W} {F : γ → σ → Option σ} {I : σ → Env → Prop} {t : Tg} {b : List S} (step : ∀ x s s' r, F x s = some s' → I s r → ∃ rx, t.bind (enc x) r = some rx ∧ Run Γ b rx (FallQ I s')) :
    ∀ (zs : List γ) (s s' : σ) (r : Env), forS F zs s = some s' → I s r → ∃ r2, forFold t.bind (S.sems Γ b) (zs.map enc) r = .nx r2 ∧ I s' r2
  | [], s, s', r, h, hi => by
    have e := Option.some.inj h
    subst e
    exact ⟨r, rfl, hi⟩
  | z :: zs, s, s', r, h, hi => by
    obtain ⟨s1, h1, h2⟩ := ob_some h
    obtain ⟨rx, q1, r2, q2, q3⟩ := step z s s1 r h1 hi
    obtain ⟨r3, k1, k2⟩ := fold_S step zs s1 s' r2 h2 q3
    refine ⟨r3, ?_, k2⟩
    rw [List.map_cons, for_cons, q1]
    dsimp only
    rw [q2]
    exact k1
theorem Run.forS {enc : γ → W} {F : γ → σ → Option σ} {I : σ → Env → Prop} {t : Tg} {it : It} {b : List S} {zs : List γ} {s s' : σ} (hf : Sh.forS F zs s = some s') (hi : XI Γ it r (zs.map enc) r1) (h0 : I s r1)
    (step : ∀ x s s' r, F x s = some s' → I s r → ∃ rx, t.bind (enc x) r = some rx ∧ Run Γ b rx (FallQ I s')) : Run Γ [.forr t it b] r (FallQ I s') := by
  obtain ⟨r2, k1, k2⟩ := fold_S step zs s s' r1 hf h0
  unfold Run
  rw [one_sem, st_for, hi]
  show FallQ I s' (forFold t.bind (S.sems Γ b) (zs.map enc) r1)
  rw [k1]
  exact ⟨r2, rfl, k2⟩
theorem fold_O {enc : γ → W} {F : γ → σ → Option (ρ ⊕ σ)} {RT : ρ → Out → Prop} {I : σ → Env → Prop} {t : Tg} {b : List S} (step : ∀ x s o r, F x s = some o → I s r → ∃ rx, t.bind (enc x) r = some rx ∧ Run Γ b rx (SumQ RT I o)) :
    ∀ (zs : List γ) (s : σ) (o : ρ ⊕ σ) (r : Env), forO F zs s = some o → I s r → SumQ RT I o (forFold t.bind (S.sems Γ b) (zs.map enc) r)
  | [], s, o, r, h, hi => by
    have e := Option.some.inj h
    subst e
    exact ⟨r, rfl, hi⟩
  | z :: zs, s, o, r, h, hi => by
    obtain ⟨o1, h1, h2⟩ := ob_some h
    obtain ⟨rx, q1, q2⟩ := step z s o1 r h1 hi
    rw [List.map_cons, for_cons, q1]
    dsimp only
    unfold Run at q2
    cases o1 with
    | inl v =>
      have e := Option.some.inj h2
      subst e
      obtain ⟨q3, q4⟩ := q2
      generalize S.sems Γ b rx = oo at q3 q4 ⊢
      cases oo <;> first | exact ⟨q3, q4⟩ | cases q3
    | inr s1 =>
      obtain ⟨r2, q3, q4⟩ := q2
      rw [q3]
      exact fold_O step zs s1 o r2 h2 q4
theorem Run.forO {enc : γ → W} {F : γ → σ → Option (ρ ⊕ σ)} {RT : ρ → Out → Prop} {I : σ → Env → Prop} {t : Tg} {it : It} {b : List S} {zs : List γ} {s : σ} {o : ρ ⊕ σ} (hf : Sh.forO F zs s = some o) (hi : XI Γ it r (zs.map enc) r1) (h0 : I s r1)
    (step : ∀ x s o r, F x s = some o → I s r → ∃ rx, t.bind (enc x) r = some rx ∧ Run Γ b rx (SumQ RT I o)) : Run Γ [.forr t it b] r (SumQ RT I o) := by
  unfold Run
  rw [one_sem, st_for, hi]
  exact fold_O step zs s o r1 hf h0
theorem fold_W {C : σ → Option Bool} {F : σ → Option σ} {I : σ → Env → Prop} {c : E} {b : List S} (test : ∀ s p r, C s = some p → I s r → X Γ c r (wB p) r) (step : ∀ s s' r, F s = some s' → I s r → Run Γ b r (FallQ I s')) :
    ∀ (n : Nat) (s s' : σ) (r : Env), whlS C F n s = some s' → I s r → ∃ r2, whlFold (fun r => (c.sem Γ r).bind bool?) (S.sems Γ b) n r = .nx r2 ∧ I s' r2
  | 0, s, s', r, h, hi => by cases h
  | n + 1, s, s', r, h, hi => by
    obtain ⟨p, h1, h2⟩ := ob_some h
    have e := test s p r h1 hi
    have e2 : whlFold (fun r => (c.sem Γ r).bind bool?) (S.sems Γ b) (n + 1) r = ((c.sem Γ r).bind bool?).out fun (k, r1) => if k then (match S.sems Γ b r1 with
      | .nx r2 => whlFold (fun r => (c.sem Γ r).bind bool?) (S.sems Γ b) n r2
      | .ct r2 => whlFold (fun r => (c.sem Γ r).bind bool?) (S.sems Γ b) n r2
      | .bk r2 => .nx r2
      | y => y) else .nx r1 := rfl
    rw [e2, e]
    rcases ite_some h2 with ⟨hp, h2⟩ | ⟨hp, h2⟩
    · subst hp
      obtain ⟨s1, h3, h4⟩ := ob_some h2
      obtain ⟨r2, q2, q3⟩ := step s s1 r h3 hi
      show ∃ r2, (match S.sems Γ b r with
        | .nx r2 => whlFold (fun r => (c.sem Γ r).bind bool?) (S.sems Γ b) n r2
        | .ct r2 => whlFold (fun r => (c.sem Γ r).bind bool?) (S.sems Γ b) n r2
        | .bk r2 => .nx r2
        | y => y) = .nx r2 ∧ I s' r2
      rw [q2]
      exact fold_W test step n s1 s' r2 h4 q3
    · subst hp
      have e := Option.some.inj h2
      subst e
      exact ⟨r, rfl, hi⟩
theorem Run.whl {C : σ → Option Bool} {F : σ → Option σ} {I : σ → Env → Prop} {c : E} {b : List S} {s s' : σ} (hf : whlS C F fuel s = some s') (h0 : I s r) (test : ∀ s p r, C s = some p → I s r → X Γ c r (wB p) r) (step : ∀ s s' r, F s = some s' → I s r → Run Γ b r (FallQ I s')) : Run Γ [.whl c b] r (FallQ I s') := by
  obtain ⟨r2, k1, k2⟩ := fold_W test step fuel s s' r hf h0
  unfold Run
  rw [one_sem]
  show FallQ I s' (whlFold (fun r => (c.sem Γ r).bind bool?) (S.sems Γ b) fuel r)
  rw [k1]
  exact ⟨r2, rfl, k2⟩
/-! lists changed -/
theorem eget_slot (h : r[n]? = some (some w)) : eget r (n, []) = some w := by
  unfold eget
  rw [h]
  simp
theorem onL_slot {cs cs' : List W} {F : List W → Option (List W)} (h : r[n]? = some (some (.nd .lst cs))) (hf : F cs = some cs') (hs : cs'.length ≤ 100000) : onL r (n, []) F = some (r.set n (some (.nd .lst cs'))) := by
  unfold onL
  rw [eget_slot h]
  simp only [h, wget_nil, hf]
  have e : (small cs'.length && ((W.nd Kd.lst cs).sub []).isSome) = true := by
    rw [small_of hs]
    show ((W.nd Kd.lst cs).sub []).isSome = true
    rw [W.sub_nil]
    rfl
  rw [e]
  show some (W.setAt r n [] (.nd .lst cs')) = _
  unfold W.setAt
  rw [h]
  rfl
theorem isL_slot {cs : List W} (h : r[n]? = some (some (.nd .lst cs))) : isL r (n, []) = true := by
  unfold isL
  rw [eget_slot h]
theorem pl_slot (h : r[n]? = some (some w)) : Pl.sem Γ (.sl n) r = .ok ((n, []), r) := by
  rw [pl_sl, h]
theorem Run.appW {cs : List W} (h0 : r[n]? = some (some (.nd .lst cs))) (he : X Γ e r w r1) (h1 : r1[n]? = some (some (.nd .lst cs))) (hs : cs.length + 1 ≤ 100000) (hr : r1.set n (some (.nd .lst (cs ++ [w]))) = r2) (k : Run Γ ss r2 Q) : Run Γ (.app (.sl n) e :: ss) r Q := by
  refine Run.step (r1 := r2) ?_ k
  rw [st_app, pl_slot h0]
  show (if isL r (n, []) then _ else _) = _
  rw [isL_slot h0]
  show ((E.sem Γ e r).out _) = _
  rw [he]
  show (match onL r1 (n, []) fun cs => some (cs ++ [w]) with
    | some r3 => Out.nx r3
    | none => .bad) = _
  rw [onL_slot (F := fun cs => some (cs ++ [w])) h1 rfl (by simpa using hs), hr]
theorem Run.app (hx : appO xs x = some ys) (h0 : r[n]? = some (some (oL f xs))) (he : X Γ e r (fz f x) r1) (h1 : r1[n]? = some (some (oL f xs))) (hr : r1.set n (some (oL f ys)) = r2) (k : Run Γ ss r2 Q) : Run Γ (.app (.sl n) e :: ss) r Q := by
  unfold appO at hx
  split at hx
  · rename_i hl
    refine Run.appW (cs := xs.map fun x => .fl (f x)) h0 he h1 (by simpa using hl) ?_ k
    rw [← hr, ← Option.some.inj hx]
    unfold oL
    rw [List.map_append]
    rfl
  · cases hx
theorem Run.ins {e1 : E} (hx : insO xs i x = some ys) (h0 : r[n]? = some (some (oL f xs))) (hi : X Γ e1 r (wI i) r1) (he : X Γ e r1 (fz f x) r2) (h1 : r2[n]? = some (some (oL f xs))) (hr : r2.set n (some (oL f ys)) = r3) (k : Run Γ ss r3 Q) : Run Γ (.ins (.sl n) e1 e :: ss) r Q := by
  unfold insO at hx
  split at hx
  · rename_i hl
    refine Run.step (r1 := r3) ?_ k
    have e0 : S.sem Γ (.ins (.sl n) e1 e) r = ((Pl.sl n).sem Γ r).out fun (q, r1) => if isL r1 q then (e1.sem Γ r1).out fun (k, r2) => (e.sem Γ r2).out fun (w, r3) => match k with
      | .fl (.int k) => if 0 ≤ k ∧ k < 2 ^ 63 then (match onL r3 q fun cs => some (cs.take k.toNat ++ w :: cs.drop k.toNat) with
        | some r4 => .nx r4
        | none => .bad) else .bad
      | _ => .bad
      else .bad := rfl
    rw [e0, pl_slot h0]
    show (if isL r (n, []) then _ else _) = _
    have il : isL r (n, []) = true := isL_slot (cs := xs.map fun x => .fl (f x)) h0
    rw [il]
    show ((E.sem Γ e1 r).out _) = _
    rw [hi]
    show ((E.sem Γ e r1).out _) = _
    rw [he]
    show (if 0 ≤ i ∧ i < 2 ^ 63 then (match onL r2 (n, []) fun cs => some (cs.take i.toNat ++ W.fl (f x) :: cs.drop i.toNat) with
        | some r4 => Out.nx r4
        | none => .bad) else .bad) = _
    rw [if_pos ⟨hl.1, hl.2.1⟩, onL_slot (F := fun cs => some (cs.take i.toNat ++ W.fl (f x) :: cs.drop i.toNat)) (cs := xs.map fun x => .fl (f x)) h1 rfl (by
      have := hl.2.2
      simp only [List.length_append, List.length_take, List.length_cons, List.length_drop, List.length_map]
      omega), ← hr, ← Option.some.inj hx]
    unfold oL
    rw [List.map_append, List.map_take, List.map_cons, List.map_drop]
  · cases hx
theorem stepIx_oL : stepIx (oL f xs) (wI j) = ixN xs.length j := by
  show ixN (xs.map fun x => W.fl (f x)).length j = _
  rw [List.length_map]
theorem Run.seti {ei : E} (hx : setO xs j x = some ys) (he : X Γ e r (fz f x) r1) (h0 : r1[n]? = some (some (oL f xs))) (hi : X Γ ei r1 (wI j) r2) (h1 : r2[n]? = some (some (oL f xs))) (hr : r2.set n (some (oL f ys)) = r3) (k : Run Γ ss r3 Q) : Run Γ (.seti (.sl n) ei e :: ss) r Q := by
  obtain ⟨m, m1, hx⟩ := Option.bind_eq_some_iff.mp hx
  split at hx
  · rename_i hl
    refine Run.step (r1 := r3) ?_ k
    rw [st_seti, he]
    show (((Pl.sl n).sem Γ r1).out _) = _
    rw [pl_slot h0]
    show ((E.sem Γ ei r1).out _) = _
    rw [hi]
    show (match (eget r2 (n, [])).bind fun y => stepIx y (wI j) with
      | some j => match onL r2 (n, []) fun cs => some (cs.set j (fz f x)) with
        | some r4 => Out.nx r4
        | none => .bad
      | none => .bad) = _
    rw [eget_slot h1]
    show (match stepIx (oL f xs) (wI j) with
      | some j => match onL r2 (n, []) fun cs => some (cs.set j (fz f x)) with
        | some r4 => Out.nx r4
        | none => .bad
      | none => .bad) = _
    rw [stepIx_oL, m1]
    show (match onL r2 (n, []) fun cs => some (cs.set m (fz f x)) with
        | some r4 => Out.nx r4
        | none => .bad) = _
    rw [onL_slot (F := fun cs => some (cs.set m (fz f x))) (cs := xs.map fun x => .fl (f x)) h1 rfl (by simpa using hl), ← hr, ← Option.some.inj hx]
    unfold oL
    rw [List.map_set]
  · cases hx
theorem map_erase {g : α → β} : ∀ {xs : List α} {m : Nat}, (xs.map g).eraseIdx m = (xs.eraseIdx m).map g
  | [], _ => rfl
  | x :: xs, 0 => rfl
  | x :: xs, m + 1 => by
    show g x :: (xs.map g).eraseIdx m = g x :: (xs.eraseIdx m).map g
    rw [map_erase]
theorem Run.popi {ei : E} (hx : delO xs j = some ys) (h0 : r[n]? = some (some (oL f xs))) (hi : X Γ ei r (wI j) r1) (h1 : r1[n]? = some (some (oL f xs))) (hr : r1.set n (some (oL f ys)) = r2) (k : Run Γ ss r2 Q) : Run Γ (.popi (.sl n) ei :: ss) r Q := by
  obtain ⟨m, m1, hx⟩ := Option.bind_eq_some_iff.mp hx
  split at hx
  · rename_i hl
    refine Run.step (r1 := r2) ?_ k
    have e0 : S.sem Γ (.popi (.sl n) ei) r = ((Pl.sl n).sem Γ r).out fun (q, r1) => if isL r1 q then (ei.sem Γ r1).out fun (k, r2) => match (eget r2 q).bind fun x => stepIx x k with
      | some j => match onL r2 q fun cs => some (cs.eraseIdx j) with
        | some r3 => .nx r3
        | none => .bad
      | none => .bad
      else .bad := rfl
    rw [e0, pl_slot h0]
    show (if isL r (n, []) then _ else _) = _
    have il : isL r (n, []) = true := isL_slot (cs := xs.map fun x => .fl (f x)) h0
    rw [il]
    show ((E.sem Γ ei r).out _) = _
    rw [hi]
    show (match (eget r1 (n, [])).bind fun x => stepIx x (wI j) with
      | some j => match onL r1 (n, []) fun cs => some (cs.eraseIdx j) with
        | some r3 => Out.nx r3
        | none => .bad
      | none => .bad) = _
    rw [eget_slot h1]
    show (match stepIx (oL f xs) (wI j) with
      | some j => match onL r1 (n, []) fun cs => some (cs.eraseIdx j) with
        | some r3 => Out.nx r3
        | none => .bad
      | none => .bad) = _
    rw [stepIx_oL, m1]
    show (match onL r1 (n, []) fun cs => some (cs.eraseIdx m) with
        | some r4 => Out.nx r4
        | none => .bad) = _
    rw [onL_slot (F := fun cs => some (cs.eraseIdx m)) (cs := xs.map fun x => .fl (f x)) h1 rfl (by
      have := List.length_eraseIdx_le xs m
      rw [map_erase, List.length_map]
      omega), ← hr, ← Option.some.inj hx]
    unfold oL
    rw [map_erase]
  · cases hx
end
end Sh
end Vx
end

section
set_option maxHeartbeats 4000000
/-! Sh 5: helpers of the printed proofs; dicts; the law's box. -/
namespace Vx
open PySem L2
namespace Sh
theorem lt_of {n m : Nat} (h : Nat.blt n m = true) : n < m := Nat.le_of_ble_eq_true h
theorem none_ne {α : Type} {v : α} (h : (none : Option α) = some v) : False := by cases h
theorem some_pair {α β : Type} {a c : α} {b d : β} (h : some (a, b) = some (c, d)) : a = c ∧ b = d := by
  cases h
  exact ⟨rfl, rfl⟩
theorem lenOk_le {α : Type} {xs : List α} {u : Unit} (h : lenOk xs = some u) : xs.length ≤ 100000 := by
  unfold lenOk at h
  split at h
  · assumption
  · cases h
def RTlaw (v : Bool) (o : Out) : Prop := ∃ r, o = .rt (wB v) r
theorem RTlaw.mk {v : Bool} {r : Env} : RTlaw v (.rt (wB v) r) := ⟨r, rfl⟩
section
variable {Γ : Den} {r r1 r2 r3 r4 : Env} {w u wa wb : W} {d : D} {α β κ σ ρ : Type} {f : α → D} {g : β → D} {x y : α} {xs ys : List α} {i j : Int} {e e2 : E} {s : S} {ss : List S} {Q : Out → Prop} {n : Nat} {p : Bool} {a b : O} {ra rb : Option Nat}
theorem fallE {I : σ → Env → Prop} {s : σ} (h : I s r) : Run Γ [] r (FallQ I s) := ⟨r, rfl, h⟩
theorem sumE {RT : ρ → Out → Prop} {I : σ → Env → Prop} {s : σ} (h : I s r) : Run Γ [] r (SumQ RT I (.inr s)) := ⟨r, rfl, h⟩
theorem Run.retS {RT : ρ → Out → Prop} {I : σ → Env → Prop} {v : ρ} (h : X Γ e r w r1) (q : RT v (.rt w r1)) : Run Γ (.ret e :: ss) r (SumQ RT I (.inl v)) := Run.ret h ⟨rfl, q⟩
theorem Run.retSN {RT : ρ → Out → Prop} {I : σ → Env → Prop} {v : ρ} (q : RT v (.rt (.fl .non) r)) : Run Γ (.retN :: ss) r (SumQ RT I (.inl v)) := Run.retN ⟨rfl, q⟩
theorem X.iteP {c : E} (f : α → D) (hc : X Γ c r (wB p) r1) (h1 : X Γ e r1 (fz f x) r1) (h2 : X Γ e2 r1 (fz f y) r1) : X Γ (.ite c e e2) r (fz f (if p = true then x else y)) r1 := by
  cases p with
  | true => exact X.iteT hc rfl h1
  | false => exact X.iteF hc rfl h2
theorem X.fz (h : X Γ e r w r1) : X Γ (.fz e) r (.fl w.dat) r1 := by
  rw [X, ev_fz, h]
  rfl
theorem X.fzL (h : X Γ e r (oL f xs) r1) : X Γ (.fz e) r (.fl (dL f xs)) r1 := by
  have := X.fz h
  rw [oL_dat] at this
  exact this
theorem X.is (w : W) (h : X Γ e r w r1) : X Γ e r w r1 := h
theorem X.powE {z : Int} (ha : OV Γ a r ra (wI i) r1) (hb : OV Γ b r1 rb (wI j) r2) (hk : Keep ra r1 r2) (h1 : 0 ≤ j ∧ j ≤ 1000000 ∧ i.natAbs < 2 ^ 64) (h2 : i ^ j.toNat = z) : X Γ (.op .pow [a, b]) r (wI z) r2 := X.pow ha hb hk (by rw [if_pos h1, h2])
theorem OV.oI {o : Option Int} (h : o = some i) (ha : OV Γ a r ra (Sh.fz dO o) r1) : OV Γ a r ra (wI i) r1 := by
  subst h
  exact ha
theorem X.ixTT {ds : List D} {n : Nat} (h1 : X Γ e r (.fl (.nd .tup ds)) r1) (hn : (match ixN ds.length (n : Int) with
    | some m => ds[m]?
    | none => none) = some d) : X Γ (.ixT e (.con (.int (n : Int)))) r (.fl d) r1 := by
  split at hn
  · rename_i m em
    rw [X, ev_ixT, h1]
    show Res.of ((kids1 (.fl (.nd .tup ds)) (wI (n : Int))).map fun w => (w, r1)) = _
    have e1 : kids1 (.fl (.nd .tup ds)) (wI (n : Int)) = some (.fl d) := by
      unfold kids1
      have e0 : stepIx (.fl (.nd .tup ds)) (wI (n : Int)) = some m := em
      rw [e0]
      show ((D.nd Kd.tup ds).get [m]).map W.fl = _
      rw [dget_nd, hn]
      simp
    rw [e1]
    rfl
  · cases hn
theorem X.isNW (ha : OV Γ a r ra wa r1) (hb : OV Γ b r1 rb wN r2) (hk : Keep ra r1 r2) (h : wa.isNon = false) : X Γ (.op .isN [a, b]) r (wB false) r2 := by
  refine X.op2 (w := wB false) ha hb hk ?_
  show pB wa.isNon = _
  rw [h]
theorem X.notNW (ha : OV Γ a r ra wa r1) (hb : OV Γ b r1 rb wN r2) (hk : Keep ra r1 r2) (h : wa.isNon = false) : X Γ (.op .notN [a, b]) r (wB true) r2 := by
  refine X.op2 (w := wB true) ha hb hk ?_
  show pB (!wa.isNon) = _
  rw [h]
  rfl
/-! slots held still for a test -/
theorem frz_nil : frzE r [] = r := rfl
theorem frz_cons {i : Nat} {is : List Nat} (h : r[i]? = some (some (oL f xs))) (k : frzE (r.set i (some (.fl (dL f xs)))) is = r1) : frzE r (i :: is) = r1 := by
  show (match r[i]? with
    | some (some w) => frzE (r.set i (some (.fl w.dat))) is
    | _ => frzE r is) = _
  rw [h]
  show frzE (r.set i (some (.fl (oL f xs).dat))) is = _
  rw [oL_dat]
  exact k
theorem Run.holdF {is ms : List Nat} {c : E} {A : List S} (h0 : frzE r is = r1) (hc : X Γ c r1 (wB p) r2) (hp : p = false) (hr : thawE r (wipeE r2 ms) is = r3) (k : Run Γ ss r3 Q) : Run Γ (.hold is ms [.iff c A []] :: ss) r Q := by
  refine Run.step (r1 := r3) ?_ k
  show (match S.sems Γ [.iff c A []] (frzE r is) with
    | .nx r2 => Out.nx (thawE r (wipeE r2 ms) is)
    | .rt (.fl d) r2 => if d.flat then .rt (.fl d) (thawE r (wipeE r2 ms) is) else .bad
    | _ => .bad) = _
  subst hp
  rw [h0, one_sem, st_iff, hc]
  show Out.nx (thawE r (wipeE r2 ms) is) = _
  rw [hr]
theorem Run.holdT {is ms : List Nat} {c : E} (h0 : frzE r is = r1) (hc : X Γ c r1 (wB p) r2) (hp : p = true) (he : X Γ e r2 (.fl d) r3) (hf : d.flat = true) (q : Q (.rt (.fl d) (thawE r (wipeE r3 ms) is))) : Run Γ (.hold is ms [.iff c [.ret e] []] :: ss) r Q := by
  unfold Run
  have e1 : S.sem Γ (.hold is ms [.iff c [.ret e] []]) r = .rt (.fl d) (thawE r (wipeE r3 ms) is) := by
    show (match S.sems Γ [.iff c [.ret e] []] (frzE r is) with
      | .nx r2 => Out.nx (thawE r (wipeE r2 ms) is)
      | .rt (.fl d) r2 => if d.flat then .rt (.fl d) (thawE r (wipeE r2 ms) is) else .bad
      | _ => .bad) = _
    subst hp
    rw [h0, one_sem, st_iff, hc]
    have e2 : S.sems Γ [.ret e] r2 = .rt (.fl d) r3 := by
      rw [one_sem, st_ret, he]
      rfl
    show (match S.sems Γ [.ret e] r2 with
      | .nx r2 => Out.nx (thawE r (wipeE r2 ms) is)
      | .rt (.fl d) r2 => if d.flat then .rt (.fl d) (thawE r (wipeE r2 ms) is) else .bad
      | _ => .bad) = _
    rw [e2]
    show (if d.flat then Out.rt (.fl d) (thawE r (wipeE r3 ms) is) else .bad) = _
    rw [hf]
    rfl
  rw [sts_cons, e1]
  exact q
theorem Run.holdTS {RT : ρ → Out → Prop} {I : σ → Env → Prop} {v : ρ} {is ms : List Nat} {c : E} (h0 : frzE r is = r1) (hc : X Γ c r1 (wB p) r2) (hp : p = true) (he : X Γ e r2 (.fl d) r3) (hf : d.flat = true) (q : RT v (.rt (.fl d) (thawE r (wipeE r3 ms) is))) : Run Γ (.hold is ms [.iff c [.ret e] []] :: ss) r (SumQ RT I (.inl v)) := Run.holdT h0 hc hp he hf ⟨rfl, q⟩
/-! dicts -/
structure Dc (κ β : Type) where
  l : List (κ × β)
  nd : (l.map Prod.fst).Nodup
def kI : Int → Key := .inl
def kS (t : Tx) : Key := .inr t.s
def kt2 {α β : Type} (f : α → Key) (g : β → Key) (p : α × β) : List Key := [f p.1, g p.2]
def Dc.nil {κ β : Type} : Dc κ β := ⟨[], List.nodup_nil⟩
def lput [DecidableEq κ] : List (κ × β) → κ → β → List (κ × β)
  | [], k, v => [(k, v)]
  | p :: l, k, v => if p.1 = k then (k, v) :: l else p :: lput l k v
theorem lput_mem [DecidableEq κ] {k z : κ} {v : β} : ∀ {l : List (κ × β)}, z ∈ (lput l k v).map Prod.fst → z ∈ l.map Prod.fst ∨ z = k
  | [], h => by simpa [lput] using h
  | p :: l, h => by
    unfold lput at h
    split at h
    · rename_i e
      simp only [List.map_cons, List.mem_cons] at h ⊢
      rcases h with h | h
      · exact .inr h
      · exact .inl (.inr h)
    · simp only [List.map_cons, List.mem_cons] at h ⊢
      rcases h with h | h
      · exact .inl (.inl h)
      · rcases lput_mem h with h | h
        · exact .inl (.inr h)
        · exact .inr h
theorem lput_nd [DecidableEq κ] {k : κ} {v : β} : ∀ {l : List (κ × β)}, (l.map Prod.fst).Nodup → ((lput l k v).map Prod.fst).Nodup
  | [], _ => by simp [lput]
  | p :: l, h => by
    have h' := List.nodup_cons.mp h
    unfold lput
    split
    · rename_i e
      rw [List.map_cons, List.nodup_cons, ← e]
      exact h'
    · rename_i e
      rw [List.map_cons, List.nodup_cons]
      refine ⟨fun z => ?_, lput_nd h'.2⟩
      rcases lput_mem z with z | z
      · exact h'.1 z
      · exact e z
def Dc.put [DecidableEq κ] (d : Dc κ β) (k : κ) (v : β) : Dc κ β := ⟨lput d.l k v, lput_nd d.nd⟩
def Dc.putO [DecidableEq κ] (d : Dc κ β) (k : κ) (v : β) : Option (Dc κ β) := if d.l.length + 1 ≤ 100000 then some (d.put k v) else none
def lget [DecidableEq κ] : List (κ × β) → κ → Option β
  | [], _ => none
  | p :: l, k => if p.1 = k then some p.2 else lget l k
def Dc.get [DecidableEq κ] (d : Dc κ β) (k : κ) : Option β := lget d.l k
def Dc.has [DecidableEq κ] (d : Dc κ β) (k : κ) : Bool := (d.get k).isSome
/-- the keys as the model's keys -/
structure Kf {κ : Type} (kf : κ → Key) (kd : κ → D) : Prop where
  inj : ∀ x y, kf x = kf y → x = y
  key : ∀ x, (kd x).key = some (kf x)
theorem kfI : Kf kI dI := ⟨fun x y h => by injection h, fun x => rfl⟩
theorem kfS : Kf kS dS := ⟨fun x y h => by
  have h' : (Sum.inr x.s : Key) = .inr y.s := h
  injection h' with h'
  exact Tx.ext h', fun x => rfl⟩
def dDK (kf : κ → Key) (g : β → D) (c : Dc κ β) : D := .nd (.dK (c.l.map fun p => kf p.1)) (c.l.map fun p => g p.2)
def oDK (kf : κ → Key) (g : β → D) (c : Dc κ β) : W := .nd (.dK (c.l.map fun p => kf p.1)) (c.l.map fun p => .fl (g p.2))
def IsDK (kf : κ → Key) (g : β → D) (c : Dc κ β) (w : W) : Prop := w = .fl (dDK kf g c) ∨ w = oDK kf g c
theorem IsD.fz {kf : κ → Key} {c : Dc κ β} : IsDK kf g c (.fl (dDK kf g c)) := .inl rfl
theorem IsD.ow {kf : κ → Key} {c : Dc κ β} : IsDK kf g c (oDK kf g c) := .inr rfl
theorem oDK_dat {kf : κ → Key} {c : Dc κ β} : (oDK kf g c).dat = dDK kf g c := by
  have e : (c.l.map fun p => W.fl (g p.2)) = (c.l.map fun p => g p.2).map W.fl := by
    rw [List.map_map]
    rfl
  show D.nd _ (W.dats (c.l.map fun p => W.fl (g p.2))) = _
  rw [e, dats_fl']
  rfl
theorem atZ_get [DecidableEq κ] {kf : κ → Key} {kd : κ → D} (K : Kf kf kd) {k : κ} : ∀ {l : List (κ × β)}, (lget l k = none → atZ (l.map fun p => kf p.1) (kf k) = none) ∧ ∀ v, lget l k = some v → ∃ n, atZ (l.map fun p => kf p.1) (kf k) = some n ∧ ∃ q, l[n]? = some q ∧ q.2 = v
  | [] => ⟨fun _ => rfl, fun v h => by cases h⟩
  | p :: l => by
    obtain ⟨i1, i2⟩ := atZ_get (k := k) K (l := l)
    have e0 : atZ (kf p.1 :: l.map fun p => kf p.1) (kf k) = if kf p.1 = kf k then some 0 else (atZ (l.map fun p => kf p.1) (kf k)).map (· + 1) := rfl
    have e1 : lget (p :: l) k = if p.1 = k then some p.2 else lget l k := rfl
    rw [List.map_cons, e0, e1]
    by_cases c : p.1 = k
    · rw [if_pos c, if_pos (by rw [c])]
      exact ⟨fun h => (by cases h), fun v h => ⟨0, rfl, p, rfl, Option.some.inj h⟩⟩
    · rw [if_neg c, if_neg fun z => c (K.inj _ _ z)]
      refine ⟨fun h => by rw [i1 h]; rfl, fun v h => ?_⟩
      obtain ⟨n, h1, q, h2, h3⟩ := i2 v h
      exact ⟨n + 1, by rw [h1]; rfl, q, by simpa using h2, h3⟩
theorem IsDK.at [DecidableEq κ] {kf : κ → Key} {kd : κ → D} (K : Kf kf kd) {c : Dc κ β} {k : κ} {v : β} (h : IsDK kf g c w) (hv : c.get k = some v) : ∃ n, stepKy w (fz kd k) = some n ∧ w.get [n] = some (.fl (g v)) := by
  obtain ⟨n, h1, q, h2, h3⟩ := (atZ_get K).2 v hv
  refine ⟨n, ?_, ?_⟩
  · rcases h with h | h <;> subst h
    · show ((kd k).key).bind (fun k => atZ (c.l.map fun p => kf p.1) k) = _
      rw [K.key]
      exact h1
    · show ((kd k).key).bind (fun k => atZ (c.l.map fun p => kf p.1) k) = _
      rw [K.key]
      exact h1
  · rcases h with h | h <;> subst h
    · show ((D.nd _ (c.l.map fun p => g p.2)).get [n]).map W.fl = _
      rw [dget_nd, List.getElem?_map, h2]
      simp [h3]
    · show (W.nd _ (c.l.map fun p => W.fl (g p.2))).get [n] = _
      rw [wget_nd, List.getElem?_map, h2]
      simp [h3]
theorem PW.kyK [DecidableEq κ] {kf : κ → Key} {kd : κ → D} (K : Kf kf kd) {c : Dc κ β} {k : κ} {v : β} {p : Pl} {i : Nat} (hp : PW Γ p r i w r1) (hl : IsDK kf g c w) (he : X Γ e r1 (Sh.fz kd k) r2) (hk : r2[i]? = r1[i]?) (hx : c.get k = some v) : PW Γ (.ky p e) r i (.fl (g v)) r2 := by
  obtain ⟨n, h1, h2⟩ := hl.at K hx
  exact PW.ky hp he hk h1 h2
theorem IsDK.has [DecidableEq κ] {kf : κ → Key} {kd : κ → D} (K : Kf kf kd) {c : Dc κ β} {k : κ} (h : IsDK kf g c w) : inK? (kd k) w = some (c.has k) := by
  have e : (atZ (c.l.map fun p => kf p.1) (kf k)).isSome = c.has k := by
    unfold Dc.has Dc.get
    cases e : lget c.l k with
    | none => rw [(atZ_get K).1 e]; rfl
    | some v =>
      obtain ⟨n, h1, _⟩ := (atZ_get K).2 v e
      rw [h1]
      rfl
  rcases h with h | h <;> subst h
  · show ((kd k).key.map fun k => (atZ (c.l.map fun p => kf p.1) k).isSome) = _
    rw [K.key]
    show some (atZ (c.l.map fun p => kf p.1) (kf k)).isSome = _
    rw [e]
  · show ((kd k).key.map fun k => (atZ (c.l.map fun p => kf p.1) k).isSome) = _
    rw [K.key]
    show some (atZ (c.l.map fun p => kf p.1) (kf k)).isSome = _
    rw [e]
theorem X.inK [DecidableEq κ] {kf : κ → Key} {kd : κ → D} (K : Kf kf kd) {c : Dc κ β} {k : κ} (ha : OV Γ a r ra (Sh.fz kd k) r1) (hb : OV Γ b r1 rb wb r2) (hk : Keep ra r1 r2) (h : IsDK kf g c wb) : X Γ (.op .inK [a, b]) r (wB (c.has k)) r2 := by
  refine X.op2 (w := wB (c.has k)) ha hb hk ?_
  show ((inK? (kd k) wb).bind fun b => pB b) = _
  rw [h.has K]
  rfl
theorem X.niK [DecidableEq κ] {kf : κ → Key} {kd : κ → D} (K : Kf kf kd) {c : Dc κ β} {k : κ} (ha : OV Γ a r ra (Sh.fz kd k) r1) (hb : OV Γ b r1 rb wb r2) (hk : Keep ra r1 r2) (h : IsDK kf g c wb) : X Γ (.op .niK [a, b]) r (wB (!c.has k)) r2 := by
  refine X.op2 (w := wB (!c.has k)) ha hb hk ?_
  show ((inK? (kd k) wb).bind fun b => pB (!b)) = _
  rw [h.has K]
  rfl
theorem X.lenDK {kf : κ → Key} {c : Dc κ β} (ha : OV Γ a r ra wa r1) (h : IsDK kf g c wa) : X Γ (.op .len [a]) r (wI c.l.length) r1 := by
  refine X.lenW ha ?_
  rcases h with h | h <;> subst h
  · show some (((c.l.map fun p => g p.2).length : Nat) : Int) = _
    rw [List.length_map]
  · show some (((c.l.map fun p => W.fl (g p.2)).length : Nat) : Int) = _
    rw [List.length_map]
theorem X.dnK {kf : κ → Key} : X Γ .dnK r (oDK kf g Dc.nil) r := rfl
theorem putZ_lput [DecidableEq κ] {kf : κ → Key} {kd : κ → D} (K : Kf kf kd) {k : κ} {v : β} : ∀ {l : List (κ × β)}, putZ (l.map fun p => kf p.1) (l.map fun p => W.fl (g p.2)) (kf k) (.fl (g v)) = ((lput l k v).map (fun p => kf p.1), (lput l k v).map fun p => W.fl (g p.2))
  | [] => rfl
  | p :: l => by
    have ih := putZ_lput (v := v) (k := k) K (l := l)
    unfold putZ at ih ⊢
    have e0 : atZ (kf p.1 :: l.map fun p => kf p.1) (kf k) = if kf p.1 = kf k then some 0 else (atZ (l.map fun p => kf p.1) (kf k)).map (· + 1) := rfl
    have e1 : lput (p :: l) k v = if p.1 = k then (k, v) :: l else p :: lput l k v := rfl
    rw [List.map_cons, List.map_cons, e0, e1]
    by_cases c : p.1 = k
    · rw [if_pos c, if_pos (by rw [c])]
      simp [c]
    · rw [if_neg c, if_neg fun z => c (K.inj _ _ z)]
      cases e : atZ (l.map fun p => kf p.1) (kf k) with
      | none =>
        rw [e] at ih
        simp only [Option.map_none] 
        injection ih with h1 h2
        rw [List.map_cons, List.map_cons, ← h1, ← h2]
        rfl
      | some n =>
        rw [e] at ih
        simp only [Option.map_some]
        injection ih with h1 h2
        rw [List.map_cons, List.map_cons, ← h1, ← h2]
        rfl
theorem kf_nd {kf : κ → Key} {kd : κ → D} (K : Kf kf kd) {c : Dc κ β} : (c.l.map fun p => kf p.1).Nodup := by
  have e : (c.l.map fun p => kf p.1) = (c.l.map Prod.fst).map kf := by rw [List.map_map]; rfl
  rw [e]
  exact List.Pairwise.map _ (fun a b h z => h (K.inj _ _ z)) c.nd
theorem Run.setkK [DecidableEq κ] {kf : κ → Key} {kd : κ → D} (K : Kf kf kd) {ek : E} {c c' : Dc κ β} {k : κ} {v : β} (hx : c.putO k v = some c') (he : X Γ e r (Sh.fz g v) r1) (h0 : r1[n]? = some (some (oDK kf g c))) (hk : X Γ ek r1 (Sh.fz kd k) r2) (h1 : r2[n]? = some (some (oDK kf g c))) (hr : r2.set n (some (oDK kf g c')) = r3) (kk : Run Γ ss r3 Q) : Run Γ (.setk (.sl n) ek e :: ss) r Q := by
  unfold Dc.putO at hx
  split at hx
  · rename_i hl
    have hx := Option.some.inj hx
    subst hx
    refine Run.step (r1 := r3) ?_ kk
    have e0 : S.sem Γ (.setk (.sl n) ek e) r = (e.sem Γ r).out fun (w, r1) => ((Pl.sl n).sem Γ r1).out fun (q, r2) => (ek.sem Γ r2).out fun (x, r3) => match onD r3 q x w with
      | some r4 => .nx r4
      | none => .bad := rfl
    rw [e0, he]
    show (((Pl.sl n).sem Γ r1).out _) = _
    rw [pl_slot h0]
    show ((ek.sem Γ r1).out _) = _
    rw [hk]
    show (match onD r2 (n, []) (Sh.fz kd k) (Sh.fz g v) with
      | some r4 => Out.nx r4
      | none => .bad) = _
    have eo : onD r2 (n, []) (Sh.fz kd k) (Sh.fz g v) = some (r2.set n (some (oDK kf g (c.put k v)))) := by
      obtain ⟨ks, hks⟩ : ∃ ks, ks = c.l.map fun p => kf p.1 := ⟨_, rfl⟩
      obtain ⟨vs, hvs⟩ : ∃ vs, vs = c.l.map fun p => W.fl (g p.2) := ⟨_, rfl⟩
      have eO : oDK kf g c = .nd (.dK ks) vs := by rw [hks, hvs]; rfl
      rw [eO] at h1
      unfold onD
      rw [eget_slot h1]
      show (match (kd k).key with
        | some x => if (small vs.length && decide (ks.length = vs.length) && decide ks.Nodup && ((r2[n]?.getD none).bind fun x => x.sub []).isSome) = true then some (W.setAt r2 n [] (.nd (.dK (putZ ks vs x (Sh.fz g v)).1) (putZ ks vs x (Sh.fz g v)).2)) else none
        | none => none) = _
      rw [K.key]
      have t : (small vs.length && decide (ks.length = vs.length) && decide ks.Nodup && ((r2[n]?.getD none).bind fun x => x.sub []).isSome) = true := by
        have n1 : small vs.length = true := small_of (by rw [hvs, List.length_map]; omega)
        have n2 : decide (ks.length = vs.length) = true := decide_eq_true (by rw [hks, hvs]; simp)
        have n3 : decide ks.Nodup = true := decide_eq_true (by rw [hks]; exact kf_nd K)
        rw [n1, n2, n3, h1]
        show ((W.sub (.nd (.dK ks) vs) []).isSome) = true
        rw [W.sub_nil]
        rfl
      show (if _ then _ else _) = _
      rw [if_pos t, hks, hvs, putZ_lput K]
      show some (W.setAt r2 n [] (oDK kf g (c.put k v))) = _
      unfold W.setAt
      rw [h1]
      rfl
    rw [eo, hr]
  · cases hx
end
end Sh
end Vx
end

section
set_option maxHeartbeats 4000000
/-! Sh 6: the law's box. -/
namespace Vx
open PySem L2
namespace Sh
def holdS (is : List Nat) (s : S) : S := .hold is s.mods [s]
def N_law_take : List Str := ["_law_box_here", "_law_size", "_law_left", "_law_cell"]
def b_law_take : List S := [.seti (.sl 0) (.con (.int 3)) (.op .add [(.bo (.ix (.sl 0) (.con (.int 3)))), (.tm (.con (.int 1)))]),
.iff (.op .gt [(.bo (.ix (.sl 0) (.con (.int 2)))), (.tm (.con (.int 0)))])
[.asg 2 (.gt (.ix (.sl 0) (.con (.int 2)))),
.seti (.sl 0) (.con (.int 2)) (.op .fdiv [(.bo (.sl 2)), (.bo (.sl 1))]),
.ret (.op .mod [(.bo (.sl 2)), (.bo (.sl 1))])]
[],
.iff (.op .ge [(.bo (.ix (.sl 0) (.con (.int 1)))), (.tm (.op .len [(.bo (.ix (.sl 0) (.con (.int 0))))]))])
[.ret (.op .mod [(.tm (.call 1 [(.va (.gt (.ix (.sl 0) (.con (.int 4))))), (.va (.gt (.ix (.sl 0) (.con (.int 3)))))])), (.bo (.sl 1))])]
[],
.asg 3 (.gt (.ix (.ix (.sl 0) (.con (.int 0))) (.gt (.ix (.sl 0) (.con (.int 1)))))),
.seti (.sl 0) (.con (.int 1)) (.op .add [(.bo (.ix (.sl 0) (.con (.int 1)))), (.tm (.con (.int 1)))]),
.iff (.op .lt [(.bo (.sl 3)), (.tm (.op .pow [(.tm (.con (.int 10))), (.tm (.con (.int 18)))]))])
[.ret (.op .mod [(.tm (.call 1 [(.va (.gt (.sl 3))), (.va (.gt (.ix (.sl 0) (.con (.int 3)))))])), (.bo (.sl 1))])]
[],
.seti (.sl 0) (.con (.int 2)) (.op .fdiv [(.bo (.sl 3)), (.bo (.sl 1))]),
.ret (.op .mod [(.bo (.sl 3)), (.bo (.sl 1))])]
def N_law_mixed : List Str := ["_law_number", "_law_turn", "_law_one", "_law_two"]
def b_law_mixed : List S := [.asg 2 (.op .mod [(.tm (.op .add [(.tm (.op .add [(.tm (.op .mul [(.bo (.sl 0)), (.tm (.con (.int 48271)))])), (.tm (.op .mul [(.bo (.sl 1)), (.tm (.con (.int 69621)))]))])), (.tm (.con (.int 12345)))])), (.tm (.con (.int 2147483647)))]),
.asg 3 (.op .mod [(.tm (.op .add [(.tm (.op .add [(.tm (.op .mul [(.bo (.sl 2)), (.tm (.op .add [(.tm (.op .mod [(.bo (.sl 2)), (.tm (.con (.int 65521)))])), (.tm (.con (.int 7)))]))])), (.tm (.op .mul [(.bo (.sl 1)), (.tm (.con (.int 40692)))]))])), (.tm (.op .mod [(.bo (.sl 0)), (.tm (.con (.int 104729)))]))])), (.tm (.con (.int 998244353)))]),
.ret (.op .fdiv [(.bo (.sl 3)), (.tm (.con (.int 7)))])]
def m1 (n t : Int) : Int := (n * 48271 + t * 69621 + 12345) % 2147483647
def mixed (n t : Int) : Int := (m1 n t * (m1 n t % 65521 + 7) + t * 40692 + n % 104729) % 998244353 / 7
theorem mixed_run (Γ : Den) (n t : Int) : runF Γ 4 [] b_law_mixed [.fl (.int n), .fl (.int t)] = .ok (.fl (.int (mixed n t))) [] := by
  have a1 : small64 48271 = true := by decide
  have a2 : small64 69621 = true := by decide
  have a3 : small64 40692 = true := by decide
  have a4 : small64 ((n * 48271 + t * 69621 + 12345) % 2147483647) = true := small64_of (by omega) (by omega)
  simp [runF, b_law_mixed, eget, Rop.run, on2I, pI, Vx.W.dat, Vx.W.fzT, D.flat, a1, a2, a3, a4, ioBack, mixed, m1, Res.out]
structure Bx where
  ls : List Int
  hl : ls.length ≤ 63
  p : Nat
  left : Int
  turn : Int
  seed : Int
def Bx.w (b : Bx) : W := boxW b.ls b.p b.left b.turn b.seed
def take (b : Bx) (z : Int) : Int × Bx :=
  if 0 < b.left then (b.left % z, { b with left := b.left / z, turn := b.turn + 1 })
  else if h : b.p < b.ls.length then
    (if b.ls[b.p] < 10 ^ 18 then (mixed b.ls[b.p] (b.turn + 1) % z, { b with p := b.p + 1, turn := b.turn + 1 })
    else (b.ls[b.p] % z, { b with p := b.p + 1, left := b.ls[b.p] / z, turn := b.turn + 1 }))
  else (mixed b.seed (b.turn + 1) % z, { b with turn := b.turn + 1 })
def s_law_take (b : Bx) (z : Int) : Option (Int × Bx) := if 0 < z ∧ z < 1073741824 then some (take b z) else none
theorem take_run {Γ : Den} (mx : ∀ n t, Γ 1 [.fl (.int n), .fl (.int t)] = .ok (.fl (.int (mixed n t))) []) {b : Bx} {z : Int} {v : Int × Bx} (h : s_law_take b z = some v) : runF Γ 4 [0] b_law_take [b.w, .fl (.int z)] = .ok (.fl (.int v.1)) [v.2.w] := by
  unfold s_law_take at h
  split at h
  · rename_i hz
    obtain ⟨h1, h2⟩ := hz
    rw [← Option.some.inj h]
    obtain ⟨ls, hl, p, left, turn, seed⟩ := b
    by_cases c1 : 0 < left
    · simp [runF, b_law_take, eget, Rop.run, on2I, on1, on2, pI, pB, Vx.W.dat, Vx.W.fzT, D.flat, ioBack, Bx.w, boxW, stepIx, Vx.W.kids, ixN, onL, Vx.W.sub, small, Vx.W.setAt, Vx.W.put, Vx.W.lenD, mx, take, c1, h1, h2, W.isFl]
    · by_cases c2 : p < ls.length
      · have c3 : ¬ (ls.length ≤ p) := by omega
        by_cases c4 : ls[p] < 1000000000000000000
        · simp [runF, b_law_take, eget, Rop.run, on2I, on1, on2, pI, pB, Vx.W.dat, Vx.W.fzT, D.flat, ioBack, Bx.w, boxW, stepIx, Vx.W.kids, ixN, onL, Vx.W.sub, small, Vx.W.setAt, Vx.W.put, Vx.W.lenD, mx, take, c1, c2, c3, c4, h1, h2, W.isFl, takeIo, putIo]
        · simp [runF, b_law_take, eget, Rop.run, on2I, on1, on2, pI, pB, Vx.W.dat, Vx.W.fzT, D.flat, ioBack, Bx.w, boxW, stepIx, Vx.W.kids, ixN, onL, Vx.W.sub, small, Vx.W.setAt, Vx.W.put, Vx.W.lenD, mx, take, c1, c2, c3, c4, h1, h2, W.isFl, takeIo, putIo]
      · have c3 : ls.length ≤ p := by omega
        simp [runF, b_law_take, eget, Rop.run, on2I, on1, on2, pI, pB, Vx.W.dat, Vx.W.fzT, D.flat, ioBack, Bx.w, boxW, stepIx, Vx.W.kids, ixN, onL, Vx.W.sub, small, Vx.W.setAt, Vx.W.put, Vx.W.lenD, mx, take, c1, c2, c3, h1, h2, W.isFl, takeIo, putIo]
  · cases h
/-! what holds of what is computed -/
/-- it comes to an end, and P holds of the end -/
def Wl {α : Type} (o : Option α) (P : α → Prop) : Prop := ∃ v, o = some v ∧ P v
section
variable {α β γ σ ρ τ : Type} {P : α → Prop} {Q : β → Prop}
theorem Wl.of {a : α} (h : P a) : Wl (some a) P := ⟨a, rfl, h⟩
theorem Wl.bind {o : Option α} {f : α → Option β} (h : Wl o P) (k : ∀ v, P v → Wl (f v) Q) : Wl (ob o f) Q := by
  obtain ⟨v, e, p⟩ := h
  rw [e]
  exact k v p
theorem Wl.mono {o : Option α} {P' : α → Prop} (h : Wl o P) (k : ∀ v, P v → P' v) : Wl o P' := by
  obtain ⟨v, e, p⟩ := h
  exact ⟨v, e, k v p⟩
theorem Wl.ite {b : Bool} {x y : Option α} (h1 : b = true → Wl x P) (h2 : b = false → Wl y P) : Wl (if b = true then x else y) P := by
  cases b with
  | true => exact h1 rfl
  | false => exact h2 rfl
theorem Wl.eq {o : Option α} {a : α} (h : Wl o (· = a)) : o = some a := by
  obtain ⟨v, e, rfl⟩ := h
  exact e
theorem Wl.get {o : Option α} (h : Wl o P) : ∃ v, o = some v ∧ P v := h
theorem ok_take {b : Bx} {z : Int} (h1 : 0 < z) (h2 : z < 1073741824) : Wl (s_law_take b z) fun p => 0 ≤ p.1 ∧ p.1 < z := by
  refine ⟨take b z, by unfold s_law_take; rw [if_pos ⟨h1, h2⟩], ?_⟩
  unfold take
  split
  · exact ⟨Int.emod_nonneg _ (by omega), Int.emod_lt_of_pos _ h1⟩
  · split
    · split
      · exact ⟨Int.emod_nonneg _ (by omega), Int.emod_lt_of_pos _ h1⟩
      · exact ⟨Int.emod_nonneg _ (by omega), Int.emod_lt_of_pos _ h1⟩
    · exact ⟨Int.emod_nonneg _ (by omega), Int.emod_lt_of_pos _ h1⟩
/-- what holds of an end, of a going on -/
def Ends {ρ σ : Type} (R : ρ → Prop) (J : σ → Prop) : ρ ⊕ σ → Prop
  | .inl v => R v
  | .inr s => J s
/-- a loop's invariant: over what was gone through and what is left -/
theorem ok_forS {F : γ → σ → Option σ} (I : List γ → List γ → σ → Prop) (step : ∀ pre x post s, I pre (x :: post) s → Wl (F x s) (I (pre ++ [x]) post)) : ∀ (xs : List γ) (pre : List γ) (s : σ), I pre xs s → Wl (forS F xs s) (I (pre ++ xs) [])
  | [], pre, s, h => ⟨s, rfl, by rw [List.append_nil]; exact h⟩
  | x :: xs, pre, s, h => by
    obtain ⟨s1, e, h1⟩ := step pre x xs s h
    have := ok_forS I step xs (pre ++ [x]) s1 h1
    rw [List.append_assoc] at this
    show Wl (ob (F x s) fun s' => forS F xs s') _
    rw [e]
    exact this
theorem ok_forO {F : γ → σ → Option (ρ ⊕ σ)} (I : List γ → List γ → σ → Prop) {R : ρ → Prop} (step : ∀ pre x post s, I pre (x :: post) s → Wl (F x s) (Ends R (I (pre ++ [x]) post))) : ∀ (xs : List γ) (pre : List γ) (s : σ), I pre xs s → Wl (forO F xs s) (Ends R (I (pre ++ xs) []))
  | [], pre, s, h => ⟨.inr s, rfl, by rw [List.append_nil]; exact h⟩
  | x :: xs, pre, s, h => by
    obtain ⟨o, e, h1⟩ := step pre x xs s h
    show Wl (ob (F x s) _) _
    rw [e]
    cases o with
    | inl v => exact ⟨.inl v, rfl, h1⟩
    | inr s1 =>
      have := ok_forO I step xs (pre ++ [x]) s1 h1
      rw [List.append_assoc] at this
      exact this
theorem ok_orn {o : ρ ⊕ σ} {k : σ → Option ρ} {R : ρ → Prop} {J : σ → Prop} (h : Ends R J o) (hk : ∀ s, J s → Wl (k s) R) : Wl (orn o k) R := by
  cases o with
  | inl v => exact ⟨v, rfl, h⟩
  | inr s => exact hk s h
theorem ok_ornS {o : ρ ⊕ σ} {k : σ → Option (ρ ⊕ τ)} {R : ρ → Prop} {J : σ → Prop} {J' : τ → Prop} (h : Ends R J o) (hk : ∀ s, J s → Wl (k s) (Ends R J')) : Wl (ornS o k) (Ends R J') := by
  cases o with
  | inl v => exact ⟨.inl v, rfl, h⟩
  | inr s => exact hk s h
theorem Ends.l {v : ρ} {R : ρ → Prop} {J : σ → Prop} (h : R v) : Wl (some (.inl v : ρ ⊕ σ)) (Ends R J) := ⟨_, rfl, h⟩
theorem Ends.r {v : σ} {R : ρ → Prop} {J : σ → Prop} (h : J v) : Wl (some (.inr v : ρ ⊕ σ)) (Ends R J) := ⟨_, rfl, h⟩
/-- a loop with an end, and what follows -/
theorem ok_loop {F : γ → σ → Option (ρ ⊕ σ)} {xs : List γ} {s : σ} {k : σ → Option ρ} {R : ρ → Prop} (I : List γ → List γ → σ → Prop) (h0 : I [] xs s) (step : ∀ pre x post s, I pre (x :: post) s → Wl (F x s) (Ends R (I (pre ++ [x]) post))) (hk : ∀ s, I xs [] s → Wl (k s) R) : Wl (ob (forO F xs s) fun o => orn o k) R :=
  Wl.bind (ok_forO I step xs [] s h0) fun o ho => ok_orn ho hk
theorem ok_loopS {F : γ → σ → Option (ρ ⊕ σ)} {xs : List γ} {s : σ} {k : σ → Option (ρ ⊕ τ)} {R : ρ → Prop} {J' : τ → Prop} (I : List γ → List γ → σ → Prop) (h0 : I [] xs s) (step : ∀ pre x post s, I pre (x :: post) s → Wl (F x s) (Ends R (I (pre ++ [x]) post))) (hk : ∀ s, I xs [] s → Wl (k s) (Ends R J')) : Wl (ob (forO F xs s) fun o => ornS o k) (Ends R J') :=
  Wl.bind (ok_forO I step xs [] s h0) fun o ho => ok_ornS ho hk
theorem ok_rng0 {n : Int} (h : -100000000000 ≤ n ∧ n ≤ 100000000000) : Wl (rngO 0 n) (· = rgI 0 n) := ⟨_, if_pos ⟨by decide, decide_eq_true h⟩, rfl⟩
theorem ok_rng {m n : Int} (h1 : -100000000000 ≤ m ∧ m ≤ 100000000000) (h2 : -100000000000 ≤ n ∧ n ≤ 100000000000) : Wl (rngO m n) (· = rgI m n) := ⟨_, if_pos ⟨decide_eq_true h1, decide_eq_true h2⟩, rfl⟩
theorem ok_rngL {m n : Int} (h : -100000 ≤ m ∧ m ≤ 100000 ∧ -100000 ≤ n ∧ n ≤ 100000) : Wl (rngL m n) (· = rgI m n) := ⟨_, if_pos h, rfl⟩
theorem ok_app {xs : List α} {x : α} (h : xs.length < 100000) : Wl (appO xs x) (· = xs ++ [x]) := ⟨_, if_pos (by omega), rfl⟩
theorem ok_cat {xs ys : List α} (h : xs.length + ys.length ≤ 100000) : Wl (catO xs ys) (· = xs ++ ys) := ⟨_, if_pos h, rfl⟩
theorem ok_ins {xs : List α} {x : α} {i : Int} (h0 : 0 ≤ i) (h1 : i < 2 ^ 63) (h : xs.length < 100000) : Wl (insO xs i x) (· = xs.take i.toNat ++ x :: xs.drop i.toNat) := ⟨_, if_pos ⟨h0, h1, by omega⟩, rfl⟩
theorem ok_mapC {F : α → β} {xs : List α} (h : xs.length ≤ 100000) : Wl (mapC F xs) (· = xs.map F) := ⟨_, if_pos h, rfl⟩
theorem ok_filC {p : α → Bool} {F : α → β} {xs : List α} (h : xs.length ≤ 100000) : Wl (filC p F xs) (· = (xs.filter p).map F) := ⟨_, if_pos h, rfl⟩
theorem ok_lenOk {xs : List α} (h : xs.length ≤ 100000) : Wl (lenOk xs) fun _ => True := ⟨(), if_pos h, trivial⟩
theorem at_nat {xs : List α} {i : Nat} (h : i < xs.length) : atI xs (i : Int) = some xs[i] := by
  unfold atI ixN
  rw [if_pos (by omega), if_pos (by omega)]
  simp [h]
theorem ok_at {xs : List α} {i : Int} (h0 : 0 ≤ i) (h1 : i < xs.length) : Wl (atI xs i) fun x => ∃ h : i.toNat < xs.length, x = xs[i.toNat] := by
  have e : i = ((i.toNat : Nat) : Int) := by omega
  exact ⟨xs[i.toNat]'(by omega), (congrArg (atI xs) e).trans (at_nat (by omega)), by omega, rfl⟩
theorem ok_mem {xs : List α} {i : Int} (h0 : 0 ≤ i) (h1 : i < xs.length) : Wl (atI xs i) fun x => x ∈ xs := (ok_at h0 h1).mono fun v ⟨h, e⟩ => by rw [e]; exact List.getElem_mem h
theorem rgI_len (m n : Int) : (rgI m n).length = (n - m).toNat := by simp [rgI]
theorem mem_rgI {m n k : Int} : k ∈ rgI m n ↔ m ≤ k ∧ k < n := by
  unfold rgI
  simp only [List.mem_map, List.mem_range]
  constructor
  · rintro ⟨i, h, rfl⟩
    omega
  · rintro ⟨h1, h2⟩
    exact ⟨(k - m).toNat, by omega, by omega⟩
theorem ok_lcG {F : γ → σ → Option (Option β × σ)} (I : List γ → List β → σ → Prop) : ∀ (xs pre : List γ) (ys : List β) (s : σ), (∀ pre x post ys s, pre ++ x :: post = pre ++ x :: post → I pre ys s → Wl (F x s) fun p => I (pre ++ [x]) (match p.1 with
    | some y => ys ++ [y]
    | none => ys) p.2) → I pre ys s → Wl (lcG F xs s) fun q => I (pre ++ xs) (ys ++ q.1) q.2
  | [], pre, ys, s, _, h => ⟨([], s), rfl, by simpa using h⟩
  | x :: xs, pre, ys, s, step, h => by
    obtain ⟨⟨o, s1⟩, e, h1⟩ := step pre x xs ys s rfl h
    obtain ⟨⟨zs, s2⟩, e2, h2⟩ := ok_lcG I xs (pre ++ [x]) _ s1 step h1
    show Wl (ob (F x s) fun p => ob (lcG F xs p.2) fun q => some (match p.1 with
      | some y => (y :: q.1, q.2)
      | none => q)) _
    rw [e]
    show Wl (ob (lcG F xs s1) fun q => some (match o with
      | some y => (y :: q.1, q.2)
      | none => q)) _
    rw [e2]
    refine ⟨_, rfl, ?_⟩
    rw [List.append_assoc] at h2
    cases o with
    | none => exact h2
    | some y =>
      have : (ys ++ [y]) ++ zs = ys ++ y :: zs := by simp
      show I (pre ++ x :: xs) (ys ++ y :: zs) s2
      rw [← this]
      exact h2
end
end Sh
end Vx
end

section
set_option maxHeartbeats 4000000
/-! Sh 7: a row's defs, one by one. -/
namespace Vx
open PySem L2
namespace Sh
abbrev FnP (K : PySem.W.Frag) (x : Str) (st : Stmt) (f : Addr) (fd : FuncData) : Prop := FunD K x x (defArgs st) (defBody st) (defScope st) [] [] f fd
def gx (K : PySem.W.Frag) : Gx := ⟨K, fun _ => 0⟩
theorem mem0 {α : Type} {p : α → Prop} : ∀ g ∈ ([] : List α), p g := fun g hg => by cases hg
theorem memC {α : Type} {p : α → Prop} {a : α} {l : List α} (h : p a) (t : ∀ g ∈ l, p g) : ∀ g ∈ a :: l, p g := fun g hg => by
  rcases List.mem_cons.mp hg with z | z
  · rw [z]
    exact h
  · exact t g z
theorem ioW {b : List S} {io : List Nat} (h : (io.all fun i => !(S.wrL b).contains i) = true) : ∀ i ∈ io, i ∉ S.wrL b := fun i hi z => by
  have := List.all_eq_true.mp h i hi
  rw [List.contains_iff_mem.mpr z] at this
  cases this
section
variable {P : Program} {w : World} {K : PySem.W.Frag} {mg : Str → Option Value} {base : Heap}
/-- one def of the row, by its number and its place -/
theorem one_okG {c : Gx} {x qual : Str} {params : Arguments} {body : List Stmt} {scope : Scope} {Dn : Nat → Den} {n : Nat} {f : Fn} {k : Ck} {ps : List Str} {a : Addr} {fd : FuncData} {b : List S} (F : FunD K x qual params body scope [] [] a fd) (Sc : FnScope k.N ps scope) (hs : k.sc = scope) (hchk : S.chks b k body = true)
    (hK : K = c.K) (hc : ∀ p ∈ k.cons, ∃ u, mg p.1 = some u ∧ RelV p.2.v u) (hclss : ∀ q ∈ k.clss, ClOk c K mg q) (htups : ∀ p ∈ k.tups, ∃ a, mg p.1 = some (.ref a) ∧ ∀ H, SqT K H a (p.2.map V.str))
    (hfree : ∀ x ∈ bNames, mg x = none) (hg : FAt c K mg f a) (hfns : ∀ g ∈ k.fns, FT c (Dn n) P w K mg base (3 * n) g) (hro : f.ro.Nodup ∧ ∀ i ∈ f.ro, i ∉ S.modsL b ∧ i ∉ f.io) (hex : f.ro = [] ∨ ∀ ws cl p us, Dn (n + 1) f.id ws ≠ .ex cl p us) (hio : f.io.Nodup) (hw : ∀ i ∈ f.io, i ∉ S.wrL b) (hden : ∀ ws, ws.length = ps.length → Dn (n + 1) f.id ws ≠ .bad → runF (Dn n) k.N.length f.io b ws = Dn (n + 1) f.id ws) (hps : ps.length = f.ar)
    (hb : ∀ (kV doc pm : Value) (an : Option Addr) (cdv ct : Value) (us : List Value), us.length = ps.length → bindArgs (PySem.W.fnOf x qual params body scope .none kV doc pm an cdv ct) ⟨us, []⟩ = pure (ps.zip us)) :
    FT c (Dn (n + 1)) P w K mg base (3 * (n + 1)) f := by
  have q := fn_ok (c := c) (Γ := Dn n) (P := P) (w := w) (mg := mg) (base := base) (ro := f.ro) (den := Dn (n + 1) f.id) F Sc hK hfree hc hfns hclss htups rfl hs hchk hro hex hio hw hden
  rw [hps] at q
  exact ⟨a, fd, ps, q, hps, hg, F.kp, F.bindsN hb⟩
theorem one_ok {Dn : Nat → Den} {T : Nat → Stmt} {n : Nat} {f : Fn} {i : Nat} {k : Ck} {ps : List Str} {a : Addr} {fd : FuncData} {b : List S} (F : FnP K f.name (T i) a fd) (Sc : FnScope k.N ps (defScope (T i))) (hs : k.sc = defScope (T i)) (hchk : S.chks b k (defBody (T i)) = true) (hc : k.cons = [])
    (hfree : ∀ x ∈ bNames, mg x = none) (hg : mg f.name = some (.ref a)) (hfns : ∀ g ∈ k.fns, FT (gx K) (Dn n) P w K mg base (3 * n) g) (hio : f.io.Nodup) (hw : ∀ i ∈ f.io, i ∉ S.wrL b) (hden : ∀ ws, Dn (n + 1) f.id ws = runF (Dn n) k.N.length f.io b ws) (hps : ps.length = f.ar)
    (hb : ∀ (kV doc pm : Value) (an : Option Addr) (cdv ct : Value) (us : List Value), us.length = ps.length → bindArgs (PySem.W.fnOf f.name f.name (defArgs (T i)) (defBody (T i)) (defScope (T i)) .none kV doc pm an cdv ct) ⟨us, []⟩ = pure (ps.zip us))
    (hcl : f.cl = none := by rfl) (hro : f.ro = [] := by rfl) (hks : k.clss = [] := by rfl) (hkt : k.tups = [] := by rfl) :
    FT (gx K) (Dn (n + 1)) P w K mg base (3 * (n + 1)) f :=
  one_okG (c := gx K) F Sc hs hchk rfl (fun p hp => by rw [hc] at hp; cases hp) (fun p hp => by rw [hks] at hp; cases hp) (fun p hp => by rw [hkt] at hp; cases hp) hfree (by unfold FAt; rw [hcl]; exact hg) hfns (by rw [hro]; exact ⟨List.nodup_nil, fun i hi => by cases hi⟩) (.inl hro) hio hw (fun ws _ _ => (hden ws).symm) hps hb
end
end Sh
end Vx
end

section
set_option maxHeartbeats 1000000
/-! Sh 8: loops over ranges, whiles, by what holds. -/
namespace Vx
open PySem L2
namespace Sh
section
variable {α β γ σ ρ τ : Type}
theorem rgI_split {m n : Int} {pre post : List Int} {x : Int} (h : pre ++ x :: post = rgI m n) : x = m + pre.length ∧ pre.length + (post.length + 1) = (n - m).toNat := by
  have hl := congrArg List.length h
  rw [rgI_len] at hl
  simp only [List.length_append, List.length_cons] at hl
  refine ⟨?_, hl⟩
  have h1 : (pre ++ x :: post)[pre.length]? = some x := by simp
  rw [h] at h1
  unfold rgI at h1
  rw [List.getElem?_map, List.getElem?_range (by omega)] at h1
  have h2 : some (m + (pre.length : Int)) = some x := h1
  exact (Option.some.inj h2).symm
theorem ok_forR {F : Int → σ → Option σ} {m n : Int} {s : σ} (I : Nat → σ → Prop) (h0 : I 0 s) (step : ∀ (k : Nat) (s : σ), k < (n - m).toNat → I k s → Wl (F (m + k) s) (I (k + 1))) : Wl (forS F (rgI m n) s) (I (n - m).toNat) := by
  refine (ok_forS (fun pre post s => pre ++ post = rgI m n ∧ I pre.length s) ?_ (rgI m n) [] s ⟨rfl, h0⟩).mono fun v hv => ?_
  · rintro pre x post s ⟨h1, h2⟩
    obtain ⟨e1, e2⟩ := rgI_split h1
    subst e1
    refine (step pre.length s (by omega) h2).mono fun v hv => ⟨by rw [← h1]; simp, by simpa using hv⟩
  · have h := hv.2
    rw [List.nil_append, rgI_len] at h
    exact h
theorem ok_loopR {F : Int → σ → Option (ρ ⊕ σ)} {m n : Int} {s : σ} {k : σ → Option ρ} {R : ρ → Prop} (I : Nat → σ → Prop) (h0 : I 0 s) (step : ∀ (k : Nat) (s : σ), k < (n - m).toNat → I k s → Wl (F (m + k) s) (Ends R (I (k + 1)))) (hk : ∀ s, I (n - m).toNat s → Wl (k s) R) : Wl (ob (forO F (rgI m n) s) fun o => orn o k) R := by
  refine ok_loop (fun pre post s => pre ++ post = rgI m n ∧ I pre.length s) ⟨rfl, h0⟩ ?_ fun s hs => ?_
  · rintro pre x post s ⟨h1, h2⟩
    obtain ⟨e1, e2⟩ := rgI_split h1
    subst e1
    refine (step pre.length s (by omega) h2).mono fun v hv => ?_
    cases v with
    | inl v => exact hv
    | inr s =>
      have hv' : I (pre.length + 1) s := hv
      exact ⟨by rw [← h1]; simp, by simpa using hv'⟩
  · have h := hs.2
    rw [rgI_len] at h
    exact hk s h
theorem ok_loopRS {F : Int → σ → Option (ρ ⊕ σ)} {m n : Int} {s : σ} {k : σ → Option (ρ ⊕ τ)} {R : ρ → Prop} {J : τ → Prop} (I : Nat → σ → Prop) (h0 : I 0 s) (step : ∀ (k : Nat) (s : σ), k < (n - m).toNat → I k s → Wl (F (m + k) s) (Ends R (I (k + 1)))) (hk : ∀ s, I (n - m).toNat s → Wl (k s) (Ends R J)) : Wl (ob (forO F (rgI m n) s) fun o => ornS o k) (Ends R J) := by
  refine ok_loopS (fun pre post s => pre ++ post = rgI m n ∧ I pre.length s) ⟨rfl, h0⟩ ?_ fun s hs => ?_
  · rintro pre x post s ⟨h1, h2⟩
    obtain ⟨e1, e2⟩ := rgI_split h1
    subst e1
    refine (step pre.length s (by omega) h2).mono fun v hv => ?_
    cases v with
    | inl v => exact hv
    | inr s =>
      have hv' : I (pre.length + 1) s := hv
      exact ⟨by rw [← h1]; simp, by simpa using hv'⟩
  · have h := hs.2
    rw [rgI_len] at h
    exact hk s h
theorem ok_whl {C : σ → Option Bool} {F : σ → Option σ} {R : σ → Prop} (I : σ → Prop) (ms : σ → Nat) (h : ∀ s, I s → ∃ b, C s = some b ∧ (b = true → Wl (F s) fun s' => I s' ∧ ms s' < ms s) ∧ (b = false → R s)) : ∀ (n : Nat) (s : σ), I s → ms s < n → Wl (whlS C F n s) R
  | 0, s, _, hm => by omega
  | n + 1, s, hi, hm => by
    obtain ⟨b, e, h1, h2⟩ := h s hi
    show Wl (ob (C s) fun b => if b = true then ob (F s) fun s' => whlS C F n s' else some s) R
    rw [e]
    show Wl (if b = true then ob (F s) fun s' => whlS C F n s' else some s) R
    refine Wl.ite (fun c => ?_) fun c => Wl.of (h2 c)
    exact Wl.bind (h1 c) fun s' hs => ok_whl I ms h n s' hs.1 (by omega)
theorem lcX_go {F : γ → σ → Option (Option β × σ)} {xs : List γ} (I : List γ → List β → σ → Prop) (step : ∀ pre x post ys s, pre ++ x :: post = xs → I pre ys s → Wl (F x s) fun p => I (pre ++ [x]) (match p.1 with
    | some y => ys ++ [y]
    | none => ys) p.2) : ∀ (rest pre : List γ) (ys : List β) (s : σ), pre ++ rest = xs → I pre ys s → Wl (lcG F rest s) fun q => I xs (ys ++ q.1) q.2
  | [], pre, ys, s, e, h => ⟨([], s), rfl, by
    rw [List.append_nil] at e
    rw [← e, List.append_nil]
    exact h⟩
  | x :: rest, pre, ys, s, e, h => by
    obtain ⟨⟨o, s1⟩, e1, h1⟩ := step pre x rest ys s e h
    obtain ⟨⟨zs, s2⟩, e2, h2⟩ := lcX_go I step rest (pre ++ [x]) _ s1 (by rw [← e]; simp) h1
    show Wl (ob (F x s) fun p => ob (lcG F rest p.2) fun q => some (match p.1 with
      | some y => (y :: q.1, q.2)
      | none => q)) _
    rw [e1]
    show Wl (ob (lcG F rest s1) fun q => some (match o with
      | some y => (y :: q.1, q.2)
      | none => q)) _
    rw [e2]
    refine ⟨_, rfl, ?_⟩
    cases o with
    | none => exact h2
    | some y =>
      have : (ys ++ [y]) ++ zs = ys ++ y :: zs := by simp
      show I xs (ys ++ y :: zs) s2
      rw [← this]
      exact h2
theorem ok_lcX {F : γ → σ → Option (Option β × σ)} {xs : List γ} {s : σ} (I : List γ → List β → σ → Prop) (h0 : I [] [] s) (step : ∀ pre x post ys s, pre ++ x :: post = xs → I pre ys s → Wl (F x s) fun p => I (pre ++ [x]) (match p.1 with
    | some y => ys ++ [y]
    | none => ys) p.2) : Wl (lcG F xs s) fun q => I xs q.1 q.2 := (lcX_go I step xs [] [] s rfl h0).mono fun q h => by simpa using h
theorem ok_atN {xs : List α} {i : Int} (k : Nat) (e : i = k) (h : k < xs.length) : Wl (atI xs i) (· = xs[k]) := by
  subst e
  exact ⟨_, at_nat h, rfl⟩
theorem Wl.ob' {o : Option α} {a : α} {f : α → Option β} {Q : β → Prop} (h : o = some a) (k : Wl (f a) Q) : Wl (ob o f) Q := by
  rw [h]
  exact k
theorem leastI_le : ∀ {ns : List Int} {n : Int}, leastI ns = some n → (∀ x ∈ ns, n ≤ x) ∧ n ∈ ns
  | [], n, h => by cases h
  | x :: xs, n, h => by
    have e : xs.foldl min x = n := Option.some.inj h
    have key : ∀ (xs : List Int) (x : Int), (∀ y ∈ x :: xs, xs.foldl min x ≤ y) ∧ xs.foldl min x ∈ x :: xs := by
      intro xs
      induction xs with
      | nil => intro x; simp
      | cons z xs ih =>
        intro x
        obtain ⟨i1, i2⟩ := ih (min x z)
        have hm := i1 (min x z) List.mem_cons_self
        refine ⟨fun y hy => ?_, ?_⟩
        · show xs.foldl min (min x z) ≤ y
          rcases List.mem_cons.mp hy with c | c
          · subst c
            omega
          · rcases List.mem_cons.mp c with c | c
            · subst c
              omega
            · exact i1 y (List.mem_cons_of_mem _ c)
        · show xs.foldl min (min x z) ∈ _
          rcases List.mem_cons.mp i2 with c | c
          · rw [c]
            rcases Int.le_total x z with d | d
            · rw [Int.min_eq_left d]; simp
            · rw [Int.min_eq_right d]; simp
          · exact List.mem_cons_of_mem _ (List.mem_cons_of_mem _ c)
    rw [← e]
    exact key xs x
theorem ok_least {ns : List Int} (h : ns ≠ []) : Wl (leastI ns) fun n => (∀ x ∈ ns, n ≤ x) ∧ n ∈ ns := by
  cases ns with
  | nil => exact absurd rfl h
  | cons x xs => exact ⟨_, rfl, leastI_le rfl⟩
end
end Sh
end Vx
end

section

namespace Vx
open PySem L2
namespace Sh
section
variable {Γ : Den} {r r1 r2 r3 r4 : Env} {w u wa wb : W} {d : D} {α β κ σ ρ : Type} {f : α → D} {g : β → D} {x y : α} {xs ys : List α} {i j : Int} {e e2 : E} {s : S} {ss : List S} {Q : Out → Prop} {n : Nat} {p : Bool} {a b : O} {ra rb : Option Nat}
theorem eqF_B (n p q : Bool) : eqF? n (wB p) (wB q) = pB (n != decide (p = q)) := by
  unfold eqF?
  show (if scal (V.bl p) (V.bl q) then pB (n != decide (V.bl p = V.bl q)) else none) = _
  simp [scal]
theorem X.eqB {p q : Bool} (ha : OV Γ a r ra (wB p) r1) (hb : OV Γ b r1 rb (wB q) r2) (hk : Keep ra r1 r2) : X Γ (.op .eqF [a, b]) r (wB (decide (p = q))) r2 := by
  refine X.op2 (w := wB (decide (p = q))) ha hb hk ?_
  show eqF? false (wB p) (wB q) = _
  rw [eqF_B]
  simp
theorem X.neB {p q : Bool} (ha : OV Γ a r ra (wB p) r1) (hb : OV Γ b r1 rb (wB q) r2) (hk : Keep ra r1 r2) : X Γ (.op .neF [a, b]) r (wB (decide (p ≠ q))) r2 := by
  refine X.op2 (w := wB (decide (p ≠ q))) ha hb hk ?_
  show eqF? true (wB p) (wB q) = _
  rw [eqF_B]
  simp
theorem pairsD_map {kf : κ → Key} {kd : κ → D} (K : Kf kf kd) : ∀ xs : List (κ × β), pairsD (xs.map (d2 kd g)) = some (xs.map fun p => (kf p.1, g p.2))
  | [] => rfl
  | q :: xs => by
    show (match (kd q.1).key, pairsD (xs.map (d2 kd g)) with
      | some x, some l => some ((x, g q.2) :: l)
      | _, _ => none) = _
    rw [K.key, pairsD_map K xs]
    rfl
def dcO [DecidableEq κ] (xs : List (κ × β)) : Option (Dc κ β) := if h : (xs.map Prod.fst).Nodup then some ⟨xs, h⟩ else none
theorem nd_keys {kf : κ → Key} {kd : κ → D} (K : Kf kf kd) : ∀ {xs : List (κ × β)}, (xs.map Prod.fst).Nodup → ((xs.map fun p => (kf p.1, g p.2)).map Prod.fst).Nodup
  | [], _ => List.nodup_nil
  | q :: xs, h => by
    rw [List.map_cons, List.map_cons, List.nodup_cons]
    rw [List.map_cons, List.nodup_cons] at h
    refine ⟨fun z => h.1 ?_, nd_keys K h.2⟩
    obtain ⟨y, hy, ey⟩ := List.mem_map.mp z
    obtain ⟨y', hy', ey'⟩ := List.mem_map.mp hy
    subst ey'
    exact List.mem_map.mpr ⟨y', hy', K.inj _ _ ey⟩
theorem X.dictOf [DecidableEq κ] {kf : κ → Key} {kd : κ → D} {xs : List (κ × β)} {c : Dc κ β} (K : Kf kf kd) (ha : OV Γ a r ra wa r1) (h : IsL (d2 kd g) xs wa) (e : dcO xs = some c) : X Γ (.op .dictOf [a]) r (oDK kf g c) r1 := by
  unfold dcO at e
  split at e
  · rename_i hn
    cases e
    refine X.op1 (w := oDK kf g ⟨xs, hn⟩) ha ?_
    show ((wa.lstD.bind pairsD).bind fun kvs => if (kvs.map (·.1)).Nodup then some (newD kvs) else none) = _
    rw [h.lstD]
    show ((pairsD (xs.map (d2 kd g))).bind fun kvs => if (kvs.map (·.1)).Nodup then some (newD kvs) else none) = _
    rw [pairsD_map K]
    show (if ((xs.map fun p => (kf p.1, g p.2)).map (·.1)).Nodup then some (newD (xs.map fun p => (kf p.1, g p.2))) else none) = _
    rw [if_pos (nd_keys K hn)]
    unfold newD oDK
    rw [List.map_map, List.map_map]
    rfl
  · cases e
end
end Sh
end Vx
end

section

namespace Vx
open PySem L2
namespace Sh
section
variable {Γ : Den} {r r1 r2 r3 r4 : Env} {w u wa wb : W} {d : D} {α β κ σ ρ : Type} {f : α → D} {g : β → D} {x y : α} {xs ys zs : List α} {i j : Int} {e e2 : E} {s : S} {ss : List S} {Q : Out → Prop} {n : Nat} {p : Bool} {a b : O} {ra rb : Option Nat}
theorem X.minD {ns : List Int} (ha : OV Γ a r ra wa r1) (hb : OV Γ b r1 rb (wI i) r2) (hk : Keep ra r1 r2) (h : IsL dI ns wa) : X Γ (.op .minD [a, b]) r (wI ((leastI ns).getD i)) r2 := by
  refine X.op2 (w := wI ((leastI ns).getD i)) ha hb hk ?_
  show ((wa.lstD.bind dInts).bind fun ns => pI ((leastI ns).getD i)) = _
  rw [h.lstD]
  show ((dInts (ns.map dI)).bind fun ns => pI ((leastI ns).getD i)) = _
  rw [dInts_map]
  rfl
theorem X.maxD {ns : List Int} (ha : OV Γ a r ra wa r1) (hb : OV Γ b r1 rb (wI i) r2) (hk : Keep ra r1 r2) (h : IsL dI ns wa) : X Γ (.op .maxD [a, b]) r (wI ((mostI ns).getD i)) r2 := by
  refine X.op2 (w := wI ((mostI ns).getD i)) ha hb hk ?_
  show ((wa.lstD.bind dInts).bind fun ns => pI ((mostI ns).getD i)) = _
  rw [h.lstD]
  show ((dInts (ns.map dI)).bind fun ns => pI ((mostI ns).getD i)) = _
  rw [dInts_map]
  rfl
def inL [DecidableEq α] (x : α) (xs : List α) : Bool := decide (x ∈ xs)
def niL [DecidableEq α] (x : α) (xs : List α) : Bool := decide (x ∉ xs)
theorem inL_iff [DecidableEq α] {x : α} {xs : List α} : inL x xs = true ↔ x ∈ xs := decide_eq_true_iff
theorem niL_iff [DecidableEq α] {x : α} {xs : List α} : niL x xs = true ↔ x ∉ xs := decide_eq_true_iff
/-- a stretch of a list, given anew -/
def slcO (xs : List α) (i j : Int) (ys : List α) : Option (List α) := if 0 ≤ i ∧ i ≤ j ∧ j ≤ (xs.length : Int) ∧ xs.length + ys.length ≤ 100000 then some (xs.take i.toNat ++ ys ++ xs.drop j.toNat) else none
theorem Run.slc {el eh : E} (hx : slcO xs i j ys = some zs) (he : X Γ e r (oL f ys) r1) (h0 : r1[n]? = some (some (oL f xs))) (hl : X Γ el r1 (wI i) r2) (hh : X Γ eh r2 (wI j) r3) (h1 : r3[n]? = some (some (oL f xs))) (hr : r3.set n (some (oL f zs)) = r4) (k : Run Γ ss r4 Q) : Run Γ (.slc (.sl n) el eh e :: ss) r Q := by
  unfold slcO at hx
  split at hx
  · rename_i hc
    obtain ⟨c1, c2, c3, c4⟩ := hc
    refine Run.step (r1 := r4) ?_ k
    have e0 : S.sem Γ (.slc (.sl n) el eh e) r = (e.sem Γ r).out fun (w, r1) => ((Pl.sl n).sem Γ r1).out fun (q, r2) => (el.sem Γ r2).out fun (a, r3) => (eh.sem Γ r3).out fun (b, r4) => match w, a, b with
      | .nd .lst ws, .fl (.int i), .fl (.int j) => if 0 ≤ i ∧ i ≤ j then (match onL r4 q fun cs => if j ≤ (cs.length : Int) ∧ small (cs.length + ws.length) = true then some (cs.take i.toNat ++ ws ++ cs.drop j.toNat) else none with
        | some r5 => .nx r5
        | none => .bad) else .bad
      | _, _, _ => .bad := rfl
    rw [e0, he]
    show (((Pl.sl n).sem Γ r1).out _) = _
    rw [pl_slot h0]
    show ((E.sem Γ el r1).out _) = _
    rw [hl]
    show ((E.sem Γ eh r2).out _) = _
    rw [hh]
    show (if 0 ≤ i ∧ i ≤ j then (match onL r3 (n, []) fun cs => if j ≤ (cs.length : Int) ∧ small (cs.length + (ys.map fun x => W.fl (f x)).length) = true then some (cs.take i.toNat ++ (ys.map fun x => W.fl (f x)) ++ cs.drop j.toNat) else none with
        | some r5 => Out.nx r5
        | none => .bad) else .bad) = _
    rw [if_pos ⟨c1, c2⟩]
    have hF : (fun cs : List W => if j ≤ (cs.length : Int) ∧ small (cs.length + (ys.map fun x => W.fl (f x)).length) = true then some (cs.take i.toNat ++ (ys.map fun x => W.fl (f x)) ++ cs.drop j.toNat) else none) (xs.map fun x => .fl (f x)) = some (zs.map fun x => .fl (f x)) := by
      show (if j ≤ ((xs.map fun x => W.fl (f x)).length : Int) ∧ small ((xs.map fun x => W.fl (f x)).length + (ys.map fun x => W.fl (f x)).length) = true then some ((xs.map fun x => W.fl (f x)).take i.toNat ++ (ys.map fun x => W.fl (f x)) ++ (xs.map fun x => W.fl (f x)).drop j.toNat) else none) = _
      rw [if_pos ⟨by rw [List.length_map]; exact c3, small_of (by rw [List.length_map, List.length_map]; exact c4)⟩, ← Option.some.inj hx]
      simp [List.map_take, List.map_drop]
    have hz : zs.length ≤ 100000 := by
      rw [← Option.some.inj hx]
      simp only [List.length_append, List.length_take, List.length_drop]
      omega
    rw [onL_slot (cs := xs.map fun x => .fl (f x)) h1 hF (by simpa using hz), ← hr]
    rfl
  · cases hx
/-- a list of two unlike ones -/
def dP2 (f : α → D) (g : β → D) (p : α × β) : D := .nd .lst [f p.1, g p.2]
def oP2 (f : α → D) (g : β → D) (p : α × β) : W := .nd .lst [.fl (f p.1), .fl (g p.2)]
theorem rpP2 {n : Nat} (r1 : Rp f n) (r2 : Rp g n) : Rp (dP2 f g) (n + 1) := by
  obtain ⟨q1, a1, a2, a3, a4⟩ := r1.ex
  obtain ⟨q2, b1, b2, b3, b4⟩ := r2.ex
  refine ⟨fun p => .list [q1 p.1, q2 p.2], fun p => ?_, fun p => ?_, fun p => ?_, fun p q => ?_⟩
  · simp [dP2, D.py, D.pys, a1, b1]
  · simp [PyData.canLay0, PyData.canLayAll0, a2, b2]
  · have := a3 p.1
    have := b3 p.2
    simp only [PyData.depth, PyData.depthAll]
    omega
  · obtain ⟨p1, p2⟩ := p
    obtain ⟨p1', p2'⟩ := q
    simp [PyData.eqv, PyData.eqvAll, a4, b4]
theorem X.lstP2 {a : α} {b : β} (h1 : X Γ e r (.fl (f a)) r1) (h2 : X Γ e2 r1 (.fl (g b)) r2) : X Γ (.lst [e, e2]) r (oP2 f g (a, b)) r2 := X.lst (XE.cons h1 (XE.cons h2 XE.nil)) rfl
theorem PW.ixP20 {q : α × β} {p : Pl} {i : Nat} (hp : PW Γ p r i (oP2 f g q) r1) : PW Γ (.ix p (.con (.int 0))) r i (Sh.fz f q.1) r1 := PW.st (k := wI 0) (n := 0) hp rfl rfl rfl rfl
theorem PW.ixP21 {q : α × β} {p : Pl} {i : Nat} (hp : PW Γ p r i (oP2 f g q) r1) : PW Γ (.ix p (.con (.int 1))) r i (Sh.fz g q.2) r1 := PW.st (k := wI 1) (n := 1) hp rfl rfl rfl rfl
theorem oP2_dat (f : α → D) (g : β → D) (q : α × β) : (oP2 f g q).dat = dP2 f g q := rfl
theorem OV.tmP2 {q : α × β} (h : X Γ e r (oP2 f g q) r1) : OV Γ (.tm e) r none (.fl (dP2 f g q)) r1 := OV.tmW h
def setO1 (ns : List Int) : Option (List Int) := if ns.length + 1 < 4096 then some (ssI ns) else none
theorem X.srtSet {ns ms : List Int} (ha : OV Γ a r ra wa r1) (h : IsL dI ns wa) (hn : setO1 ns = some ms) : X Γ (.op .srtSet [a]) r (oL dI ms) r1 := by
  unfold setO1 at hn
  split at hn
  · rename_i hc
    cases hn
    rw [oL_new]
    refine X.op1 (w := newL ((ssI ns).map dI)) ha ?_
    show ((wa.lstD.bind dInts).bind fun ns => if ns.length + 1 < 4096 then some (newL ((ssI ns).map D.int)) else none) = _
    rw [h.lstD]
    show ((dInts (ns.map dI)).bind fun ns => if ns.length + 1 < 4096 then some (newL ((ssI ns).map D.int)) else none) = _
    rw [dInts_map]
    exact if_pos hc
  · cases hn
end
end Sh
end Vx
end

section
set_option maxHeartbeats 4000000
/-! Sh 11: a row's def that reads a constant of its module. -/
namespace Vx
open PySem L2
namespace Sh
section
variable {P : Program} {w : World} {K : PySem.W.Frag} {mg : Str → Option Value} {base : Heap}
theorem conI {x : Str} {i : Int} (h : ∃ t, mg x = some (.int i t)) : ∃ u, mg (x, D.int i).1 = some u ∧ RelV (x, D.int i).2.v u := by
  obtain ⟨t, h⟩ := h
  exact ⟨_, h, ⟨t, rfl⟩⟩
theorem one_okC {Dn : Nat → Den} {T : Nat → Stmt} {n : Nat} {f : Fn} {i : Nat} {k : Ck} {ps : List Str} {a : Addr} {fd : FuncData} {b : List S} (F : FnP K f.name (T i) a fd) (Sc : FnScope k.N ps (defScope (T i))) (hs : k.sc = defScope (T i)) (hchk : S.chks b k (defBody (T i)) = true) (hc : ∀ p ∈ k.cons, ∃ u, mg p.1 = some u ∧ RelV p.2.v u)
    (hfree : ∀ x ∈ bNames, mg x = none) (hg : mg f.name = some (.ref a)) (hfns : ∀ g ∈ k.fns, FT (gx K) (Dn n) P w K mg base (3 * n) g) (hio : f.io.Nodup) (hw : ∀ i ∈ f.io, i ∉ S.wrL b) (hden : ∀ ws, Dn (n + 1) f.id ws = runF (Dn n) k.N.length f.io b ws) (hps : ps.length = f.ar)
    (hb : ∀ (kV doc pm : Value) (an : Option Addr) (cdv ct : Value) (us : List Value), us.length = ps.length → bindArgs (PySem.W.fnOf f.name f.name (defArgs (T i)) (defBody (T i)) (defScope (T i)) .none kV doc pm an cdv ct) ⟨us, []⟩ = pure (ps.zip us))
    (hcl : f.cl = none := by rfl) (hro : f.ro = [] := by rfl) (hks : k.clss = [] := by rfl) (hkt : k.tups = [] := by rfl) :
    FT (gx K) (Dn (n + 1)) P w K mg base (3 * (n + 1)) f := by
  exact one_okG (c := gx K) F Sc hs hchk rfl hc (fun p hp => by rw [hks] at hp; cases hp) (fun p hp => by rw [hkt] at hp; cases hp) hfree (by unfold FAt; rw [hcl]; exact hg) hfns (by rw [hro]; exact ⟨List.nodup_nil, fun i hi => by cases hi⟩) (.inl hro) hio hw (fun ws _ _ => (hden ws).symm) hps hb
end
end Sh
end Vx
end

section
set_option maxHeartbeats 1000000
/-! Sh 12: < of lists. -/
namespace Vx
open PySem L2
namespace Sh
section
variable {Γ : Den} {r r1 r2 r3 r4 : Env} {w u wa wb : W} {d : D} {α β γ κ σ ρ : Type} {f : α → D} {g : β → D} {h : γ → D} {x y : α} {xs ys zs : List α} {i j : Int} {e e2 e3 : E} {s : S} {ss : List S} {Q : Out → Prop} {n : Nat} {p : Bool} {a b : O} {ra rb : Option Nat} {l : α → α → Bool} {m : β → β → Bool} {o : γ → γ → Bool}
def ltL [DecidableEq α] (l : α → α → Bool) : List α → List α → Bool
  | [], [] => false
  | [], _ :: _ => true
  | _ :: _, [] => false
  | x :: xs, y :: ys => if x = y then ltL l xs ys else l x y
theorem ltL_ir [DecidableEq α] : ∀ xs : List α, ltL l xs xs = false
  | [] => rfl
  | x :: xs => by
    unfold ltL
    rw [if_pos rfl]
    exact ltL_ir xs
theorem alike_all {q : α → PyData} (h : ∀ x y, PySem.W.alike (q x) (q y) = true) : ∀ xs ys : List α, PySem.W.alikeAll (xs.map q) (ys.map q) = true
  | [], _ => by simp [PySem.W.alikeAll]
  | _ :: _, [] => by simp [PySem.W.alikeAll]
  | x :: xs, y :: ys => by
    show PySem.W.alikeAll (q x :: xs.map q) (q y :: ys.map q) = true
    rw [PySem.W.alikeAll, h, alike_all h xs ys]
    rfl
theorem lt_all [DecidableEq α] {q : α → PyData} (h1 : ∀ x y, PySem.W.alike (q x) (q y) = true) (h2 : ∀ x y, PyData.eqv (q x) (q y) = true ↔ x = y) (h3 : ∀ x y, PySem.W.dataLt (q x) (q y) = l x y) : ∀ xs ys : List α, PyProof.Rows.lexLt PyProof.Rows.itemOrd (PySem.W.keyToksAll (xs.map q)) (PySem.W.keyToksAll (ys.map q)) = ltL l xs ys
  | [], [] => by
    show PyProof.Rows.lexLt PyProof.Rows.itemOrd (PySem.W.keyToksAll []) (PySem.W.keyToksAll []) = false
    decide
  | [], y :: ys => by
    show PyProof.Rows.lexLt PyProof.Rows.itemOrd [.inl 0] (.inl 1 :: _) = true
    rfl
  | x :: xs, [] => by
    show PyProof.Rows.lexLt PyProof.Rows.itemOrd (.inl 1 :: _) [.inl 0] = false
    rfl
  | x :: xs, y :: ys => by
    show PyProof.Rows.lexLt PyProof.Rows.itemOrd (PySem.W.keyToksAll (q x :: xs.map q)) (PySem.W.keyToksAll (q y :: ys.map q)) = if x = y then ltL l xs ys else l x y
    rw [PySem.W.dataLt_cons (h1 x y), lt_all h1 h2 h3 xs ys, h3]
    by_cases c : x = y
    · rw [if_pos ((h2 x y).mpr c), if_pos c]
    · rw [if_neg (fun z => c ((h2 x y).mp z)), if_neg c]
theorem srL [DecidableEq α] (r1 : Sr f l n) : Sr (dL f) (ltL l) (n + 1) := by
  obtain ⟨q, a1, a2, a3, a4, a5, a6⟩ := r1.ex
  refine ⟨ltL_ir, fun xs => .list (xs.map q), fun xs => ?_, fun xs => ?_, fun xs ys => ?_, fun xs ys => ?_, fun xs ys => ?_, .inr fun _ => rfl⟩
  · show (D.pys (xs.map f)).map PyData.list = _
    rw [Rp.pys a1]
    rfl
  · have := depth_all a2 xs
    simp only [PyData.depth]
    omega
  · show PySem.W.alikeAll _ _ = true
    exact alike_all a3 xs ys
  · simp only [PyData.eqv, eqv_all a4]
  · rw [PySem.W.dataLt_list]
    exact lt_all a3 a4 a5 xs ys
/-- a list of three unlike ones -/
def dP3 (f : α → D) (g : β → D) (h : γ → D) (p : α × β × γ) : D := .nd .lst [f p.1, g p.2.1, h p.2.2]
def oP3 (f : α → D) (g : β → D) (h : γ → D) (p : α × β × γ) : W := .nd .lst [.fl (f p.1), .fl (g p.2.1), .fl (h p.2.2)]
theorem srP3 [DecidableEq α] [DecidableEq β] (r1 : Sr f l n) (r2 : Sr g m n) (r3 : Sr h o n) : Sr (dP3 f g h) (lt3 l m o) (n + 1) := by
  obtain ⟨q, a1, a2, a3, a4, a5, a6⟩ := (sr3 r1 r2 r3).ex
  obtain ⟨q1, b1, b2, b3, b4, b5, b6⟩ := r1.ex
  obtain ⟨q2, c1, c2, c3, c4, c5, c6⟩ := r2.ex
  obtain ⟨q3, e1, e2, e3, e4, e5, e6⟩ := r3.ex
  have hq : ∀ p : α × β × γ, q p = .tuple [q1 p.1, q2 p.2.1, q3 p.2.2] := fun p => by
    have := a1 p
    simp [d3, D.py, D.pys, b1, c1, e1] at this
    exact this.symm
  refine ⟨(sr3 r1 r2 r3).ir, fun p => .list [q1 p.1, q2 p.2.1, q3 p.2.2], fun p => ?_, fun p => ?_, fun x y => ?_, fun x y => ?_, fun x y => ?_, .inr fun _ => rfl⟩
  · simp [dP3, D.py, D.pys, b1, c1, e1]
  · have := a2 p
    rw [hq] at this
    simpa only [PyData.depth] using this
  · have := a3 x y
    rw [hq, hq] at this
    simpa only [PySem.W.alike] using this
  · have := a4 x y
    rw [hq, hq] at this
    simpa only [PyData.eqv] using this
  · have := a5 x y
    rw [hq, hq, PySem.W.dataLt_tuple] at this
    rw [PySem.W.dataLt_list]
    exact this
theorem py_non {d : D} (h : d.py = some .none) : d = .non := by
  cases d with
  | non => rfl
  | nd k cs =>
    exfalso
    cases k <;> simp [D.py] at h
  | _ => simp [D.py] at h
theorem X.ltD (s : Sr f l 60) (hn : ∀ x, f x ≠ .non) (ha : OV Γ a r ra wa r1) (hb : OV Γ b r1 rb wb r2) (hk : Keep ra r1 r2) (h1 : wa.dat = f x) (h2 : wb.dat = f y) : X Γ (.op .ltD [a, b]) r (wB (l x y)) r2 := by
  refine X.op2 (w := wB (l x y)) ha hb hk ?_
  show (ltD? wa.dat wb.dat).bind (fun b => pB b) = _
  obtain ⟨q, a1, a2, a3, a4, a5, a6⟩ := s.ex
  have nn : nonN (q x) = true := by
    cases e : q x with
    | none => exact absurd (py_non (by rw [a1, e])) (hn x)
    | _ => rfl
  have e : ltD? (f x) (f y) = some (l x y) := by
    unfold ltD?
    rw [a1, a1]
    show (if (PySem.W.alike (q x) (q y) && (nonN (q x) && decide ((q x).depth ≤ 60))) = true then some (PySem.W.dataLt (q x) (q y)) else none) = _
    rw [a3, nn, decide_eq_true (a2 x), a5]
    rfl
  rw [h1, h2, e]
  rfl
theorem rpP3 {n : Nat} (t1 : Rp f n) (t2 : Rp g n) (t3 : Rp h n) : Rp (dP3 f g h) (n + 1) := by
  obtain ⟨q1, a1, a2, a3, a4⟩ := t1.ex
  obtain ⟨q2, b1, b2, b3, b4⟩ := t2.ex
  obtain ⟨q3, c1, c2, c3, c4⟩ := t3.ex
  refine ⟨fun p => .list [q1 p.1, q2 p.2.1, q3 p.2.2], fun p => ?_, fun p => ?_, fun p => ?_, fun p q => ?_⟩
  · simp [dP3, D.py, D.pys, a1, b1, c1]
  · simp [PyData.canLay0, PyData.canLayAll0, a2, b2, c2]
  · have := a3 p.1
    have := b3 p.2.1
    have := c3 p.2.2
    simp only [PyData.depth, PyData.depthAll]
    omega
  · obtain ⟨p1, p2, p3⟩ := p
    obtain ⟨p1', p2', p3'⟩ := q
    simp [PyData.eqv, PyData.eqvAll, a4, b4, c4]
/-- such a list, or an empty one -/
def dQ3 (f : α → D) (g : β → D) (h : γ → D) : Option (α × β × γ) → D
  | none => .nd .lst []
  | some p => dP3 f g h p
theorem X.nilQ : X Γ (.fz (.lst [])) r (Sh.fz (dQ3 f g h) none) r := X.fz (X.lst XE.nil rfl)
theorem X.lstP3 {a : α} {b : β} {c : γ} (h1 : X Γ e r (.fl (f a)) r1) (h2 : X Γ e2 r1 (.fl (g b)) r2) (h3 : X Γ e3 r2 (.fl (h c)) r3) : X Γ (.lst [e, e2, e3]) r (oP3 f g h (a, b, c)) r3 := X.lst (XE.cons h1 (XE.cons h2 (XE.cons h3 XE.nil))) rfl
theorem OV.oQ {v : Option (α × β × γ)} {q : α × β × γ} (hv : v = some q) (ha : OV Γ a r ra (Sh.fz (dQ3 f g h) v) r1) : OV Γ a r ra (Sh.fz (dP3 f g h) q) r1 := by
  subst hv
  exact ha
theorem PW.ixQ2 {v : Option (α × β × γ)} {q : α × β × γ} {p : Pl} {i : Nat} (hv : v = some q) (hp : PW Γ p r i (Sh.fz (dQ3 f g h) v) r1) : PW Γ (.ix p (.con (.int 2))) r i (Sh.fz h q.2.2) r1 := by
  subst hv
  exact PW.st (k := wI 2) (n := 2) hp rfl rfl rfl rfl
theorem X.eqQ0 {v : Option (α × β × γ)} (rp : Rp (dP3 f g h) 60) (ha : OV Γ a r ra (Sh.fz (dQ3 f g h) v) r1) (hb : OV Γ b r1 rb (.fl (.nd .lst [])) r2) (hk : Keep ra r1 r2) : X Γ (.op .eqD [a, b]) r (wB v.isNone) r2 := by
  refine X.op2 (w := wB v.isNone) ha hb hk ?_
  show (eqD? (dQ3 f g h v) (.nd .lst [])).bind (fun b => pB b) = _
  cases v with
  | none => rfl
  | some q =>
    obtain ⟨k, h1, h2, h3, h4⟩ := rp.ex
    have hq : ∃ z zs, k q = .list (z :: zs) := by
      have e1 : (dP3 f g h q).py = some (k q) := h1 q
      unfold dP3 at e1
      have e2 : (D.pys [f q.1, g q.2.1, h q.2.2]).map PyData.list = some (k q) := e1
      obtain ⟨ps, p1, p2⟩ := Option.map_eq_some_iff.mp e2
      cases ps with
      | nil =>
        exfalso
        simp only [D.pys] at p1
        split at p1 <;> simp_all
      | cons z zs => exact ⟨z, zs, p2.symm⟩
    obtain ⟨z, zs, hq⟩ := hq
    have e : eqD? (dP3 f g h q) (.nd .lst []) = some false := by
      unfold eqD?
      rw [h1]
      have e3 : (D.nd .lst []).py = some (.list []) := rfl
      rw [e3]
      show (if SeqAt.shaped (k q) && SeqAt.shaped (.list []) then some (PyData.eqv (k q) (.list [])) else none) = _
      have := h3 q
      rw [shaped_of (h2 q) (by omega)]
      have e4 : SeqAt.shaped (PyData.list []) = true := by decide
      rw [e4, hq]
      simp [PyData.eqv, PyData.eqvAll]
    show (eqD? (dP3 f g h q) (.nd .lst [])).bind (fun b => pB b) = _
    rw [e]
    rfl
theorem X.rdP3 {q : α × β × γ} {i : Nat} (hi : r[i]? = some (some (oP3 f g h q))) : X Γ (.rd (.sl i)) r (.fl (dP3 f g h q)) (r.set i (some (.fl (dP3 f g h q)))) := X.rdO (Γ := Γ) (k := .lst) (cs := [.fl (f q.1), .fl (g q.2.1), .fl (h q.2.2)]) hi
theorem dP3_ne {q : α × β × γ} : dP3 f g h q ≠ .non := fun z => by cases z
theorem oP3_dat (f : α → D) (g : β → D) (h : γ → D) (q : α × β × γ) : (oP3 f g h q).dat = dP3 f g h q := rfl
end
end Sh
end Vx
end

section
set_option maxHeartbeats 1000000
/-! Sh 13: instances with fields; dicts copied, their keys; calls of methods. -/
namespace Vx
open PySem L2
namespace Sh
section
variable {Γ : Den} {r r1 r2 r3 r4 : Env} {w u wa wb : W} {d : D} {α β κ σ ρ : Type} {f : α → D} {g : β → D} {x y : α} {xs ys zs : List α} {i j : Int} {e e2 ek : E} {s : S} {ss : List S} {Q : Out → Prop} {n m ci : Nat} {a b : O} {ra rb : Option Nat} {fs : List Str} {cs : List W} {fl : Str} {p : Pl}
/-! ### places -/
theorem PW.fd {i : Nat} (hp : PW Γ p r i w r1) (h1 : stepFd w ci fl = some n) (h2 : w.get [n] = some u) : PW Γ (.fd p ci fl) r i u r1 := by
  obtain ⟨js, a1, a2⟩ := hp
  refine ⟨js ++ [n], ?_, ?_⟩
  · show ((p.sem Γ r).bind fun (q, r1) => Res.of (((eget r1 q).bind fun w => stepFd w ci fl).map fun j => ((q.1, q.2 ++ [j]), r1))) = _
    rw [a1]
    show Res.of (((eget r1 (i, js)).bind fun w => stepFd w ci fl).map fun j => ((i, js ++ [j]), r1)) = _
    rw [a2]
    show Res.of ((stepFd w ci fl).map fun j => ((i, js ++ [j]), r1)) = _
    rw [h1]
    rfl
  · unfold eget at a2 ⊢
    dsimp only at a2 ⊢
    split at a2
    · rename_i x e
      rw [get_app, a2]
      exact h2
    · cases a2
theorem stepFd_at (h : atZ fs fl = some m) : stepFd (.nd (.ins ci fs) cs) ci fl = some m := by
  show (if ci = ci then atZ fs fl else none) = _
  rw [if_pos rfl, h]
/-- a field's place, by the slot -/
structure Fld (Γ : Den) (p : Pl) (n ci : Nat) (fs : List Str) (m : Nat) : Prop where
  sem : ∀ r cs, r[n]? = some (some (.nd (.ins ci fs) cs)) → m < cs.length → Pl.sem Γ p r = .ok ((n, [m]), r)
theorem Fld.mk' (h : atZ fs fl = some m) : Fld Γ (.fd (.sl n) ci fl) n ci fs m := ⟨fun r cs h0 hm => by
  show (((Pl.sl n).sem Γ r).bind fun (q, r1) => Res.of (((eget r1 q).bind fun w => stepFd w ci fl).map fun j => ((q.1, q.2 ++ [j]), r1))) = _
  rw [pl_slot h0]
  show Res.of (((eget r (n, [])).bind fun w => stepFd w ci fl).map fun j => ((n, [] ++ [j]), r)) = _
  rw [eget_slot h0]
  show Res.of ((stepFd (.nd (.ins ci fs) cs) ci fl).map fun j => ((n, [] ++ [j]), r)) = _
  rw [stepFd_at h]
  rfl⟩
theorem eget_fld (h0 : r[n]? = some (some (.nd (.ins ci fs) cs))) (hm : cs[m]? = some w) : eget r (n, [m]) = some w := by
  unfold eget
  rw [h0]
  show (cs[m]?.bind fun y => y.get []) = _
  rw [hm]
  simp
theorem setAt_fld (h0 : r[n]? = some (some (.nd (.ins ci fs) cs))) (hm : cs[m]? = some u) : W.setAt r n [m] w = r.set n (some (.nd (.ins ci fs) (cs.set m w))) := by
  unfold W.setAt
  rw [h0]
  show r.set n (some (match cs[m]? with
    | some z => .nd (.ins ci fs) (cs.set m (z.put [] w))
    | none => .nd (.ins ci fs) cs)) = _
  rw [hm]
  show r.set n (some (.nd (.ins ci fs) (cs.set m (u.put [] w)))) = _
  cases u <;> rfl
theorem sub_fld (h0 : r[n]? = some (some (.nd (.ins ci fs) cs))) (hm : cs[m]? = some u) : ((r[n]?.getD none).bind fun x => x.sub [m]).isSome = true := by
  rw [h0]
  show ((cs[m]?.bind fun y => y.sub [])).isSome = true
  rw [hm]
  show (u.sub []).isSome = true
  rw [W.sub_nil]
  rfl
/-- o.f = e -/
theorem Run.setf (he : X Γ e r w r1) (h0 : r1[n]? = some (some (.nd (.ins ci fs) cs))) (hj : atZ fs fl = some m) (hl : fs.length = cs.length) (hc : (decide (fs.length < 1000) && decide fs.Nodup) = true) (hr : r1.set n (some (.nd (.ins ci fs) (cs.set m w))) = r2) (k : Run Γ ss r2 Q) : Run Γ (.setf (.sl n) ci fl e :: ss) r Q := by
  refine Run.step (r1 := r2) ?_ k
  have e0 : S.sem Γ (.setf (.sl n) ci fl e) r = (e.sem Γ r).out fun (w, r1) => ((Pl.sl n).sem Γ r1).out fun (q, r2) => match onF r2 q ci fl w with
    | some r3 => .nx r3
    | none => .bad := rfl
  rw [e0, he]
  show (((Pl.sl n).sem Γ r1).out _) = _
  rw [pl_slot h0]
  show (match onF r1 (n, []) ci fl w with
    | some r3 => Out.nx r3
    | none => .bad) = _
  have eo : onF r1 (n, []) ci fl w = some r2 := by
    unfold onF
    rw [eget_slot h0]
    obtain ⟨c1, c2⟩ := and2 hc
    have t : (decide (ci = ci) && decide (fs.length = cs.length) && decide (fs.length < 1000) && decide fs.Nodup && ((r1[n]?.getD none).bind fun x => x.sub []).isSome) = true := by
      rw [decide_eq_true (rfl : ci = ci), decide_eq_true hl, c1, c2, h0]
      show ((W.sub (.nd (.ins ci fs) cs) []).isSome) = true
      rw [W.sub_nil]
      rfl
    show (if _ then _ else _) = _
    rw [if_pos t]
    have e1 : putZ fs cs fl w = (fs, cs.set m w) := by
      unfold putZ
      rw [hj]
    rw [e1]
    show some (W.setAt r1 n [] (.nd (.ins ci fs) (cs.set m w))) = _
    unfold W.setAt
    rw [h0]
    show some (r1.set n (some (W.put (.nd (.ins ci fs) cs) [] (.nd (.ins ci fs) (cs.set m w))))) = _
    rw [← hr]
    rfl
  rw [eo]
/-- o.f[k] = e -/
theorem Run.setkF [DecidableEq κ] {kf : κ → Key} {kd : κ → D} (K : Kf kf kd) {c c' : Dc κ β} {k : κ} {v : β} (F : Fld Γ p n ci fs m) (hx : c.putO k v = some c') (he : X Γ e r (Sh.fz g v) r1) (h0 : r1[n]? = some (some (.nd (.ins ci fs) cs))) (hm : cs[m]? = some (oDK kf g c)) (hk : X Γ ek r1 (Sh.fz kd k) r2) (h1 : r2[n]? = some (some (.nd (.ins ci fs) cs))) (hr : r2.set n (some (.nd (.ins ci fs) (cs.set m (oDK kf g c')))) = r3) (kk : Run Γ ss r3 Q) : Run Γ (.setk p ek e :: ss) r Q := by
  unfold Dc.putO at hx
  split at hx
  · rename_i hl
    have hx := Option.some.inj hx
    subst hx
    refine Run.step (r1 := r3) ?_ kk
    have e0 : S.sem Γ (.setk p ek e) r = (e.sem Γ r).out fun (w, r1) => (p.sem Γ r1).out fun (q, r2) => (ek.sem Γ r2).out fun (x, r3) => match onD r3 q x w with
      | some r4 => .nx r4
      | none => .bad := rfl
    have hlt : m < cs.length := (List.getElem?_eq_some_iff.mp hm).1
    rw [e0, he]
    show ((p.sem Γ r1).out _) = _
    rw [F.sem r1 cs h0 hlt]
    show ((ek.sem Γ r1).out _) = _
    rw [hk]
    show (match onD r2 (n, [m]) (Sh.fz kd k) (Sh.fz g v) with
      | some r4 => Out.nx r4
      | none => .bad) = _
    have eo : onD r2 (n, [m]) (Sh.fz kd k) (Sh.fz g v) = some (r2.set n (some (.nd (.ins ci fs) (cs.set m (oDK kf g (c.put k v)))))) := by
      obtain ⟨ks, hks⟩ : ∃ ks, ks = c.l.map fun p => kf p.1 := ⟨_, rfl⟩
      obtain ⟨vs, hvs⟩ : ∃ vs, vs = c.l.map fun p => W.fl (g p.2) := ⟨_, rfl⟩
      have eO : oDK kf g c = .nd (.dK ks) vs := by rw [hks, hvs]; rfl
      have hm' := hm
      rw [eO] at hm
      unfold onD
      rw [eget_fld h1 hm]
      show (match (kd k).key with
        | some x => if (small vs.length && decide (ks.length = vs.length) && decide ks.Nodup && ((r2[n]?.getD none).bind fun x => x.sub [m]).isSome) = true then some (W.setAt r2 n [m] (.nd (.dK (putZ ks vs x (Sh.fz g v)).1) (putZ ks vs x (Sh.fz g v)).2)) else none
        | none => none) = _
      rw [K.key]
      have t : (small vs.length && decide (ks.length = vs.length) && decide ks.Nodup && ((r2[n]?.getD none).bind fun x => x.sub [m]).isSome) = true := by
        have n1 : small vs.length = true := small_of (by rw [hvs, List.length_map]; omega)
        have n2 : decide (ks.length = vs.length) = true := decide_eq_true (by rw [hks, hvs]; simp)
        have n3 : decide ks.Nodup = true := decide_eq_true (by rw [hks]; exact kf_nd K)
        rw [n1, n2, n3, sub_fld h1 hm]
        rfl
      show (if _ then _ else _) = _
      rw [if_pos t, hks, hvs, putZ_lput K]
      show some (W.setAt r2 n [m] (oDK kf g (c.put k v))) = _
      rw [setAt_fld h1 hm']
    rw [eo, hr]
  · cases hx
/-- o.f.append(e) -/
theorem Run.appF (F : Fld Γ p n ci fs m) (hx : appO xs x = some ys) (h0 : r[n]? = some (some (.nd (.ins ci fs) cs))) (hm : cs[m]? = some (oL f xs)) (he : X Γ e r (Sh.fz f x) r1) (h1 : r1[n]? = some (some (.nd (.ins ci fs) cs))) (hr : r1.set n (some (.nd (.ins ci fs) (cs.set m (oL f ys)))) = r2) (k : Run Γ ss r2 Q) : Run Γ (.app p e :: ss) r Q := by
  unfold appO at hx
  split at hx
  · rename_i hl
    refine Run.step (r1 := r2) ?_ k
    have hlt : m < cs.length := (List.getElem?_eq_some_iff.mp hm).1
    rw [st_app, F.sem r cs h0 hlt]
    show (if isL r (n, [m]) then _ else _) = _
    have il : isL r (n, [m]) = true := by
      unfold isL
      rw [eget_fld h0 hm]
      rfl
    rw [il]
    show ((E.sem Γ e r).out _) = _
    rw [he]
    show (match onL r1 (n, [m]) fun cs => some (cs ++ [fz f x]) with
      | some r3 => Out.nx r3
      | none => .bad) = _
    have eo : onL r1 (n, [m]) (fun cs => some (cs ++ [fz f x])) = some r2 := by
      unfold onL
      rw [eget_fld h1 hm]
      have e1 : oL f xs = .nd .lst (xs.map fun x => .fl (f x)) := rfl
      rw [e1]
      dsimp only
      rw [h1]
      have e2 : (W.nd (Kd.ins ci fs) cs).get [m] = some (.nd .lst (xs.map fun x => .fl (f x))) := by
        show (cs[m]?.bind fun y => y.get []) = _
        rw [hm]
        simp [oL]
      dsimp only
      rw [e2]
      dsimp only
      have e3 : ((W.nd (Kd.ins ci fs) cs).sub [m]).isSome = true := by
        show ((cs[m]?.bind fun y => y.sub [])).isSome = true
        rw [hm]
        show ((oL f xs).sub []).isSome = true
        rw [W.sub_nil]
        rfl
      rw [small_of (by simpa using hl), e3]
      show some (W.setAt r1 n [m] (.nd .lst ((xs.map fun x => W.fl (f x)) ++ [fz f x]))) = _
      rw [setAt_fld h1 hm, ← hr, ← Option.some.inj hx]
      unfold oL
      rw [List.map_append]
      rfl
    rw [eo]
  · cases hx
def popO (xs : List α) : Option (α × List α) := match xs.getLast? with
  | some x => if xs.length ≤ 100001 then some (x, xs.dropLast) else none
  | none => none
/-- o.f.pop() -/
theorem X.popF {q : α × List α} (F : Fld Γ p n ci fs m) (hx : popO xs = some q) (h0 : r[n]? = some (some (.nd (.ins ci fs) cs))) (hm : cs[m]? = some (oL f xs)) (hr : r.set n (some (.nd (.ins ci fs) (cs.set m (oL f q.2)))) = r2) : X Γ (.popv p) r (Sh.fz f q.1) r2 := by
  unfold popO at hx
  split at hx
  · rename_i z hz
    split at hx
    · rename_i hl
      have hx := Option.some.inj hx
      subst hx
      have hlt : m < cs.length := (List.getElem?_eq_some_iff.mp hm).1
      show ((p.sem Γ r).bind fun (q, r1) => match eget r1 q with
        | some (.nd .lst cs) => match cs.getLast? with
          | some w => Res.of ((onLx r1 q cs.dropLast).map fun r2 => (w, r2))
          | none => .bad
        | _ => .bad) = _
      rw [F.sem r cs h0 hlt]
      show (match eget r (n, [m]) with
        | some (.nd .lst cs) => match cs.getLast? with
          | some w => Res.of ((onLx r (n, [m]) cs.dropLast).map fun r2 => (w, r2))
          | none => .bad
        | _ => .bad) = _
      rw [eget_fld h0 hm]
      show (match (xs.map fun x => W.fl (f x)).getLast? with
          | some w => Res.of ((onLx r (n, [m]) (xs.map fun x => W.fl (f x)).dropLast).map fun r2 => (w, r2))
          | none => .bad) = _
      rw [List.getLast?_map, hz]
      show Res.of ((onLx r (n, [m]) (xs.map fun x => W.fl (f x)).dropLast).map fun r2 => (W.fl (f z), r2)) = _
      have eo : onLx r (n, [m]) (xs.map fun x => W.fl (f x)).dropLast = some r2 := by
        unfold onLx
        rw [eget_fld h0 hm]
        have e1 : oL f xs = .nd .lst (xs.map fun x => .fl (f x)) := rfl
        rw [e1]
        dsimp only
        rw [h0]
        have e2 : (W.nd (Kd.ins ci fs) cs).get [m] = some (.nd .lst (xs.map fun x => .fl (f x))) := by
          show (cs[m]?.bind fun y => y.get []) = _
          rw [hm]
          simp [oL]
        dsimp only
        rw [e2]
        dsimp only
        have e3 : ((W.nd (Kd.ins ci fs) cs).sub [m]).isSome = true := by
          show ((cs[m]?.bind fun y => y.sub [])).isSome = true
          rw [hm]
          show ((oL f xs).sub []).isSome = true
          rw [W.sub_nil]
          rfl
        rw [small_of (by simp; omega), e3]
        show some (W.setAt r n [m] (.nd .lst (xs.map fun x => W.fl (f x)).dropLast)) = _
        rw [setAt_fld h0 hm, ← hr]
        unfold oL
        rw [List.map_dropLast]
      rw [eo]
      rfl
    · cases hx
  · cases hx
/-! ### dicts -/
def ldel [DecidableEq κ] (l : List (κ × β)) (k : κ) : List (κ × β) := l.eraseP fun p => decide (p.1 = k)
def Dc.del [DecidableEq κ] (d : Dc κ β) (k : κ) : Dc κ β := ⟨ldel d.l k, List.Nodup.sublist (List.Sublist.map _ List.eraseP_sublist) d.nd⟩
def Dc.popO [DecidableEq κ] (d : Dc κ β) (k : κ) : Option (β × Dc κ β) := match d.get k with
  | some v => if d.l.length ≤ 100000 then some (v, d.del k) else none
  | none => none
theorem atZ_del [DecidableEq κ] {kf : κ → Key} {kd : κ → D} (K : Kf kf kd) {k : κ} {v : β} : ∀ {l : List (κ × β)}, lget l k = some v → ∃ j, atZ (l.map fun p => kf p.1) (kf k) = some j ∧ (l.map fun p => W.fl (g p.2))[j]? = some (.fl (g v)) ∧ (l.map fun p => kf p.1).eraseIdx j = (ldel l k).map (fun p => kf p.1) ∧ (l.map fun p => W.fl (g p.2)).eraseIdx j = (ldel l k).map fun p => W.fl (g p.2)
  | [], h => by cases h
  | p :: l, h => by
    have e0 : atZ (kf p.1 :: l.map fun p => kf p.1) (kf k) = if kf p.1 = kf k then some 0 else (atZ (l.map fun p => kf p.1) (kf k)).map (· + 1) := rfl
    have e1 : lget (p :: l) k = if p.1 = k then some p.2 else lget l k := rfl
    rw [e1] at h
    have e2 : ldel (p :: l) k = if p.1 = k then l else p :: ldel l k := by
      unfold ldel
      rw [List.eraseP_cons]
      by_cases c : p.1 = k
      · rw [if_pos c, decide_eq_true c]
        rfl
      · rw [if_neg c, decide_eq_false c]
        rfl
    rw [List.map_cons, List.map_cons, e0, e2]
    by_cases c : p.1 = k
    · rw [if_pos c] at h
      rw [if_pos (by rw [c]), if_pos c]
      have h := Option.some.inj h
      subst h
      exact ⟨0, rfl, rfl, rfl, rfl⟩
    · rw [if_neg c] at h
      rw [if_neg fun z => c (K.inj _ _ z), if_neg c]
      obtain ⟨j, a1, a2, a3, a4⟩ := atZ_del K h
      refine ⟨j + 1, by rw [a1]; rfl, by simpa using a2, ?_, ?_⟩
      · show kf p.1 :: (l.map fun p => kf p.1).eraseIdx j = _
        rw [a3]
        rfl
      · show W.fl (g p.2) :: (l.map fun p => W.fl (g p.2)).eraseIdx j = _
        rw [a4]
        rfl
/-- o.f.pop(k) -/
theorem X.popkF [DecidableEq κ] {kf : κ → Key} {kd : κ → D} (K : Kf kf kd) {c : Dc κ β} {k : κ} {q : β × Dc κ β} (F : Fld Γ p n ci fs m) (hx : c.popO k = some q) (h0 : r[n]? = some (some (.nd (.ins ci fs) cs))) (hm : cs[m]? = some (oDK kf g c)) (hk : X Γ ek r (Sh.fz kd k) r1) (h1 : r1[n]? = some (some (.nd (.ins ci fs) cs))) (hr : r1.set n (some (.nd (.ins ci fs) (cs.set m (oDK kf g q.2)))) = r2) : X Γ (.popk p ek) r (Sh.fz g q.1) r2 := by
  unfold Dc.popO at hx
  split at hx
  · rename_i v hv
    split at hx
    · rename_i hl
      have hx := Option.some.inj hx
      subst hx
      have hlt : m < cs.length := (List.getElem?_eq_some_iff.mp hm).1
      show ((p.sem Γ r).bind fun (q, r1) => if isDc r1 q then (ek.sem Γ r1).bind fun (x, r2) => Res.of (dropD r2 q x) else .bad) = _
      rw [F.sem r cs h0 hlt]
      show (if isDc r (n, [m]) then (ek.sem Γ r).bind fun (x, r2) => Res.of (dropD r2 (n, [m]) x) else .bad) = _
      have il : isDc r (n, [m]) = true := by
        unfold isDc
        rw [eget_fld h0 hm]
        rfl
      rw [il]
      show ((ek.sem Γ r).bind fun (x, r2) => Res.of (dropD r2 (n, [m]) x)) = _
      rw [hk]
      show Res.of (dropD r1 (n, [m]) (Sh.fz kd k)) = _
      obtain ⟨j, a1, a2, a3, a4⟩ := atZ_del (g := g) K hv
      have eo : dropD r1 (n, [m]) (Sh.fz kd k) = some (Sh.fz g v, r2) := by
        unfold dropD
        rw [eget_fld h1 hm]
        obtain ⟨ks, hks⟩ : ∃ ks, ks = c.l.map fun p => kf p.1 := ⟨_, rfl⟩
        obtain ⟨vs, hvs⟩ : ∃ vs, vs = c.l.map fun p => W.fl (g p.2) := ⟨_, rfl⟩
        have eO : oDK kf g c = .nd (.dK ks) vs := by rw [hks, hvs]; rfl
        rw [eO]
        show (match (kd k).key with
          | some x => match atZ ks x with
            | some j => match vs[j]? with
              | some w => if small vs.length && decide (ks.length = vs.length) && decide ks.Nodup && ((r1[n]?.getD none).bind fun x => x.sub [m]).isSome then some (w, W.setAt r1 n [m] (.nd (.dK (ks.eraseIdx j)) (vs.eraseIdx j))) else none
              | none => none
            | none => none
          | none => none) = _
        rw [← hks] at a1 a3
        rw [← hvs] at a2 a4
        rw [K.key]
        dsimp only
        rw [a1]
        dsimp only
        rw [a2]
        dsimp only
        have n1 : small vs.length = true := small_of (by rw [hvs, List.length_map]; omega)
        have n2 : decide (ks.length = vs.length) = true := decide_eq_true (by rw [hks, hvs]; simp)
        have n3 : decide ks.Nodup = true := decide_eq_true (by rw [hks]; exact kf_nd K)
        rw [n1, n2, n3, sub_fld h1 hm, a3, a4]
        show some (W.fl (g v), W.setAt r1 n [m] (oDK kf g (c.del k))) = _
        rw [setAt_fld h1 hm, ← hr]
      rw [eo]
      rfl
    · cases hx
  · cases hx
def Dc.cpO (c : Dc κ β) : Option (Dc κ β) := if c.l.length ≤ 100000 then some c else none
theorem dicK_of {kf : κ → Key} {c : Dc κ β} (h : IsDK kf g c wa) : wa.dicK = some (c.l.map (fun p => kf p.1), c.l.map fun p => g p.2) := by
  rcases h with h | h
  · subst h
    rfl
  · subst h
    have e1 : (oDK kf g c).shal = some (.dK (c.l.map fun p => kf p.1), c.l.map fun p => g p.2) := by
      have e : (c.l.map fun p => W.fl (g p.2)) = (c.l.map fun p => g p.2).map W.fl := by
        rw [List.map_map]
        rfl
      obtain ⟨a1, a2⟩ := map_fl (c.l.map fun p => g p.2)
      show (if (c.l.map fun p => W.fl (g p.2)).all W.isFl then some (Kd.dK _, (c.l.map fun p => W.fl (g p.2)).map W.unfl) else none) = _
      rw [e, a1, a2]
      rfl
    unfold W.dicK
    rw [e1]
theorem X.dcpK {kf : κ → Key} {c c' : Dc κ β} (ha : OV Γ a r ra wa r1) (h : IsDK kf g c wa) (hc : c.cpO = some c') : X Γ (.op .dcp [a]) r (oDK kf g c') r1 := by
  unfold Dc.cpO at hc
  split at hc
  · rename_i hl
    have hc := Option.some.inj hc
    subst hc
    refine X.op1 (w := oDK kf g c) ha ?_
    show (match wa.dicK with
      | some p => if p.2.length ≤ 100000 then some (W.nd (.dK p.1) (p.2.map .fl)) else none
      | none => match wa.dicT with
        | some p => if p.2.length ≤ 1 then some (W.nd (.dT p.1) (p.2.map .fl)) else none
        | none => none) = _
    rw [dicK_of h]
    show (if (c.l.map fun p => g p.2).length ≤ 100000 then some (W.nd (.dK _) ((c.l.map fun p => g p.2).map .fl)) else none) = _
    rw [if_pos (by rw [List.length_map]; exact hl), List.map_map]
    rfl
  · cases hc
def Dc.kyO (c : Dc κ β) : Option (List κ) := if c.l.length ≤ 100000 then some (c.l.map (·.1)) else none
theorem X.kysK {kf : κ → Key} {kd : κ → D} (hkd : ∀ k, keyD (kf k) = kd k) {c : Dc κ β} {ks : List κ} (ha : OV Γ a r ra wa r1) (h : IsDK kf g c wa) (hc : c.kyO = some ks) : X Γ (.op .keys [a]) r (oL kd ks) r1 := by
  unfold Dc.kyO at hc
  split at hc
  · rename_i hl
    have hc := Option.some.inj hc
    subst hc
    rw [oL_new]
    refine X.op1 (w := newL ((c.l.map (·.1)).map kd)) ha ?_
    show ((keys? wa).bind fun ds => if small ds.length then some (newL ds) else none) = _
    unfold keys?
    rw [dicK_of h]
    show (if small ((c.l.map fun p => kf p.1).map keyD).length then some (newL ((c.l.map fun p => kf p.1).map keyD)) else none) = _
    rw [if_pos (small_of (by simpa using hl))]
    have e : (c.l.map fun p => kf p.1).map keyD = (c.l.map (·.1)).map kd := by
      rw [List.map_map, List.map_map]
      exact List.map_congr_left fun p _ => hkd _
    rw [e]
  · cases hc
theorem kdI (k : Int) : keyD (kI k) = dI k := rfl
theorem kdS (k : Tx) : keyD (kS k) = dS k := rfl
/-- dicts that stay empty -/
def dE0 (_ : Unit) : D := .nd (.dK []) []
def oE0 (_ : Unit) : W := .nd (.dK []) []
def dE1 (_ : Unit) : D := .nd (.dT []) []
def oE1 (_ : Unit) : W := .nd (.dT []) []
theorem X.dcp0 (ha : OV Γ a r ra wa r1) (h : wa = .fl (dE0 ()) ∨ wa = oE0 ()) : X Γ (.op .dcp [a]) r (oE0 ()) r1 := by
  refine X.op1 (w := oE0 ()) ha ?_
  rcases h with h | h <;> subst h <;> rfl
theorem X.dcp1 (ha : OV Γ a r ra wa r1) (h : wa = .fl (dE1 ()) ∨ wa = oE1 ()) : X Γ (.op .dcp [a]) r (oE1 ()) r1 := by
  refine X.op1 (w := oE1 ()) ha ?_
  rcases h with h | h <;> subst h <;> rfl
/-! ### calls -/
theorem XA.ro {n : Nat} {es : List Ar} {vs : List (W ⊕ Nat)} (h1 : r[n]? = some (some w)) (h2 : XA Γ es r vs r2) : XA Γ (.ro n :: es) r (.inl w :: vs) r2 := by
  show (match r[n]? with
    | some (some w) => (Ar.sems Γ es r).bind fun (vs, r2) => Res.ok ((.inl w :: vs : List (W ⊕ Nat)), r2)
    | _ => .bad) = _
  rw [h1]
  show (Ar.sems Γ es r).bind _ = _
  rw [h2]
  rfl
theorem X.meth {ci : Nat} {mn : Str} {fn : Nat} {as : List Ar} {wr : W} (hc : X Γ (.call fn as) r w r1) (hr : recv r as = some wr) (hi : isIns ci mn wr = true) : X Γ (.meth ci mn fn as) r w r1 := by
  rw [X] at hc ⊢
  rw [← hc]
  show (match recv r as with
    | some w => if isIns ci mn w then _ else _
    | none => _) = _
  rw [hr]
  show (if isIns ci mn wr then _ else _) = _
  rw [hi]
  rfl
theorem isIns_of {mn : Str} (h : fs.contains mn = false) : isIns ci mn (.nd (.ins ci fs) cs) = true := by
  show (decide (ci = ci) && !fs.contains mn) = true
  rw [h, decide_eq_true rfl]
  rfl
theorem X.new0 {ci fn : Nat} (h : Γ fn [.nd (.ins ci []) []] = .ok wN [w]) : X Γ (.new ci fn []) r w r := by
  show (match Γ fn [.nd (.ins ci []) []] with
    | .ok (.fl .non) [w] => Res.ok (w, r)
    | _ => .bad) = _
  rw [h]
/-- in the module's tuple -/
def inW (zs : List Str) (t : Tx) : Bool := zs.contains t.s
theorem X.inG {zs : List Str} {y : Str} {t : Tx} (h : X Γ e r (Sh.fz dS t) r1) : X Γ (.inG false e y zs) r (wB (inW zs t)) r1 := by
  show ((e.sem Γ r).bind fun (w, r1) => match w with
    | .fl (.str z) => Res.ok (W.fl (.bl (zs.contains z != false)), r1)
    | _ => .bad) = _
  rw [h]
  show Res.ok (W.fl (.bl (zs.contains t.s != false)), r1) = _
  simp [inW]
theorem X.niG {zs : List Str} {y : Str} {t : Tx} (h : X Γ e r (Sh.fz dS t) r1) : X Γ (.inG true e y zs) r (wB (!inW zs t)) r1 := by
  show ((e.sem Γ r).bind fun (w, r1) => match w with
    | .fl (.str z) => Res.ok (W.fl (.bl (zs.contains z != true)), r1)
    | _ => .bad) = _
  rw [h]
  show Res.ok (W.fl (.bl (zs.contains t.s != true)), r1) = _
  simp [inW]
/-- list(range(a, b, -1)) -/
def dwI (hi lo : Int) : List Int := (List.range (hi - lo).toNat).map fun (i : Nat) => hi - (i : Int)
def rngD (hi lo : Int) : Option (List Int) := if -100000 ≤ hi ∧ hi ≤ 100000 ∧ -100000 ≤ lo ∧ lo ≤ 100000 then some (dwI hi lo) else none
theorem X.rngD {e3 : E} {ns : List Int} (h1 : X Γ e r (wI i) r1) (h2 : X Γ e2 r1 (wI j) r2) (h3 : X Γ e3 r2 (wI (-1)) r3) (h : Sh.rngD i j = some ns) : X Γ (.rngD [e, e2, e3]) r (oL dI ns) r3 := by
  unfold Sh.rngD at h
  split at h
  · rename_i hc
    have h := Option.some.inj h
    subst h
    show ((E.sems Γ [e, e2, e3] r).bind fun (ws, r1) => match ws with
      | [.fl (.int m), .fl (.int n), .fl (.int d)] => if decide (d = -1 ∧ -100000 ≤ m ∧ m ≤ 100000 ∧ -100000 ≤ n ∧ n ≤ 100000) then Res.ok (newL (downD m n), r1) else .bad
      | _ => .bad) = _
    have e0 : E.sems Γ [e, e2, e3] r = .ok ([wI i, wI j, wI (-1)], r3) := by
      simp only [evs_cons, evs_nil, h1, h2, h3, res_bind_ok]
    rw [e0]
    show (if decide ((-1 : Int) = -1 ∧ -100000 ≤ i ∧ i ≤ 100000 ∧ -100000 ≤ j ∧ j ≤ 100000) then Res.ok (newL (downD i j), r3) else .bad) = _
    rw [decide_eq_true ⟨rfl, hc⟩, oL_new]
    have e1 : downD i j = (dwI i j).map dI := by
      unfold downD dwI
      rw [List.map_map]
      rfl
    rw [e1]
    rfl
  · cases h
theorem X.fzDK {kf : κ → Key} {c : Dc κ β} (h : X Γ e r (oDK kf g c) r1) : X Γ (.fz e) r (.fl (dDK kf g c)) r1 := by
  have := X.fz h
  rw [oDK_dat] at this
  exact this
abbrev d7 {α β γ δ ε ζ η : Type} (f : α → D) (g : β → D) (h : γ → D) (k : δ → D) (l : ε → D) (m : ζ → D) (o : η → D) (p : α × β × γ × δ × ε × ζ × η) : D := .nd .tup [f p.1, g p.2.1, h p.2.2.1, k p.2.2.2.1, l p.2.2.2.2.1, m p.2.2.2.2.2.1, o p.2.2.2.2.2.2]
def inT (a b : Tx) : Bool := !(Builtin.Str.occurrences b.s a.s 0 b.s.length 1).isEmpty
theorem X.inS {s t : Tx} (ha : OV Γ a r ra (Sh.fz dS s) r1) (hb : OV Γ b r1 rb (Sh.fz dS t) r2) (hk : Keep ra r1 r2) : X Γ (.op .inS [a, b]) r (wB (inT s t)) r2 := X.op2 (w := wB (inT s t)) ha hb hk rfl
theorem X.niS {s t : Tx} (ha : OV Γ a r ra (Sh.fz dS s) r1) (hb : OV Γ b r1 rb (Sh.fz dS t) r2) (hk : Keep ra r1 r2) : X Γ (.op .niS [a, b]) r (wB (!inT s t)) r2 := X.op2 (w := wB (!inT s t)) ha hb hk rfl
end
end Sh
end Vx
end

section
set_option maxHeartbeats 1000000
/-! Sh 14: rows with classes. -/
namespace Vx
open PySem L2
namespace Sh
/-- what lets nothing out -/
def noX : Rf → Rf
  | .ex _ _ _ => .bad
  | x => x
theorem noX_ok {x : Rf} {w : W} {us : List W} (h : x = .ok w us) : noX x = .ok w us := by rw [h]; rfl
theorem noX_ne {x : Rf} {cl : Nat} {p : D} {us : List W} (h : noX x = .ex cl p us) : False := by
  cases x <;> cases h
theorem noX_den {x : Rf} (h : noX x ≠ .bad) : x = noX x := by
  cases x with
  | ex cl p us => exact (h rfl).elim
  | _ => rfl
theorem roW {b : List S} {ro io : List Nat} (h : (decide ro.Nodup && ro.all fun i => !(S.modsL b).contains i && !io.contains i) = true) : ro.Nodup ∧ ∀ i ∈ ro, i ∉ S.modsL b ∧ i ∉ io := by
  obtain ⟨h1, h2⟩ := and2 h
  refine ⟨of_decide_eq_true h1, fun i hi => ?_⟩
  obtain ⟨h3, h4⟩ := and2 (List.all_eq_true.mp h2 i hi)
  exact ⟨fun z => noC z h3, fun z => noC z h4⟩
section
variable {K : PySem.W.Frag} {mg : Str → Option Value}
theorem conS {x z : Str} (h : ∃ t, mg x = some (.str z t)) : ∃ u, mg (x, D.str z).1 = some u ∧ RelV (x, D.str z).2.v u := by
  obtain ⟨t, h⟩ := h
  exact ⟨_, h, ⟨t, rfl⟩⟩
theorem tupW {x : Str} {zs : List Str} {a : Addr} (hg : mg x = some (.ref a)) (h : ∀ H, SqT K H a (zs.map V.str)) : ∃ a, mg (x, zs).1 = some (.ref a) ∧ ∀ H, SqT K H a ((x, zs).2.map V.str) := ⟨a, hg, h⟩
/-- a look at a row's end: defs, facts, one test more -/
def obsB (fa : List He.Fa) (fn : List He.DefD) (ex : PySem.W.Frag → Bool) (K : PySem.W.Frag) : He.AlD × Bool := (He.obsD fa fn K, ex K)
def obsBG (n : Nat) (fa : List He.Fa) (fn : List He.DefD) (ex : PySem.W.Frag → Bool) (g : Addr → Option Obj) : He.AlD × Bool := obsB fa fn ex (He.frG g (He.asD g n))
def valB (fn : List He.DefD) : He.AlD × Bool := (He.valD fn, true)
def SaysB (fa : List He.Fa) (fn : List He.DefD) (ex : PySem.W.Frag → Bool) (K : PySem.W.Frag) : Prop := obsB fa fn ex K = valB fn
theorem SaysB.d {fa : List He.Fa} {fn : List He.DefD} {ex : PySem.W.Frag → Bool} (c : SaysB fa fn ex K) : He.SaysD fa fn K := congrArg (fun z : He.AlD × Bool => z.1) c
theorem SaysB.e {fa : List He.Fa} {fn : List He.DefD} {ex : PySem.W.Frag → Bool} (c : SaysB fa fn ex K) : ex K = true := congrArg (fun z : He.AlD × Bool => z.2) c
def hookB (n : Nat) (fa : List He.Fa) (fn : List He.DefD) (ex : PySem.W.Frag → Bool) : PySem.W.Hook where
  α := He.AlD × Bool
  obs := fun s => obsBG n fa fn ex s.heap.get?
  val := fun _ => valB fn
  says := fun _ h => ∃ K : PySem.W.Frag, K.In h ∧ SaysB fa fn ex K
  of := fun _ _ e => ⟨_, He.frG_in, e⟩
  keeps := fun _ _ _ ⟨K, hK, c⟩ k => ⟨K, PySem.W.Frag.In.keeps hK k, c⟩
theorem obsBG_eq {n : Nat} {fa : List He.Fa} {fn : List He.DefD} {ex : PySem.W.Frag → Bool} {g : Addr → Option Obj} {s : Shared} (h : ∀ a, g a = s.heap.get? a) : obsBG n fa fn ex g = (hookB n fa fn ex).obs s := by
  have e : g = s.heap.get? := funext h
  rw [e] <;> rfl
end
end Sh
end Vx
end

section
set_option maxHeartbeats 4000000
set_option synthInstance.maxSize 2000
set_option synthInstance.maxHeartbeats 400000
namespace Vx
open PySem L2
namespace Hs
open Sh
def tx0 : Tx := ⟨"abcdefghijklmnopqrstuvwxyz", by decide +kernel, by decide +kernel⟩
def tx1 : Tx := ⟨"hand", by decide +kernel, by decide +kernel⟩
def tx2 : Tx := ⟨"cup", by decide +kernel, by decide +kernel⟩
def N_is_name : List Str := ["text", "sign"]
def b_is_name : List S := [.ret (.and (.chn .lt .lt (.con (.int 0)) (.op .len [(.bo (.sl 0))]) (.con (.int 9))) (.op .allB [(.tm (.lc [("sign", 1)] (.nm 1) (.st (.bo (.sl 0))) none (.op .inS [(.bo (.sl 1)), (.tm (.gl "LETTERS" (.str "abcdefghijklmnopqrstuvwxyz")))])))]))]
def N_is_within : List Str := ["number", "low", "high"]
def b_is_within : List S := [.ret (.chn .le .le (.gt (.sl 1)) (.gt (.sl 0)) (.gt (.sl 2)))]
def N_House_stand : List Str := ["self", "tables"]
def b_House_stand : List S := [.asg 1 (.tup [(.fz (.op .dcp [(.bo (.fd (.sl 0) 0 "halls"))])), (.fz (.op .dcp [(.bo (.fd (.sl 0) 0 "held"))])), (.fz (.op .dcp [(.bo (.fd (.sl 0) 0 "slips"))])), (.fz (.op .dcp [(.bo (.fd (.sl 0) 0 "fences"))])), (.fz (.op .dcp [(.bo (.fd (.sl 0) 0 "bills"))]))]),
.ret (.op .catT [(.bo (.sl 1)), (.tm (.tup [(.gt (.fd (.sl 0) 0 "rates")), (.gt (.fd (.sl 0) 0 "later"))]))])]
def N_House_bring : List Str := ["self", "stood"]
def b_House_bring : List S := [.setf (.sl 0) 0 "halls" (.op .dcp [(.bo (.ix (.sl 1) (.con (.int 0))))]),
.setf (.sl 0) 0 "held" (.op .dcp [(.bo (.ix (.sl 1) (.con (.int 1))))]),
.setf (.sl 0) 0 "slips" (.op .dcp [(.bo (.ix (.sl 1) (.con (.int 2))))]),
.setf (.sl 0) 0 "fences" (.op .dcp [(.bo (.ix (.sl 1) (.con (.int 3))))]),
.setf (.sl 0) 0 "bills" (.op .dcp [(.bo (.ix (.sl 1) (.con (.int 4))))]),
.setf (.sl 0) 0 "rates" (.gt (.ix (.sl 1) (.con (.int 5)))),
.setf (.sl 0) 0 "later" (.gt (.ix (.sl 1) (.con (.int 6))))]
def N_House_remember : List Str := ["self"]
def b_House_remember : List S := [.app (.fd (.sl 0) 0 "past") (.meth 0 "stand" 15 [(.ro 0)]),
.setf (.sl 0) 0 "future" (.lst [])]
def N_House_look_place : List Str := ["self", "name"]
def b_House_look_place : List S := [.iff (.op .niK [(.bo (.sl 1)), (.bo (.fd (.sl 0) 0 "halls"))])
[.nev]
[]]
def N_House_look_thing : List Str := ["self", "name"]
def b_House_look_thing : List S := [.iff (.op .niK [(.bo (.sl 1)), (.bo (.fd (.sl 0) 0 "held"))])
[.nev]
[]]
def N_House_place : List Str := ["self", "name", "word"]
def b_House_place : List S := [.iff (.not (.call 12 [(.va (.gt (.sl 1)))]))
[.nev]
[],
.iff (.op .inK [(.bo (.sl 1)), (.bo (.fd (.sl 0) 0 "halls"))])
[.nev]
[],
.iff (.inG true (.gt (.sl 2)) "WORDS" ["lit", "dark", "bench", "out"])
[.nev]
[],
.iff (.op .ge [(.tm (.op .len [(.bo (.fd (.sl 0) 0 "halls"))])), (.tm (.gl "PLACES_MOST" (.int 12)))])
[.nev]
[],
.ex (.meth 0 "remember" 17 [(.io 0)]),
.setk (.fd (.sl 0) 0 "halls") (.gt (.sl 1)) (.gt (.sl 2))]
def N_House_look_new : List Str := ["self", "name", "kind", "low", "high", "limit"]
def b_House_look_new : List S := [.iff (.not (.call 12 [(.va (.gt (.sl 1)))]))
[.nev]
[],
.iff (.op .inK [(.bo (.sl 1)), (.bo (.fd (.sl 0) 0 "held"))])
[.nev]
[],
.iff (.not (.call 12 [(.va (.gt (.sl 2)))]))
[.nev]
[],
.iff (.or (.not (.call 13 [(.va (.gt (.sl 3))), (.va (.con (.int 0))), (.va (.gl "DAMP_MOST" (.int 100)))])) (.not (.call 13 [(.va (.gt (.sl 4))), (.va (.gt (.sl 3))), (.va (.gl "DAMP_MOST" (.int 100)))])))
[.nev]
[],
.iff (.not (.call 13 [(.va (.gt (.sl 5))), (.va (.con (.int 0))), (.va (.gl "LIMIT_MOST" (.int 1000000)))]))
[.nev]
[]]
def N_House_thing : List Str := ["self", "name", "kind", "low", "high", "limit", "day", "home", "grade"]
def b_House_thing : List S := [.ex (.meth 0 "look_new" 21 [(.ro 0), (.va (.gt (.sl 1))), (.va (.gt (.sl 2))), (.va (.gt (.sl 3))), (.va (.gt (.sl 4))), (.va (.gt (.sl 5)))]),
.iff (.not (.call 13 [(.va (.gt (.sl 6))), (.va (.con (.int 0))), (.va (.gl "DAY_MOST" (.int 1000000000)))]))
[.nev]
[],
.ex (.meth 0 "look_place" 18 [(.ro 0), (.va (.gt (.sl 7)))]),
.iff (.not (.call 13 [(.va (.gt (.sl 8))), (.va (.con (.int 0))), (.va (.gl "GRADE_MOST" (.int 9)))]))
[.nev]
[],
.iff (.op .ge [(.tm (.op .len [(.bo (.fd (.sl 0) 0 "held"))])), (.tm (.gl "THINGS_MOST" (.int 12)))])
[.nev]
[],
.ex (.meth 0 "remember" 17 [(.io 0)]),
.setk (.fd (.sl 0) 0 "held") (.gt (.sl 1)) (.tup [(.gt (.sl 1)), (.gt (.sl 2)), (.gt (.sl 3)), (.gt (.sl 4)), (.gt (.sl 5)), (.tup [(.gt (.sl 6)), (.gt (.sl 7)), (.gt (.sl 8))])])]
def N_House_papers : List Str := ["self", "thing", "numbers", "number"]
def b_House_papers : List S := [.ex (.meth 0 "look_thing" 19 [(.ro 0), (.va (.gt (.sl 1)))]),
.asg 2 (.op .sorted [(.tm (.op .keys [(.bo (.fd (.sl 0) 0 "slips"))]))]),
.ret (.lc [("number", 3)] (.nm 3) (.sq (.bo (.sl 2))) (some (.op .eqD [(.tm (.op (.slice false true) [(.bo (.ky (.fd (.sl 0) 0 "slips") (.gt (.sl 3)))), (.tm (.con (.int 2)))])), (.tm (.tup [(.con (.str "hand")), (.gt (.sl 1))]))])) (.gt (.ix (.ky (.fd (.sl 0) 0 "slips") (.gt (.sl 3))) (.con (.int 2)))))]
def N_House_put_slip : List Str := ["self", "word", "thing", "rest", "number"]
def b_House_put_slip : List S := [.ex (.meth 0 "remember" 17 [(.io 0)]),
.asg 4 (.gt (.fd (.sl 0) 0 "later")),
.setk (.fd (.sl 0) 0 "slips") (.gt (.sl 4)) (.tup [(.gt (.sl 1)), (.gt (.sl 2)), (.op .catT [(.tm (.tup [(.gt (.sl 4))])), (.bo (.sl 3))])]),
.setf (.sl 0) 0 "later" (.op .add [(.bo (.sl 4)), (.tm (.con (.int 1)))]),
.ret (.gt (.sl 4))]
def N_House_hand : List Str := ["self", "thing", "day", "here", "there", "grade", "paper"]
def b_House_hand : List S := [.ex (.meth 0 "look_thing" 19 [(.ro 0), (.va (.gt (.sl 1)))]),
.iff (.not (.call 13 [(.va (.gt (.sl 2))), (.va (.con (.int 0))), (.va (.gl "DAY_MOST" (.int 1000000000)))]))
[.nev]
[],
.ex (.meth 0 "look_place" 18 [(.ro 0), (.va (.gt (.sl 3)))]),
.ex (.meth 0 "look_place" 18 [(.ro 0), (.va (.gt (.sl 4)))]),
.iff (.not (.call 13 [(.va (.gt (.sl 5))), (.va (.con (.int 0))), (.va (.gl "GRADE_MOST" (.int 9)))]))
[.nev]
[],
.iff (.op .le [(.bo (.sl 2)), (.bo (.ix (.ix (.ky (.fd (.sl 0) 0 "held") (.gt (.sl 1))) (.con (.int 5))) (.con (.int 0))))])
[.nev]
[],
.iff (.op .inQ [(.bo (.sl 2)), (.tm (.lc [("paper", 6)] (.nm 6) (.sq (.tm (.meth 0 "papers" 23 [(.ro 0), (.va (.gt (.sl 1)))]))) none (.gt (.ix (.sl 6) (.con (.int 1))))))])
[.nev]
[],
.iff (.op .ge [(.tm (.op .len [(.bo (.fd (.sl 0) 0 "slips"))])), (.tm (.gl "PAPERS_MOST" (.int 60)))])
[.nev]
[],
.ret (.meth 0 "put_slip" 24 [(.io 0), (.va (.con (.str "hand"))), (.va (.gt (.sl 1))), (.va (.tup [(.gt (.sl 2)), (.gt (.sl 3)), (.gt (.sl 4)), (.gt (.sl 5))]))])]
def N_House_strike : List Str := ["self", "number"]
def b_House_strike : List S := [.iff (.op .niK [(.bo (.sl 1)), (.bo (.fd (.sl 0) 0 "slips"))])
[.nev]
[],
.ex (.meth 0 "remember" 17 [(.io 0)]),
.ex (.popk (.fd (.sl 0) 0 "slips") (.gt (.sl 1)))]
def N_House_reprice : List Str := ["self", "doubt", "gap"]
def b_House_reprice : List S := [.iff (.or (.not (.call 13 [(.va (.gt (.sl 1))), (.va (.con (.int 1))), (.va (.gl "PRICE_MOST" (.int 9)))])) (.not (.call 13 [(.va (.gt (.sl 2))), (.va (.con (.int 1))), (.va (.gl "PRICE_MOST" (.int 9)))])))
[.nev]
[],
.ex (.meth 0 "remember" 17 [(.io 0)]),
.setf (.sl 0) 0 "rates" (.tup [(.gt (.sl 1)), (.gt (.sl 2))])]
def N_House_undo : List Str := ["self"]
def b_House_undo : List S := [.iff (.op .eqF [(.tm (.op .len [(.bo (.fd (.sl 0) 0 "past"))])), (.tm (.con (.int 0)))])
[.nev]
[],
.app (.fd (.sl 0) 0 "future") (.meth 0 "stand" 15 [(.ro 0)]),
.ex (.meth 0 "bring" 16 [(.io 0), (.va (.popv (.fd (.sl 0) 0 "past")))])]
def N_House_redo : List Str := ["self"]
def b_House_redo : List S := [.iff (.op .eqF [(.tm (.op .len [(.bo (.fd (.sl 0) 0 "future"))])), (.tm (.con (.int 0)))])
[.nev]
[],
.app (.fd (.sl 0) 0 "past") (.meth 0 "stand" 15 [(.ro 0)]),
.ex (.meth 0 "bring" 16 [(.io 0), (.va (.popv (.fd (.sl 0) 0 "future")))])]
def N_House_things : List Str := ["self", "name"]
def b_House_things : List S := [.ret (.lc [("name", 1)] (.nm 1) (.sq (.tm (.op .sorted [(.tm (.op .keys [(.bo (.fd (.sl 0) 0 "held"))]))]))) none (.gt (.ky (.fd (.sl 0) 0 "held") (.gt (.sl 1)))))]
def N_House_prices : List Str := ["self"]
def b_House_prices : List S := [.ret (.gt (.fd (.sl 0) 0 "rates"))]
def N_House_upcoming : List Str := ["self"]
def b_House_upcoming : List S := [.ret (.gt (.fd (.sl 0) 0 "later"))]
def N_law_numbers : List Str := ["_law_house", "_law_paper"]
def b_law_numbers : List S := [.iff (.op .eqD [(.tm (.meth 0 "things" 30 [(.ro 0)])), (.tm (.lst []))])
[.ret (.tup [(.meth 0 "prices" 31 [(.ro 0)]), (.meth 0 "upcoming" 32 [(.ro 0)]), (.fz (.lst []))])]
[],
.ret (.tup [(.meth 0 "prices" 31 [(.ro 0)]), (.meth 0 "upcoming" 32 [(.ro 0)]), (.fz (.lc [("_law_paper", 1)] (.nm 1) (.sq (.tm (.meth 0 "papers" 23 [(.ro 0), (.va (.con (.str "cup")))]))) none (.gt (.ix (.sl 1) (.con (.int 0))))))])]
def N_House___init : List Str := ["self"]
def b_House___init : List S := [.setf (.sl 0) 0 "halls" .dnK, .setf (.sl 0) 0 "held" .dnK, .setf (.sl 0) 0 "slips" .dnK, .setf (.sl 0) 0 "fences" .dnT, .setf (.sl 0) 0 "bills" .dnK, .setf (.sl 0) 0 "rates" (.tup [.con (.int 1), .con (.int 1)]), .setf (.sl 0) 0 "later" (.con (.int 1)), .setf (.sl 0) 0 "past" (.lst []), .setf (.sl 0) 0 "future" (.lst [])]
def Dn : Nat → Den
  | 0 => fun _ _ => .bad
  | n + 1 => fun f ws => match f with
    | 1 => runF (Dn n) 4 [] b_law_mixed ws
    | 2 => runF (Dn n) 4 [0] b_law_take ws
    | 12 => runF (Dn n) 2 [] b_is_name ws
    | 13 => runF (Dn n) 3 [] b_is_within ws
    | 15 => noX (runF (Dn n) 2 [] b_House_stand ws)
    | 16 => runF (Dn n) 2 [0] b_House_bring ws
    | 17 => runF (Dn n) 1 [0] b_House_remember ws
    | 18 => noX (runF (Dn n) 2 [] b_House_look_place ws)
    | 19 => noX (runF (Dn n) 2 [] b_House_look_thing ws)
    | 20 => runF (Dn n) 3 [0] b_House_place ws
    | 21 => noX (runF (Dn n) 6 [] b_House_look_new ws)
    | 22 => runF (Dn n) 9 [0] b_House_thing ws
    | 23 => noX (runF (Dn n) 4 [] b_House_papers ws)
    | 24 => runF (Dn n) 5 [0] b_House_put_slip ws
    | 25 => runF (Dn n) 7 [0] b_House_hand ws
    | 26 => runF (Dn n) 2 [0] b_House_strike ws
    | 27 => runF (Dn n) 3 [0] b_House_reprice ws
    | 28 => runF (Dn n) 1 [0] b_House_undo ws
    | 29 => runF (Dn n) 1 [0] b_House_redo ws
    | 30 => noX (runF (Dn n) 2 [] b_House_things ws)
    | 31 => noX (runF (Dn n) 1 [] b_House_prices ws)
    | 32 => noX (runF (Dn n) 1 [] b_House_upcoming ws)
    | 33 => noX (runF (Dn n) 2 [] b_law_numbers ws)
    | 14 => runF (Dn n) 1 [0] b_House___init ws
    | _ => .bad
theorem dn_is_name (n : Nat) (ws : List W) : Dn (n + 1) 12 ws = runF (Dn n) 2 [] b_is_name ws := rfl
theorem dn_is_within (n : Nat) (ws : List W) : Dn (n + 1) 13 ws = runF (Dn n) 3 [] b_is_within ws := rfl
theorem dn_House_stand (n : Nat) (ws : List W) : Dn (n + 1) 15 ws = noX (runF (Dn n) 2 [] b_House_stand ws) := rfl
theorem dn_House_bring (n : Nat) (ws : List W) : Dn (n + 1) 16 ws = runF (Dn n) 2 [0] b_House_bring ws := rfl
theorem dn_House_remember (n : Nat) (ws : List W) : Dn (n + 1) 17 ws = runF (Dn n) 1 [0] b_House_remember ws := rfl
theorem dn_House_look_place (n : Nat) (ws : List W) : Dn (n + 1) 18 ws = noX (runF (Dn n) 2 [] b_House_look_place ws) := rfl
theorem dn_House_look_thing (n : Nat) (ws : List W) : Dn (n + 1) 19 ws = noX (runF (Dn n) 2 [] b_House_look_thing ws) := rfl
theorem dn_House_place (n : Nat) (ws : List W) : Dn (n + 1) 20 ws = runF (Dn n) 3 [0] b_House_place ws := rfl
theorem dn_House_look_new (n : Nat) (ws : List W) : Dn (n + 1) 21 ws = noX (runF (Dn n) 6 [] b_House_look_new ws) := rfl
theorem dn_House_thing (n : Nat) (ws : List W) : Dn (n + 1) 22 ws = runF (Dn n) 9 [0] b_House_thing ws := rfl
theorem dn_House_papers (n : Nat) (ws : List W) : Dn (n + 1) 23 ws = noX (runF (Dn n) 4 [] b_House_papers ws) := rfl
theorem dn_House_put_slip (n : Nat) (ws : List W) : Dn (n + 1) 24 ws = runF (Dn n) 5 [0] b_House_put_slip ws := rfl
theorem dn_House_hand (n : Nat) (ws : List W) : Dn (n + 1) 25 ws = runF (Dn n) 7 [0] b_House_hand ws := rfl
theorem dn_House_strike (n : Nat) (ws : List W) : Dn (n + 1) 26 ws = runF (Dn n) 2 [0] b_House_strike ws := rfl
theorem dn_House_reprice (n : Nat) (ws : List W) : Dn (n + 1) 27 ws = runF (Dn n) 3 [0] b_House_reprice ws := rfl
theorem dn_House_undo (n : Nat) (ws : List W) : Dn (n + 1) 28 ws = runF (Dn n) 1 [0] b_House_undo ws := rfl
theorem dn_House_redo (n : Nat) (ws : List W) : Dn (n + 1) 29 ws = runF (Dn n) 1 [0] b_House_redo ws := rfl
theorem dn_House_things (n : Nat) (ws : List W) : Dn (n + 1) 30 ws = noX (runF (Dn n) 2 [] b_House_things ws) := rfl
theorem dn_House_prices (n : Nat) (ws : List W) : Dn (n + 1) 31 ws = noX (runF (Dn n) 1 [] b_House_prices ws) := rfl
theorem dn_House_upcoming (n : Nat) (ws : List W) : Dn (n + 1) 32 ws = noX (runF (Dn n) 1 [] b_House_upcoming ws) := rfl
theorem dn_law_numbers (n : Nat) (ws : List W) : Dn (n + 1) 33 ws = noX (runF (Dn n) 2 [] b_law_numbers ws) := rfl
theorem dn_House___init (n : Nat) (ws : List W) : Dn (n + 1) 14 ws = runF (Dn n) 1 [0] b_House___init ws := rfl
theorem dn_law_mixed (n : Nat) (ws : List W) : Dn (n + 1) 1 ws = runF (Dn n) 4 [] b_law_mixed ws := rfl
theorem dn_law_take (n : Nat) (ws : List W) : Dn (n + 1) 2 ws = runF (Dn n) 4 [0] b_law_take ws := rfl
theorem ok_law_take (m : Nat) {b : Bx} {z : Int} {v : Int × Bx} (h : s_law_take b z = some v) : Dn (m + 2) 2 [b.w, fz dI z] = .ok (fz dI v.1) [v.2.w] := (dn_law_take (m + 1) _).trans (take_run (fun n t => (dn_law_mixed m _).trans (mixed_run _ n t)) h)
structure Ho where
  halls : (Dc Tx Tx)
  held : (Dc Tx (Tx × Tx × Int × Int × Int × (Int × Tx × Int)))
  slips : (Dc Int (Tx × Tx × (Int × Int × Tx × Tx × Int)))
  fences : Unit
  bills : Unit
  rates : (Int × Int)
  later : Int
  past : (List ((Dc Tx Tx) × (Dc Tx (Tx × Tx × Int × Int × Int × (Int × Tx × Int))) × (Dc Int (Tx × Tx × (Int × Int × Tx × Tx × Int))) × Unit × Unit × (Int × Int) × Int))
  future : (List ((Dc Tx Tx) × (Dc Tx (Tx × Tx × Int × Int × Int × (Int × Tx × Int))) × (Dc Int (Tx × Tx × (Int × Int × Tx × Tx × Int))) × Unit × Unit × (Int × Int) × Int))
def hoF : List Str := ["halls", "held", "slips", "fences", "bills", "rates", "later", "past", "future"]
def Ho.w (h : Ho) : W := .nd (.ins 0 hoF) [oDK kS dS h.halls, oDK kS (d6 dS dS dI dI dI (d3 dI dS dI)) h.held, oDK kI (d3 dS dS (d5 dI dI dS dS dI)) h.slips, oE1 h.fences, oE0 h.bills, fz (d2 dI dI) h.rates, fz dI h.later, oL (d7 (dDK kS dS) (dDK kS (d6 dS dS dI dI dI (d3 dI dS dI))) (dDK kI (d3 dS dS (d5 dI dI dS dS dI))) dE1 dE0 (d2 dI dI) dI) h.past, oL (d7 (dDK kS dS) (dDK kS (d6 dS dS dI dI dI (d3 dI dS dI))) (dDK kI (d3 dS dS (d5 dI dI dS dS dI))) dE1 dE0 (d2 dI dI) dI) h.future]
def Ho.nil : Ho := ⟨Dc.nil, Dc.nil, Dc.nil, (), (), (1, 1), 1, [], []⟩
abbrev Ho.s_halls (h : Ho) (v : (Dc Tx Tx)) : Ho := { h with halls := v }
theorem at_halls : atZ hoF "halls" = some 0 := by decide +kernel
abbrev Ho.s_held (h : Ho) (v : (Dc Tx (Tx × Tx × Int × Int × Int × (Int × Tx × Int)))) : Ho := { h with held := v }
theorem at_held : atZ hoF "held" = some 1 := by decide +kernel
abbrev Ho.s_slips (h : Ho) (v : (Dc Int (Tx × Tx × (Int × Int × Tx × Tx × Int)))) : Ho := { h with slips := v }
theorem at_slips : atZ hoF "slips" = some 2 := by decide +kernel
abbrev Ho.s_fences (h : Ho) (v : Unit) : Ho := { h with fences := v }
theorem at_fences : atZ hoF "fences" = some 3 := by decide +kernel
abbrev Ho.s_bills (h : Ho) (v : Unit) : Ho := { h with bills := v }
theorem at_bills : atZ hoF "bills" = some 4 := by decide +kernel
abbrev Ho.s_rates (h : Ho) (v : (Int × Int)) : Ho := { h with rates := v }
theorem at_rates : atZ hoF "rates" = some 5 := by decide +kernel
abbrev Ho.s_later (h : Ho) (v : Int) : Ho := { h with later := v }
theorem at_later : atZ hoF "later" = some 6 := by decide +kernel
abbrev Ho.s_past (h : Ho) (v : (List ((Dc Tx Tx) × (Dc Tx (Tx × Tx × Int × Int × Int × (Int × Tx × Int))) × (Dc Int (Tx × Tx × (Int × Int × Tx × Tx × Int))) × Unit × Unit × (Int × Int) × Int))) : Ho := { h with past := v }
theorem at_past : atZ hoF "past" = some 7 := by decide +kernel
abbrev Ho.s_future (h : Ho) (v : (List ((Dc Tx Tx) × (Dc Tx (Tx × Tx × Int × Int × Int × (Int × Tx × Int))) × (Dc Int (Tx × Tx × (Int × Int × Tx × Tx × Int))) × Unit × Unit × (Int × Int) × Int))) : Ho := { h with future := v }
theorem at_future : atZ hoF "future" = some 8 := by decide +kernel
theorem hoF_ok : (decide (hoF.length < 1000) && decide hoF.Nodup) = true := by decide +kernel
theorem nc_House___init : hoF.contains "__init__" = false := by decide +kernel
theorem nc_House_stand : hoF.contains "stand" = false := by decide +kernel
theorem nc_House_bring : hoF.contains "bring" = false := by decide +kernel
theorem nc_House_remember : hoF.contains "remember" = false := by decide +kernel
theorem nc_House_look_place : hoF.contains "look_place" = false := by decide +kernel
theorem nc_House_look_thing : hoF.contains "look_thing" = false := by decide +kernel
theorem nc_House_place : hoF.contains "place" = false := by decide +kernel
theorem nc_House_look_new : hoF.contains "look_new" = false := by decide +kernel
theorem nc_House_thing : hoF.contains "thing" = false := by decide +kernel
theorem nc_House_papers : hoF.contains "papers" = false := by decide +kernel
theorem nc_House_put_slip : hoF.contains "put_slip" = false := by decide +kernel
theorem nc_House_hand : hoF.contains "hand" = false := by decide +kernel
theorem nc_House_strike : hoF.contains "strike" = false := by decide +kernel
theorem nc_House_reprice : hoF.contains "reprice" = false := by decide +kernel
theorem nc_House_undo : hoF.contains "undo" = false := by decide +kernel
theorem nc_House_redo : hoF.contains "redo" = false := by decide +kernel
theorem nc_House_things : hoF.contains "things" = false := by decide +kernel
theorem nc_House_prices : hoF.contains "prices" = false := by decide +kernel
theorem nc_House_upcoming : hoF.contains "upcoming" = false := by decide +kernel
theorem ok_House___init__ (m : Nat) : Dn (m + 1) 14 [.nd (.ins 0 []) []] = .ok wN [Ho.nil.w] := rfl
def s_is_name (x_text : Tx) : Option Bool :=
  ob (if (decide (0 < (x_text.s.length : Int)) && decide ((x_text.s.length : Int) < 9)) = true then
      ob (mapC (fun (x1 : Tx) => inT x1 tx0) (sgT x_text)) fun v3 =>
      some (v3.all id)
    else
      some false
    ) fun v4 =>
  some v4
def RT_is_name (v : Bool) (o : Out) : Prop := fin [] o = .ok (fz dB v) []
theorem ok_is_name (m : Nat) {x_text : Tx} {v : Bool} (h : s_is_name x_text = some v) : Dn (m + 1) 12 [fz dS x_text] = .ok (fz dB v) [] := by
  refine (dn_is_name (m + 0) _).trans (def_run ?_)
  show Run (Dn (m + 0)) b_is_name [some (fz dS x_text), none] (RT_is_name v)
  unfold s_is_name at h
  have t := ob_some h; clear h; obtain ⟨v4, e4, h⟩ := t
  have b4 : X (Dn (m + 0)) (.and (.chn .lt .lt (.con (.int 0)) (.op .len [(.bo (.sl 0))]) (.con (.int 9))) (.op .allB [(.tm (.lc [("sign", 1)] (.nm 1) (.st (.bo (.sl 0))) none (.op .inS [(.bo (.sl 1)), (.tm (.gl "LETTERS" (.str "abcdefghijklmnopqrstuvwxyz")))])))])) [some (fz dS x_text), none] (wB v4) [some (fz dS x_text), none] := by
    clear h
    rcases ite_some e4 with ⟨hc, h⟩ | ⟨hc, h⟩
    · skip
      have t := ob_some h; clear h; obtain ⟨v3, e3, h⟩ := t
      obtain rfl := Option.some.inj h
      exact X.andT (X.chn X.conI (X.lenS (OV.bo (PW.sl rfl))) X.conI rfl rfl) hc (X.allB (OV.tmL (X.lcM (g := dB) e3 (XI.st (OV.bo (PW.sl rfl))) rfl (fun x1 => ⟨[some (fz dS x_text), some (fz dS x1)], (TB.nm (lt_of rfl) rfl), (X.inS (OV.bo (PW.sl rfl)) (OV.tm (X.glS tx0)) rfl), rfl⟩))) IsL.fz)
    · obtain rfl := Option.some.inj h
      exact X.andF (X.chn X.conI (X.lenS (OV.bo (PW.sl rfl))) X.conI rfl rfl) hc
  obtain rfl := Option.some.inj h
  exact Run.ret b4 rfl
def s_is_within (x_number : Int) (x_low : Int) (x_high : Int) : Bool :=
  (decide (x_low ≤ x_number) && decide (x_number ≤ x_high))
def RT_is_within (v : Bool) (o : Out) : Prop := fin [] o = .ok (fz dB v) []
theorem ok_is_within (m : Nat) (x_number : Int) (x_low : Int) (x_high : Int) : Dn (m + 1) 13 [fz dI x_number, fz dI x_low, fz dI x_high] = .ok (fz dB (s_is_within x_number x_low x_high)) [] := by
  have h : (
    some (decide (x_low ≤ x_number) && decide (x_number ≤ x_high)) : Option Bool) = some (s_is_within x_number x_low x_high) := by
    unfold s_is_within
    first | rfl | simp only [apply_ite some]
  generalize s_is_within x_number x_low x_high = v at h ⊢
  refine (dn_is_within (m + 0) _).trans (def_run ?_)
  show Run (Dn (m + 0)) b_is_within [some (fz dI x_number), some (fz dI x_low), some (fz dI x_high)] (RT_is_within v)
  obtain rfl := Option.some.inj h
  exact Run.ret (X.chn (X.gt (PW.sl rfl)) (X.gt (PW.sl rfl)) (X.gt (PW.sl rfl)) rfl rfl) rfl
def s_House_stand (x_self : Ho) : Option ((Dc Tx Tx) × (Dc Tx (Tx × Tx × Int × Int × Int × (Int × Tx × Int))) × (Dc Int (Tx × Tx × (Int × Int × Tx × Tx × Int))) × Unit × Unit × (Int × Int) × Int) :=
  ob (Dc.cpO x_self.halls) fun v1 =>
  ob (Dc.cpO x_self.held) fun v2 =>
  ob (Dc.cpO x_self.slips) fun v3 =>
  some (v1, v2, v3, (), (), x_self.rates, x_self.later)
def RT_House_stand (v : ((Dc Tx Tx) × (Dc Tx (Tx × Tx × Int × Int × Int × (Int × Tx × Int))) × (Dc Int (Tx × Tx × (Int × Int × Tx × Tx × Int))) × Unit × Unit × (Int × Int) × Int)) (o : Out) : Prop := fin [] o = .ok (fz (d7 (dDK kS dS) (dDK kS (d6 dS dS dI dI dI (d3 dI dS dI))) (dDK kI (d3 dS dS (d5 dI dI dS dS dI))) dE1 dE0 (d2 dI dI) dI) v) []
theorem ok_House_stand (m : Nat) {x_self : Ho} {v : ((Dc Tx Tx) × (Dc Tx (Tx × Tx × Int × Int × Int × (Int × Tx × Int))) × (Dc Int (Tx × Tx × (Int × Int × Tx × Tx × Int))) × Unit × Unit × (Int × Int) × Int)} (h : s_House_stand x_self = some v) : Dn (m + 1) 15 [Ho.w x_self] = .ok (fz (d7 (dDK kS dS) (dDK kS (d6 dS dS dI dI dI (d3 dI dS dI))) (dDK kI (d3 dS dS (d5 dI dI dS dS dI))) dE1 dE0 (d2 dI dI) dI) v) [] := by
  refine (dn_House_stand (m + 0) _).trans (noX_ok <| def_run ?_)
  show Run (Dn (m + 0)) b_House_stand [some (Ho.w x_self), none] (RT_House_stand v)
  unfold s_House_stand at h
  have t := ob_some h; clear h; obtain ⟨v1, e1, h⟩ := t
  have t := ob_some h; clear h; obtain ⟨v2, e2, h⟩ := t
  have t := ob_some h; clear h; obtain ⟨v3, e3, h⟩ := t
  refine Run.asg (r2 := [some (Ho.w x_self), some (fz (d5 (dDK kS dS) (dDK kS (d6 dS dS dI dI dI (d3 dI dS dI))) (dDK kI (d3 dS dS (d5 dI dI dS dS dI))) dE1 dE0) (v1, v2, v3, (), ()))]) (X.tup (w := fz (d5 (dDK kS dS) (dDK kS (d6 dS dS dI dI dI (d3 dI dS dI))) (dDK kI (d3 dS dS (d5 dI dI dS dS dI))) dE1 dE0) (v1, v2, v3, (), ())) (XE.cons (X.fzDK (X.dcpK (OV.bo (PW.fd (n := 0) (PW.sl rfl) (stepFd_at at_halls) rfl)) IsD.ow e1)) (XE.cons (X.fzDK (X.dcpK (OV.bo (PW.fd (n := 1) (PW.sl rfl) (stepFd_at at_held) rfl)) IsD.ow e2)) (XE.cons (X.fzDK (X.dcpK (OV.bo (PW.fd (n := 2) (PW.sl rfl) (stepFd_at at_slips) rfl)) IsD.ow e3)) (XE.cons (X.fz (X.dcp1 (OV.bo (PW.fd (n := 3) (PW.sl rfl) (stepFd_at at_fences) rfl)) (.inr rfl))) (XE.cons (X.fz (X.dcp0 (OV.bo (PW.fd (n := 4) (PW.sl rfl) (stepFd_at at_bills) rfl)) (.inr rfl))) XE.nil))))) rfl rfl) (lt_of rfl) rfl ?_
  obtain rfl := Option.some.inj h
  exact Run.ret (X.catT (w := fz (d7 (dDK kS dS) (dDK kS (d6 dS dS dI dI dI (d3 dI dS dI))) (dDK kI (d3 dS dS (d5 dI dI dS dS dI))) dE1 dE0 (d2 dI dI) dI) (v1, v2, v3, (), (), x_self.rates, x_self.later)) (OV.bo (PW.sl rfl)) (OV.tm (X.tup (w := fz (d2 (d2 dI dI) dI) (x_self.rates, x_self.later)) (XE.cons (X.gt (PW.fd (n := 5) (PW.sl rfl) (stepFd_at at_rates) rfl)) (XE.cons (X.gt (PW.fd (n := 6) (PW.sl rfl) (stepFd_at at_later) rfl)) XE.nil)) rfl rfl)) rfl rfl rfl) rfl
def s_House_bring (x_self : Ho) (x_stood : ((Dc Tx Tx) × (Dc Tx (Tx × Tx × Int × Int × Int × (Int × Tx × Int))) × (Dc Int (Tx × Tx × (Int × Int × Tx × Tx × Int))) × Unit × Unit × (Int × Int) × Int)) : Option (Unit × Ho) :=
  ob (Dc.cpO x_stood.1) fun v1 =>
  ob (Dc.cpO x_stood.2.1) fun v2 =>
  ob (Dc.cpO x_stood.2.2.1) fun v3 =>
  some ((), (Ho.s_later (Ho.s_rates (Ho.s_bills (Ho.s_fences (Ho.s_slips (Ho.s_held (Ho.s_halls x_self v1) v2) v3) ()) ()) x_stood.2.2.2.2.2.1) x_stood.2.2.2.2.2.2))
def RT_House_bring (v : (Unit × Ho)) (o : Out) : Prop := fin [0] o = .ok (wN) [Ho.w v.2]
theorem ok_House_bring (m : Nat) {x_self : Ho} {x_stood : ((Dc Tx Tx) × (Dc Tx (Tx × Tx × Int × Int × Int × (Int × Tx × Int))) × (Dc Int (Tx × Tx × (Int × Int × Tx × Tx × Int))) × Unit × Unit × (Int × Int) × Int)} {v : (Unit × Ho)} (h : s_House_bring x_self x_stood = some v) : Dn (m + 1) 16 [Ho.w x_self, fz (d7 (dDK kS dS) (dDK kS (d6 dS dS dI dI dI (d3 dI dS dI))) (dDK kI (d3 dS dS (d5 dI dI dS dS dI))) dE1 dE0 (d2 dI dI) dI) x_stood] = .ok (wN) [Ho.w v.2] := by
  refine (dn_House_bring (m + 0) _).trans (def_run ?_)
  show Run (Dn (m + 0)) b_House_bring [some (Ho.w x_self), some (fz (d7 (dDK kS dS) (dDK kS (d6 dS dS dI dI dI (d3 dI dS dI))) (dDK kI (d3 dS dS (d5 dI dI dS dS dI))) dE1 dE0 (d2 dI dI) dI) x_stood)] (RT_House_bring v)
  unfold s_House_bring at h
  have t := ob_some h; clear h; obtain ⟨v1, e1, h⟩ := t
  refine Run.setf (r2 := [some (Ho.w (Ho.s_halls x_self v1)), some (fz (d7 (dDK kS dS) (dDK kS (d6 dS dS dI dI dI (d3 dI dS dI))) (dDK kI (d3 dS dS (d5 dI dI dS dS dI))) dE1 dE0 (d2 dI dI) dI) x_stood)]) (X.dcpK (OV.bo (PW.ixT (n := 0) (PW.sl rfl) rfl)) IsD.fz e1) rfl at_halls rfl hoF_ok rfl ?_
  have t := ob_some h; clear h; obtain ⟨v2, e2, h⟩ := t
  refine Run.setf (r2 := [some (Ho.w (Ho.s_held (Ho.s_halls x_self v1) v2)), some (fz (d7 (dDK kS dS) (dDK kS (d6 dS dS dI dI dI (d3 dI dS dI))) (dDK kI (d3 dS dS (d5 dI dI dS dS dI))) dE1 dE0 (d2 dI dI) dI) x_stood)]) (X.dcpK (OV.bo (PW.ixT (n := 1) (PW.sl rfl) rfl)) IsD.fz e2) rfl at_held rfl hoF_ok rfl ?_
  have t := ob_some h; clear h; obtain ⟨v3, e3, h⟩ := t
  refine Run.setf (r2 := [some (Ho.w (Ho.s_slips (Ho.s_held (Ho.s_halls x_self v1) v2) v3)), some (fz (d7 (dDK kS dS) (dDK kS (d6 dS dS dI dI dI (d3 dI dS dI))) (dDK kI (d3 dS dS (d5 dI dI dS dS dI))) dE1 dE0 (d2 dI dI) dI) x_stood)]) (X.dcpK (OV.bo (PW.ixT (n := 2) (PW.sl rfl) rfl)) IsD.fz e3) rfl at_slips rfl hoF_ok rfl ?_
  refine Run.setf (r2 := [some (Ho.w (Ho.s_fences (Ho.s_slips (Ho.s_held (Ho.s_halls x_self v1) v2) v3) ())), some (fz (d7 (dDK kS dS) (dDK kS (d6 dS dS dI dI dI (d3 dI dS dI))) (dDK kI (d3 dS dS (d5 dI dI dS dS dI))) dE1 dE0 (d2 dI dI) dI) x_stood)]) (X.dcp1 (OV.bo (PW.ixT (n := 3) (PW.sl rfl) rfl)) (.inl rfl)) rfl at_fences rfl hoF_ok rfl ?_
  refine Run.setf (r2 := [some (Ho.w (Ho.s_bills (Ho.s_fences (Ho.s_slips (Ho.s_held (Ho.s_halls x_self v1) v2) v3) ()) ())), some (fz (d7 (dDK kS dS) (dDK kS (d6 dS dS dI dI dI (d3 dI dS dI))) (dDK kI (d3 dS dS (d5 dI dI dS dS dI))) dE1 dE0 (d2 dI dI) dI) x_stood)]) (X.dcp0 (OV.bo (PW.ixT (n := 4) (PW.sl rfl) rfl)) (.inl rfl)) rfl at_bills rfl hoF_ok rfl ?_
  refine Run.setf (r2 := [some (Ho.w (Ho.s_rates (Ho.s_bills (Ho.s_fences (Ho.s_slips (Ho.s_held (Ho.s_halls x_self v1) v2) v3) ()) ()) x_stood.2.2.2.2.2.1)), some (fz (d7 (dDK kS dS) (dDK kS (d6 dS dS dI dI dI (d3 dI dS dI))) (dDK kI (d3 dS dS (d5 dI dI dS dS dI))) dE1 dE0 (d2 dI dI) dI) x_stood)]) (X.gt (PW.ixT (n := 5) (PW.sl rfl) rfl)) rfl at_rates rfl hoF_ok rfl ?_
  refine Run.setf (r2 := [some (Ho.w (Ho.s_later (Ho.s_rates (Ho.s_bills (Ho.s_fences (Ho.s_slips (Ho.s_held (Ho.s_halls x_self v1) v2) v3) ()) ()) x_stood.2.2.2.2.2.1) x_stood.2.2.2.2.2.2)), some (fz (d7 (dDK kS dS) (dDK kS (d6 dS dS dI dI dI (d3 dI dS dI))) (dDK kI (d3 dS dS (d5 dI dI dS dS dI))) dE1 dE0 (d2 dI dI) dI) x_stood)]) (X.gt (PW.ixT (n := 6) (PW.sl rfl) rfl)) rfl at_later rfl hoF_ok rfl ?_
  obtain rfl := Option.some.inj h
  exact Run.nil rfl
def s_House_remember (x_self : Ho) : Option (Unit × Ho) :=
  ob (s_House_stand x_self) fun v1 =>
  ob (appO x_self.past v1) fun v2 =>
  some ((), (Ho.s_future (Ho.s_past x_self v2) ([] : List ((Dc Tx Tx) × (Dc Tx (Tx × Tx × Int × Int × Int × (Int × Tx × Int))) × (Dc Int (Tx × Tx × (Int × Int × Tx × Tx × Int))) × Unit × Unit × (Int × Int) × Int))))
def RT_House_remember (v : (Unit × Ho)) (o : Out) : Prop := fin [0] o = .ok (wN) [Ho.w v.2]
theorem ok_House_remember (m : Nat) {x_self : Ho} {v : (Unit × Ho)} (h : s_House_remember x_self = some v) : Dn (m + 2) 17 [Ho.w x_self] = .ok (wN) [Ho.w v.2] := by
  refine (dn_House_remember (m + 1) _).trans (def_run ?_)
  show Run (Dn (m + 1)) b_House_remember [some (Ho.w x_self)] (RT_House_remember v)
  unfold s_House_remember at h
  have t := ob_some h; clear h; obtain ⟨v1, e1, h⟩ := t
  have t := ob_some h; clear h; obtain ⟨v2, e2, h⟩ := t
  refine Run.appF (f := (d7 (dDK kS dS) (dDK kS (d6 dS dS dI dI dI (d3 dI dS dI))) (dDK kI (d3 dS dS (d5 dI dI dS dS dI))) dE1 dE0 (d2 dI dI) dI)) (r2 := [some (Ho.w (Ho.s_past x_self v2))]) (Fld.mk' at_past) e2 rfl rfl (X.meth (X.call (ok_House_stand _ e1) (XA.ro rfl XA.nil) rfl rfl) rfl (isIns_of nc_House_stand)) rfl rfl ?_
  refine Run.setf (r2 := [some (Ho.w (Ho.s_future (Ho.s_past x_self v2) ([] : List ((Dc Tx Tx) × (Dc Tx (Tx × Tx × Int × Int × Int × (Int × Tx × Int))) × (Dc Int (Tx × Tx × (Int × Int × Tx × Tx × Int))) × Unit × Unit × (Int × Int) × Int))))]) (X.is (oL (d7 (dDK kS dS) (dDK kS (d6 dS dS dI dI dI (d3 dI dS dI))) (dDK kI (d3 dS dS (d5 dI dI dS dS dI))) dE1 dE0 (d2 dI dI) dI) ([] : List ((Dc Tx Tx) × (Dc Tx (Tx × Tx × Int × Int × Int × (Int × Tx × Int))) × (Dc Int (Tx × Tx × (Int × Int × Tx × Tx × Int))) × Unit × Unit × (Int × Int) × Int))) (X.lst XE.nil rfl)) rfl at_future rfl hoF_ok rfl ?_
  obtain rfl := Option.some.inj h
  exact Run.nil rfl
def s_House_look_place (x_self : Ho) (x_name : Tx) : Option Unit :=
  if (!(x_self.halls.has x_name)) = true then
    none
  else
    some ()
def RT_House_look_place (v : Unit) (o : Out) : Prop := fin [] o = .ok (wN) []
theorem ok_House_look_place (m : Nat) {x_self : Ho} {x_name : Tx} {v : Unit} (h : s_House_look_place x_self x_name = some v) : Dn (m + 1) 18 [Ho.w x_self, fz dS x_name] = .ok (wN) [] := by
  refine (dn_House_look_place (m + 0) _).trans (noX_ok <| def_run ?_)
  show Run (Dn (m + 0)) b_House_look_place [some (Ho.w x_self), some (fz dS x_name)] (RT_House_look_place v)
  unfold s_House_look_place at h
  rcases ite_some h with ⟨hc, h⟩ | ⟨hc, h⟩
  · refine Run.ifT (X.niK kfS (OV.bo (PW.sl rfl)) (OV.bo (PW.fd (n := 0) (PW.sl rfl) (stepFd_at at_halls) rfl)) rfl IsD.ow) hc ?_
    exact (none_ne h).elim
  · refine Run.ifF (X.niK kfS (OV.bo (PW.sl rfl)) (OV.bo (PW.fd (n := 0) (PW.sl rfl) (stepFd_at at_halls) rfl)) rfl IsD.ow) hc ?_
    obtain rfl := Option.some.inj h
    exact Run.nil rfl
def s_House_look_thing (x_self : Ho) (x_name : Tx) : Option Unit :=
  if (!(x_self.held.has x_name)) = true then
    none
  else
    some ()
def RT_House_look_thing (v : Unit) (o : Out) : Prop := fin [] o = .ok (wN) []
theorem ok_House_look_thing (m : Nat) {x_self : Ho} {x_name : Tx} {v : Unit} (h : s_House_look_thing x_self x_name = some v) : Dn (m + 1) 19 [Ho.w x_self, fz dS x_name] = .ok (wN) [] := by
  refine (dn_House_look_thing (m + 0) _).trans (noX_ok <| def_run ?_)
  show Run (Dn (m + 0)) b_House_look_thing [some (Ho.w x_self), some (fz dS x_name)] (RT_House_look_thing v)
  unfold s_House_look_thing at h
  rcases ite_some h with ⟨hc, h⟩ | ⟨hc, h⟩
  · refine Run.ifT (X.niK kfS (OV.bo (PW.sl rfl)) (OV.bo (PW.fd (n := 1) (PW.sl rfl) (stepFd_at at_held) rfl)) rfl IsD.ow) hc ?_
    exact (none_ne h).elim
  · refine Run.ifF (X.niK kfS (OV.bo (PW.sl rfl)) (OV.bo (PW.fd (n := 1) (PW.sl rfl) (stepFd_at at_held) rfl)) rfl IsD.ow) hc ?_
    obtain rfl := Option.some.inj h
    exact Run.nil rfl
def s_House_place (x_self : Ho) (x_name : Tx) (x_word : Tx) : Option (Unit × Ho) :=
  ob (s_is_name x_name) fun v1 =>
  if (!v1) = true then
    none
  else
    if (x_self.halls.has x_name) = true then
      none
    else
      if (!(inW ["lit", "dark", "bench", "out"] x_word)) = true then
        none
      else
        if (decide (12 ≤ (x_self.halls.l.length : Int))) = true then
          none
        else
          ob (s_House_remember x_self) fun v2 =>
          ob (Dc.putO v2.2.halls x_name x_word) fun v3 =>
          some ((), (Ho.s_halls v2.2 v3))
def RT_House_place (v : (Unit × Ho)) (o : Out) : Prop := fin [0] o = .ok (wN) [Ho.w v.2]
theorem ok_House_place (m : Nat) {x_self : Ho} {x_name : Tx} {x_word : Tx} {v : (Unit × Ho)} (h : s_House_place x_self x_name x_word = some v) : Dn (m + 3) 20 [Ho.w x_self, fz dS x_name, fz dS x_word] = .ok (wN) [Ho.w v.2] := by
  refine (dn_House_place (m + 2) _).trans (def_run ?_)
  show Run (Dn (m + 2)) b_House_place [some (Ho.w x_self), some (fz dS x_name), some (fz dS x_word)] (RT_House_place v)
  unfold s_House_place at h
  have t := ob_some h; clear h; obtain ⟨v1, e1, h⟩ := t
  rcases ite_some h with ⟨hc, h⟩ | ⟨hc, h⟩
  · refine Run.ifT (X.not (X.call (ok_is_name _ e1) (XA.va (X.gt (PW.sl rfl)) XA.nil) rfl rfl)) hc ?_
    exact (none_ne h).elim
  · refine Run.ifF (X.not (X.call (ok_is_name _ e1) (XA.va (X.gt (PW.sl rfl)) XA.nil) rfl rfl)) hc ?_
    rcases ite_some h with ⟨hc, h⟩ | ⟨hc, h⟩
    · refine Run.ifT (X.inK kfS (OV.bo (PW.sl rfl)) (OV.bo (PW.fd (n := 0) (PW.sl rfl) (stepFd_at at_halls) rfl)) rfl IsD.ow) hc ?_
      exact (none_ne h).elim
    · refine Run.ifF (X.inK kfS (OV.bo (PW.sl rfl)) (OV.bo (PW.fd (n := 0) (PW.sl rfl) (stepFd_at at_halls) rfl)) rfl IsD.ow) hc ?_
      rcases ite_some h with ⟨hc, h⟩ | ⟨hc, h⟩
      · refine Run.ifT (X.niG (X.gt (PW.sl rfl))) hc ?_
        exact (none_ne h).elim
      · refine Run.ifF (X.niG (X.gt (PW.sl rfl))) hc ?_
        rcases ite_some h with ⟨hc, h⟩ | ⟨hc, h⟩
        · refine Run.ifT (X.geI (OV.tm (X.lenDK (OV.bo (PW.fd (n := 0) (PW.sl rfl) (stepFd_at at_halls) rfl)) IsD.ow)) (OV.tm X.glI) trivial) hc ?_
          exact (none_ne h).elim
        · refine Run.ifF (X.geI (OV.tm (X.lenDK (OV.bo (PW.fd (n := 0) (PW.sl rfl) (stepFd_at at_halls) rfl)) IsD.ow)) (OV.tm X.glI) trivial) hc ?_
          have t := ob_some h; clear h; obtain ⟨v2, e2, h⟩ := t
          refine Run.ex (X.meth (X.call (ok_House_remember _ e2) (XA.io rfl XA.nil) rfl rfl) rfl (isIns_of nc_House_remember)) ?_
          have t := ob_some h; clear h; obtain ⟨v3, e3, h⟩ := t
          refine Run.setkF (g := dS) (r3 := [some (Ho.w (Ho.s_halls v2.2 v3)), some (fz dS x_name), some (fz dS x_word)]) kfS (Fld.mk' at_halls) e3 (X.gt (PW.sl rfl)) rfl rfl (X.gt (PW.sl rfl)) rfl rfl ?_
          obtain rfl := Option.some.inj h
          exact Run.nil rfl
def s_House_look_new (x_self : Ho) (x_name : Tx) (x_kind : Tx) (x_low : Int) (x_high : Int) (x_limit : Int) : Option Unit :=
  ob (s_is_name x_name) fun v1 =>
  if (!v1) = true then
    none
  else
    if (x_self.held.has x_name) = true then
      none
    else
      ob (s_is_name x_kind) fun v2 =>
      if (!v2) = true then
        none
      else
        if ((!(s_is_within x_low 0 100)) || (!(s_is_within x_high x_low 100))) = true then
          none
        else
          if (!(s_is_within x_limit 0 1000000)) = true then
            none
          else
            some ()
def RT_House_look_new (v : Unit) (o : Out) : Prop := fin [] o = .ok (wN) []
theorem ok_House_look_new (m : Nat) {x_self : Ho} {x_name : Tx} {x_kind : Tx} {x_low : Int} {x_high : Int} {x_limit : Int} {v : Unit} (h : s_House_look_new x_self x_name x_kind x_low x_high x_limit = some v) : Dn (m + 2) 21 [Ho.w x_self, fz dS x_name, fz dS x_kind, fz dI x_low, fz dI x_high, fz dI x_limit] = .ok (wN) [] := by
  refine (dn_House_look_new (m + 1) _).trans (noX_ok <| def_run ?_)
  show Run (Dn (m + 1)) b_House_look_new [some (Ho.w x_self), some (fz dS x_name), some (fz dS x_kind), some (fz dI x_low), some (fz dI x_high), some (fz dI x_limit)] (RT_House_look_new v)
  unfold s_House_look_new at h
  have t := ob_some h; clear h; obtain ⟨v1, e1, h⟩ := t
  rcases ite_some h with ⟨hc, h⟩ | ⟨hc, h⟩
  · refine Run.ifT (X.not (X.call (ok_is_name _ e1) (XA.va (X.gt (PW.sl rfl)) XA.nil) rfl rfl)) hc ?_
    exact (none_ne h).elim
  · refine Run.ifF (X.not (X.call (ok_is_name _ e1) (XA.va (X.gt (PW.sl rfl)) XA.nil) rfl rfl)) hc ?_
    rcases ite_some h with ⟨hc, h⟩ | ⟨hc, h⟩
    · refine Run.ifT (X.inK kfS (OV.bo (PW.sl rfl)) (OV.bo (PW.fd (n := 1) (PW.sl rfl) (stepFd_at at_held) rfl)) rfl IsD.ow) hc ?_
      exact (none_ne h).elim
    · refine Run.ifF (X.inK kfS (OV.bo (PW.sl rfl)) (OV.bo (PW.fd (n := 1) (PW.sl rfl) (stepFd_at at_held) rfl)) rfl IsD.ow) hc ?_
      have t := ob_some h; clear h; obtain ⟨v2, e2, h⟩ := t
      rcases ite_some h with ⟨hc, h⟩ | ⟨hc, h⟩
      · refine Run.ifT (X.not (X.call (ok_is_name _ e2) (XA.va (X.gt (PW.sl rfl)) XA.nil) rfl rfl)) hc ?_
        exact (none_ne h).elim
      · refine Run.ifF (X.not (X.call (ok_is_name _ e2) (XA.va (X.gt (PW.sl rfl)) XA.nil) rfl rfl)) hc ?_
        rcases ite_some h with ⟨hc, h⟩ | ⟨hc, h⟩
        · refine Run.ifT (X.orP (X.not (X.call (ok_is_within _ x_low 0 100) (XA.va (X.gt (PW.sl rfl)) (XA.va X.conI (XA.va X.glI XA.nil))) rfl rfl)) (X.not (X.call (ok_is_within _ x_high x_low 100) (XA.va (X.gt (PW.sl rfl)) (XA.va (X.gt (PW.sl rfl)) (XA.va X.glI XA.nil))) rfl rfl))) hc ?_
          exact (none_ne h).elim
        · refine Run.ifF (X.orP (X.not (X.call (ok_is_within _ x_low 0 100) (XA.va (X.gt (PW.sl rfl)) (XA.va X.conI (XA.va X.glI XA.nil))) rfl rfl)) (X.not (X.call (ok_is_within _ x_high x_low 100) (XA.va (X.gt (PW.sl rfl)) (XA.va (X.gt (PW.sl rfl)) (XA.va X.glI XA.nil))) rfl rfl))) hc ?_
          rcases ite_some h with ⟨hc, h⟩ | ⟨hc, h⟩
          · refine Run.ifT (X.not (X.call (ok_is_within _ x_limit 0 1000000) (XA.va (X.gt (PW.sl rfl)) (XA.va X.conI (XA.va X.glI XA.nil))) rfl rfl)) hc ?_
            exact (none_ne h).elim
          · refine Run.ifF (X.not (X.call (ok_is_within _ x_limit 0 1000000) (XA.va (X.gt (PW.sl rfl)) (XA.va X.conI (XA.va X.glI XA.nil))) rfl rfl)) hc ?_
            obtain rfl := Option.some.inj h
            exact Run.nil rfl
def s_House_thing (x_self : Ho) (x_name : Tx) (x_kind : Tx) (x_low : Int) (x_high : Int) (x_limit : Int) (x_day : Int) (x_home : Tx) (x_grade : Int) : Option (Unit × Ho) :=
  ob (s_House_look_new x_self x_name x_kind x_low x_high x_limit) fun v1 =>
  if (!(s_is_within x_day 0 1000000000)) = true then
    none
  else
    ob (s_House_look_place x_self x_home) fun v2 =>
    if (!(s_is_within x_grade 0 9)) = true then
      none
    else
      if (decide (12 ≤ (x_self.held.l.length : Int))) = true then
        none
      else
        ob (s_House_remember x_self) fun v3 =>
        ob (Dc.putO v3.2.held x_name (x_name, x_kind, x_low, x_high, x_limit, (x_day, x_home, x_grade))) fun v4 =>
        some ((), (Ho.s_held v3.2 v4))
def RT_House_thing (v : (Unit × Ho)) (o : Out) : Prop := fin [0] o = .ok (wN) [Ho.w v.2]
theorem ok_House_thing (m : Nat) {x_self : Ho} {x_name : Tx} {x_kind : Tx} {x_low : Int} {x_high : Int} {x_limit : Int} {x_day : Int} {x_home : Tx} {x_grade : Int} {v : (Unit × Ho)} (h : s_House_thing x_self x_name x_kind x_low x_high x_limit x_day x_home x_grade = some v) : Dn (m + 3) 22 [Ho.w x_self, fz dS x_name, fz dS x_kind, fz dI x_low, fz dI x_high, fz dI x_limit, fz dI x_day, fz dS x_home, fz dI x_grade] = .ok (wN) [Ho.w v.2] := by
  refine (dn_House_thing (m + 2) _).trans (def_run ?_)
  show Run (Dn (m + 2)) b_House_thing [some (Ho.w x_self), some (fz dS x_name), some (fz dS x_kind), some (fz dI x_low), some (fz dI x_high), some (fz dI x_limit), some (fz dI x_day), some (fz dS x_home), some (fz dI x_grade)] (RT_House_thing v)
  unfold s_House_thing at h
  have t := ob_some h; clear h; obtain ⟨v1, e1, h⟩ := t
  refine Run.ex (X.meth (X.call (ok_House_look_new _ e1) (XA.ro rfl (XA.va (X.gt (PW.sl rfl)) (XA.va (X.gt (PW.sl rfl)) (XA.va (X.gt (PW.sl rfl)) (XA.va (X.gt (PW.sl rfl)) (XA.va (X.gt (PW.sl rfl)) XA.nil)))))) rfl rfl) rfl (isIns_of nc_House_look_new)) ?_
  rcases ite_some h with ⟨hc, h⟩ | ⟨hc, h⟩
  · refine Run.ifT (X.not (X.call (ok_is_within _ x_day 0 1000000000) (XA.va (X.gt (PW.sl rfl)) (XA.va X.conI (XA.va X.glI XA.nil))) rfl rfl)) hc ?_
    exact (none_ne h).elim
  · refine Run.ifF (X.not (X.call (ok_is_within _ x_day 0 1000000000) (XA.va (X.gt (PW.sl rfl)) (XA.va X.conI (XA.va X.glI XA.nil))) rfl rfl)) hc ?_
    have t := ob_some h; clear h; obtain ⟨v2, e2, h⟩ := t
    refine Run.ex (X.meth (X.call (ok_House_look_place _ e2) (XA.ro rfl (XA.va (X.gt (PW.sl rfl)) XA.nil)) rfl rfl) rfl (isIns_of nc_House_look_place)) ?_
    rcases ite_some h with ⟨hc, h⟩ | ⟨hc, h⟩
    · refine Run.ifT (X.not (X.call (ok_is_within _ x_grade 0 9) (XA.va (X.gt (PW.sl rfl)) (XA.va X.conI (XA.va X.glI XA.nil))) rfl rfl)) hc ?_
      exact (none_ne h).elim
    · refine Run.ifF (X.not (X.call (ok_is_within _ x_grade 0 9) (XA.va (X.gt (PW.sl rfl)) (XA.va X.conI (XA.va X.glI XA.nil))) rfl rfl)) hc ?_
      rcases ite_some h with ⟨hc, h⟩ | ⟨hc, h⟩
      · refine Run.ifT (X.geI (OV.tm (X.lenDK (OV.bo (PW.fd (n := 1) (PW.sl rfl) (stepFd_at at_held) rfl)) IsD.ow)) (OV.tm X.glI) trivial) hc ?_
        exact (none_ne h).elim
      · refine Run.ifF (X.geI (OV.tm (X.lenDK (OV.bo (PW.fd (n := 1) (PW.sl rfl) (stepFd_at at_held) rfl)) IsD.ow)) (OV.tm X.glI) trivial) hc ?_
        have t := ob_some h; clear h; obtain ⟨v3, e3, h⟩ := t
        refine Run.ex (X.meth (X.call (ok_House_remember _ e3) (XA.io rfl XA.nil) rfl rfl) rfl (isIns_of nc_House_remember)) ?_
        have t := ob_some h; clear h; obtain ⟨v4, e4, h⟩ := t
        refine Run.setkF (g := (d6 dS dS dI dI dI (d3 dI dS dI))) (r3 := [some (Ho.w (Ho.s_held v3.2 v4)), some (fz dS x_name), some (fz dS x_kind), some (fz dI x_low), some (fz dI x_high), some (fz dI x_limit), some (fz dI x_day), some (fz dS x_home), some (fz dI x_grade)]) kfS (Fld.mk' at_held) e4 (X.tup (w := fz (d6 dS dS dI dI dI (d3 dI dS dI)) (x_name, x_kind, x_low, x_high, x_limit, (x_day, x_home, x_grade))) (XE.cons (X.gt (PW.sl rfl)) (XE.cons (X.gt (PW.sl rfl)) (XE.cons (X.gt (PW.sl rfl)) (XE.cons (X.gt (PW.sl rfl)) (XE.cons (X.gt (PW.sl rfl)) (XE.cons (X.tup (w := fz (d3 dI dS dI) (x_day, x_home, x_grade)) (XE.cons (X.gt (PW.sl rfl)) (XE.cons (X.gt (PW.sl rfl)) (XE.cons (X.gt (PW.sl rfl)) XE.nil))) rfl rfl) XE.nil)))))) rfl rfl) rfl rfl (X.gt (PW.sl rfl)) rfl rfl ?_
        obtain rfl := Option.some.inj h
        exact Run.nil rfl
def s_House_papers (x_self : Ho) (x_thing : Tx) : Option (List (Int × Int × Tx × Tx × Int)) :=
  ob (s_House_look_thing x_self x_thing) fun v1 =>
  ob (Dc.kyO x_self.slips) fun v2 =>
  ob (lenOk (srt ltI v2)) fun v7 =>
  ob (lcG (fun (x3 : Int) (q4 : Unit) =>
      ob (x_self.slips.get x3) fun v8 =>
      if (decide ((v8.1, v8.2.1) = (tx1, x_thing))) = true then
        ob (x_self.slips.get x3) fun v9 =>
        some (some v9.2.2, ())
      else some (none, ())
    ) (srt ltI v2) ()) fun v10 =>
  some v10.1
def RT_House_papers (v : (List (Int × Int × Tx × Tx × Int))) (o : Out) : Prop := fin [] o = .ok (oL (d5 dI dI dS dS dI) v) []
theorem ok_House_papers (m : Nat) {x_self : Ho} {x_thing : Tx} {v : (List (Int × Int × Tx × Tx × Int))} (h : s_House_papers x_self x_thing = some v) : Dn (m + 2) 23 [Ho.w x_self, fz dS x_thing] = .ok (oL (d5 dI dI dS dS dI) v) [] := by
  refine (dn_House_papers (m + 1) _).trans (noX_ok <| def_run ?_)
  show Run (Dn (m + 1)) b_House_papers [some (Ho.w x_self), some (fz dS x_thing), none, none] (RT_House_papers v)
  unfold s_House_papers at h
  have t := ob_some h; clear h; obtain ⟨v1, e1, h⟩ := t
  refine Run.ex (X.meth (X.call (ok_House_look_thing _ e1) (XA.ro rfl (XA.va (X.gt (PW.sl rfl)) XA.nil)) rfl rfl) rfl (isIns_of nc_House_look_thing)) ?_
  have t := ob_some h; clear h; obtain ⟨v2, e2, h⟩ := t
  refine Run.asg (r2 := [some (Ho.w x_self), some (fz dS x_thing), some (oL dI (srt ltI v2)), none]) (X.sorted srI (OV.tmL (X.kysK kdI (OV.bo (PW.fd (n := 2) (PW.sl rfl) (stepFd_at at_slips) rfl)) IsD.ow e2)) IsL.fz) (lt_of rfl) rfl ?_
  have t := ob_some h; clear h; obtain ⟨v7, e7, h⟩ := t
  have t := ob_some h; clear h; obtain ⟨v10, e10, h⟩ := t
  have b10 : X (Dn (m + 1)) (.lc [("number", 3)] (.nm 3) (.sq (.bo (.sl 2))) (some (.op .eqD [(.tm (.op (.slice false true) [(.bo (.ky (.fd (.sl 0) 0 "slips") (.gt (.sl 3)))), (.tm (.con (.int 2)))])), (.tm (.tup [(.con (.str "hand")), (.gt (.sl 1))]))])) (.gt (.ix (.ky (.fd (.sl 0) 0 "slips") (.gt (.sl 3))) (.con (.int 2))))) [some (Ho.w x_self), some (fz dS x_thing), some (oL dI (srt ltI v2)), none] (oL (d5 dI dI dS dS dI) v10.1) [some (Ho.w x_self), some (fz dS x_thing), some (oL dI (srt ltI v2)), none] := by
    clear h
    refine X.lc1 (en := (fz (d5 dI dI dS dS dI))) (I := (fun (q4 : Unit) (r : Env) => r = [some (Ho.w x_self), some (fz dS x_thing), some (oL dI (srt ltI v2)), none])) (XI.sq (OV.bo (PW.sl rfl)) IsL.ow) (lenOk_le e7) e10 rfl ?_ (fun _ h => h)
    rintro x3 q4 o q' _ h rfl
    have t := ob_some h; clear h; obtain ⟨v8, e8, h⟩ := t
    rcases ite_some h with ⟨hc, h⟩ | ⟨hc, h⟩
    · skip
      have t := ob_some h; clear h; obtain ⟨v9, e9, h⟩ := t
      obtain ⟨rfl, rfl⟩ := some_pair h
      exact ⟨[some (Ho.w x_self), some (fz dS x_thing), some (oL dI (srt ltI v2)), some (fz dI x3)], (TB.nm (lt_of rfl) rfl), _, _, hc ▸ (X.eqD (rp2 rpS rpS) (OV.tm (X.slW (w := fz (d2 dS dS) (v8.1, v8.2.1)) _ (OV.bo (PW.kyK (g := (d3 dS dS (d5 dI dI dS dS dI))) kfI (PW.fd (n := 2) (PW.sl rfl) (stepFd_at at_slips) rfl) IsD.ow (X.gt (PW.sl rfl)) rfl e8)) (OV.tm X.conI) rfl rfl rfl)) (OV.tm (X.tup (w := fz (d2 dS dS) (tx1, x_thing)) (XE.cons (X.conS tx1) (XE.cons (X.gt (PW.sl rfl)) XE.nil)) rfl rfl)) trivial rfl rfl), (X.gt (PW.ixT (n := 2) (PW.kyK (g := (d3 dS dS (d5 dI dI dS dS dI))) kfI (PW.fd (n := 2) (PW.sl rfl) (stepFd_at at_slips) rfl) IsD.ow (X.gt (PW.sl rfl)) rfl e9) rfl)), rfl⟩
    · obtain ⟨rfl, rfl⟩ := some_pair h
      exact ⟨[some (Ho.w x_self), some (fz dS x_thing), some (oL dI (srt ltI v2)), some (fz dI x3)], (TB.nm (lt_of rfl) rfl), _, hc ▸ (X.eqD (rp2 rpS rpS) (OV.tm (X.slW (w := fz (d2 dS dS) (v8.1, v8.2.1)) _ (OV.bo (PW.kyK (g := (d3 dS dS (d5 dI dI dS dS dI))) kfI (PW.fd (n := 2) (PW.sl rfl) (stepFd_at at_slips) rfl) IsD.ow (X.gt (PW.sl rfl)) rfl e8)) (OV.tm X.conI) rfl rfl rfl)) (OV.tm (X.tup (w := fz (d2 dS dS) (tx1, x_thing)) (XE.cons (X.conS tx1) (XE.cons (X.gt (PW.sl rfl)) XE.nil)) rfl rfl)) trivial rfl rfl), rfl⟩
  obtain rfl := Option.some.inj h
  exact Run.ret b10 rfl
def s_House_put_slip (x_self : Ho) (x_word : Tx) (x_thing : Tx) (x_rest : (Int × Tx × Tx × Int)) : Option (Int × Ho) :=
  ob (s_House_remember x_self) fun v1 =>
  ob (Dc.putO v1.2.slips v1.2.later (x_word, x_thing, (v1.2.later, x_rest.1, x_rest.2.1, x_rest.2.2.1, x_rest.2.2.2))) fun v2 =>
  some (v1.2.later, (Ho.s_later (Ho.s_slips v1.2 v2) (v1.2.later + 1)))
def RT_House_put_slip (v : (Int × Ho)) (o : Out) : Prop := fin [0] o = .ok (fz dI v.1) [Ho.w v.2]
theorem ok_House_put_slip (m : Nat) {x_self : Ho} {x_word : Tx} {x_thing : Tx} {x_rest : (Int × Tx × Tx × Int)} {v : (Int × Ho)} (h : s_House_put_slip x_self x_word x_thing x_rest = some v) : Dn (m + 3) 24 [Ho.w x_self, fz dS x_word, fz dS x_thing, fz (d4 dI dS dS dI) x_rest] = .ok (fz dI v.1) [Ho.w v.2] := by
  refine (dn_House_put_slip (m + 2) _).trans (def_run ?_)
  show Run (Dn (m + 2)) b_House_put_slip [some (Ho.w x_self), some (fz dS x_word), some (fz dS x_thing), some (fz (d4 dI dS dS dI) x_rest), none] (RT_House_put_slip v)
  unfold s_House_put_slip at h
  have t := ob_some h; clear h; obtain ⟨v1, e1, h⟩ := t
  refine Run.ex (X.meth (X.call (ok_House_remember _ e1) (XA.io rfl XA.nil) rfl rfl) rfl (isIns_of nc_House_remember)) ?_
  refine Run.asg (r2 := [some (Ho.w v1.2), some (fz dS x_word), some (fz dS x_thing), some (fz (d4 dI dS dS dI) x_rest), some (fz dI v1.2.later)]) (X.gt (PW.fd (n := 6) (PW.sl rfl) (stepFd_at at_later) rfl)) (lt_of rfl) rfl ?_
  have t := ob_some h; clear h; obtain ⟨v2, e2, h⟩ := t
  refine Run.setkF (g := (d3 dS dS (d5 dI dI dS dS dI))) (r3 := [some (Ho.w (Ho.s_slips v1.2 v2)), some (fz dS x_word), some (fz dS x_thing), some (fz (d4 dI dS dS dI) x_rest), some (fz dI v1.2.later)]) kfI (Fld.mk' at_slips) e2 (X.tup (w := fz (d3 dS dS (d5 dI dI dS dS dI)) (x_word, x_thing, (v1.2.later, x_rest.1, x_rest.2.1, x_rest.2.2.1, x_rest.2.2.2))) (XE.cons (X.gt (PW.sl rfl)) (XE.cons (X.gt (PW.sl rfl)) (XE.cons (X.catT (w := fz (d5 dI dI dS dS dI) (v1.2.later, x_rest.1, x_rest.2.1, x_rest.2.2.1, x_rest.2.2.2)) (OV.tm (X.tup (w := fz (d1 dI) v1.2.later) (XE.cons (X.gt (PW.sl rfl)) XE.nil) rfl rfl)) (OV.bo (PW.sl rfl)) trivial rfl rfl) XE.nil))) rfl rfl) rfl rfl (X.gt (PW.sl rfl)) rfl rfl ?_
  refine Run.setf (r2 := [some (Ho.w (Ho.s_later (Ho.s_slips v1.2 v2) (v1.2.later + 1))), some (fz dS x_word), some (fz dS x_thing), some (fz (d4 dI dS dS dI) x_rest), some (fz dI v1.2.later)]) (X.add (OV.bo (PW.sl rfl)) (OV.tm X.conI) rfl) rfl at_later rfl hoF_ok rfl ?_
  obtain rfl := Option.some.inj h
  exact Run.ret (X.gt (PW.sl rfl)) rfl
def s_House_hand (x_self : Ho) (x_thing : Tx) (x_day : Int) (x_here : Tx) (x_there : Tx) (x_grade : Int) : Option (Int × Ho) :=
  ob (s_House_look_thing x_self x_thing) fun v1 =>
  if (!(s_is_within x_day 0 1000000000)) = true then
    none
  else
    ob (s_House_look_place x_self x_here) fun v2 =>
    ob (s_House_look_place x_self x_there) fun v3 =>
    if (!(s_is_within x_grade 0 9)) = true then
      none
    else
      ob (x_self.held.get x_thing) fun v4 =>
      if (decide (x_day ≤ v4.2.2.2.2.2.1)) = true then
        none
      else
        ob (s_House_papers x_self x_thing) fun v5 =>
        ob (mapC (fun (x6 : (Int × Int × Tx × Tx × Int)) => x6.2.1) v5) fun v8 =>
        if (decide (x_day ∈ v8)) = true then
          none
        else
          if (decide (60 ≤ (x_self.slips.l.length : Int))) = true then
            none
          else
            ob (s_House_put_slip x_self tx1 x_thing (x_day, x_here, x_there, x_grade)) fun v9 =>
            some (v9.1, v9.2)
def RT_House_hand (v : (Int × Ho)) (o : Out) : Prop := fin [0] o = .ok (fz dI v.1) [Ho.w v.2]
theorem ok_House_hand (m : Nat) {x_self : Ho} {x_thing : Tx} {x_day : Int} {x_here : Tx} {x_there : Tx} {x_grade : Int} {v : (Int × Ho)} (h : s_House_hand x_self x_thing x_day x_here x_there x_grade = some v) : Dn (m + 4) 25 [Ho.w x_self, fz dS x_thing, fz dI x_day, fz dS x_here, fz dS x_there, fz dI x_grade] = .ok (fz dI v.1) [Ho.w v.2] := by
  refine (dn_House_hand (m + 3) _).trans (def_run ?_)
  show Run (Dn (m + 3)) b_House_hand [some (Ho.w x_self), some (fz dS x_thing), some (fz dI x_day), some (fz dS x_here), some (fz dS x_there), some (fz dI x_grade), none] (RT_House_hand v)
  unfold s_House_hand at h
  have t := ob_some h; clear h; obtain ⟨v1, e1, h⟩ := t
  refine Run.ex (X.meth (X.call (ok_House_look_thing _ e1) (XA.ro rfl (XA.va (X.gt (PW.sl rfl)) XA.nil)) rfl rfl) rfl (isIns_of nc_House_look_thing)) ?_
  rcases ite_some h with ⟨hc, h⟩ | ⟨hc, h⟩
  · refine Run.ifT (X.not (X.call (ok_is_within _ x_day 0 1000000000) (XA.va (X.gt (PW.sl rfl)) (XA.va X.conI (XA.va X.glI XA.nil))) rfl rfl)) hc ?_
    exact (none_ne h).elim
  · refine Run.ifF (X.not (X.call (ok_is_within _ x_day 0 1000000000) (XA.va (X.gt (PW.sl rfl)) (XA.va X.conI (XA.va X.glI XA.nil))) rfl rfl)) hc ?_
    have t := ob_some h; clear h; obtain ⟨v2, e2, h⟩ := t
    refine Run.ex (X.meth (X.call (ok_House_look_place _ e2) (XA.ro rfl (XA.va (X.gt (PW.sl rfl)) XA.nil)) rfl rfl) rfl (isIns_of nc_House_look_place)) ?_
    have t := ob_some h; clear h; obtain ⟨v3, e3, h⟩ := t
    refine Run.ex (X.meth (X.call (ok_House_look_place _ e3) (XA.ro rfl (XA.va (X.gt (PW.sl rfl)) XA.nil)) rfl rfl) rfl (isIns_of nc_House_look_place)) ?_
    rcases ite_some h with ⟨hc, h⟩ | ⟨hc, h⟩
    · refine Run.ifT (X.not (X.call (ok_is_within _ x_grade 0 9) (XA.va (X.gt (PW.sl rfl)) (XA.va X.conI (XA.va X.glI XA.nil))) rfl rfl)) hc ?_
      exact (none_ne h).elim
    · refine Run.ifF (X.not (X.call (ok_is_within _ x_grade 0 9) (XA.va (X.gt (PW.sl rfl)) (XA.va X.conI (XA.va X.glI XA.nil))) rfl rfl)) hc ?_
      have t := ob_some h; clear h; obtain ⟨v4, e4, h⟩ := t
      rcases ite_some h with ⟨hc, h⟩ | ⟨hc, h⟩
      · refine Run.ifT (X.le (OV.bo (PW.sl rfl)) (OV.bo (PW.ixT (n := 0) (PW.ixT (n := 5) (PW.kyK (g := (d6 dS dS dI dI dI (d3 dI dS dI))) kfS (PW.fd (n := 1) (PW.sl rfl) (stepFd_at at_held) rfl) IsD.ow (X.gt (PW.sl rfl)) rfl e4) rfl) rfl)) rfl) hc ?_
        exact (none_ne h).elim
      · refine Run.ifF (X.le (OV.bo (PW.sl rfl)) (OV.bo (PW.ixT (n := 0) (PW.ixT (n := 5) (PW.kyK (g := (d6 dS dS dI dI dI (d3 dI dS dI))) kfS (PW.fd (n := 1) (PW.sl rfl) (stepFd_at at_held) rfl) IsD.ow (X.gt (PW.sl rfl)) rfl e4) rfl) rfl)) rfl) hc ?_
        have t := ob_some h; clear h; obtain ⟨v5, e5, h⟩ := t
        have t := ob_some h; clear h; obtain ⟨v8, e8, h⟩ := t
        rcases ite_some h with ⟨hc, h⟩ | ⟨hc, h⟩
        · refine Run.ifT (X.inQ scI (OV.bo (PW.sl rfl)) (OV.tmL (X.lcM (g := dI) e8 (XI.sq (OV.tmL (X.meth (X.call (ok_House_papers _ e5) (XA.ro rfl (XA.va (X.gt (PW.sl rfl)) XA.nil)) rfl rfl) rfl (isIns_of nc_House_papers))) IsL.fz) rfl (fun x6 => ⟨[some (Ho.w x_self), some (fz dS x_thing), some (fz dI x_day), some (fz dS x_here), some (fz dS x_there), some (fz dI x_grade), some (fz (d5 dI dI dS dS dI) x6)], (TB.nm (lt_of rfl) rfl), (X.gt (PW.ixT (n := 1) (PW.sl rfl) rfl)), rfl⟩))) rfl IsL.fz) hc ?_
          exact (none_ne h).elim
        · refine Run.ifF (X.inQ scI (OV.bo (PW.sl rfl)) (OV.tmL (X.lcM (g := dI) e8 (XI.sq (OV.tmL (X.meth (X.call (ok_House_papers _ e5) (XA.ro rfl (XA.va (X.gt (PW.sl rfl)) XA.nil)) rfl rfl) rfl (isIns_of nc_House_papers))) IsL.fz) rfl (fun x6 => ⟨[some (Ho.w x_self), some (fz dS x_thing), some (fz dI x_day), some (fz dS x_here), some (fz dS x_there), some (fz dI x_grade), some (fz (d5 dI dI dS dS dI) x6)], (TB.nm (lt_of rfl) rfl), (X.gt (PW.ixT (n := 1) (PW.sl rfl) rfl)), rfl⟩))) rfl IsL.fz) hc ?_
          rcases ite_some h with ⟨hc, h⟩ | ⟨hc, h⟩
          · refine Run.ifT (X.geI (OV.tm (X.lenDK (OV.bo (PW.fd (n := 2) (PW.sl rfl) (stepFd_at at_slips) rfl)) IsD.ow)) (OV.tm X.glI) trivial) hc ?_
            exact (none_ne h).elim
          · refine Run.ifF (X.geI (OV.tm (X.lenDK (OV.bo (PW.fd (n := 2) (PW.sl rfl) (stepFd_at at_slips) rfl)) IsD.ow)) (OV.tm X.glI) trivial) hc ?_
            have t := ob_some h; clear h; obtain ⟨v9, e9, h⟩ := t
            obtain rfl := Option.some.inj h
            exact Run.ret (X.meth (X.call (ok_House_put_slip _ e9) (XA.io rfl (XA.va (X.conS tx1) (XA.va (X.gt (PW.sl rfl)) (XA.va (X.tup (w := fz (d4 dI dS dS dI) (x_day, x_here, x_there, x_grade)) (XE.cons (X.gt (PW.sl rfl)) (XE.cons (X.gt (PW.sl rfl)) (XE.cons (X.gt (PW.sl rfl)) (XE.cons (X.gt (PW.sl rfl)) XE.nil)))) rfl rfl) XA.nil)))) rfl rfl) rfl (isIns_of nc_House_put_slip)) rfl
def s_House_strike (x_self : Ho) (x_number : Int) : Option (Unit × Ho) :=
  if (!(x_self.slips.has x_number)) = true then
    none
  else
    ob (s_House_remember x_self) fun v1 =>
    ob (Dc.popO v1.2.slips x_number) fun v2 =>
    some ((), (Ho.s_slips v1.2 v2.2))
def RT_House_strike (v : (Unit × Ho)) (o : Out) : Prop := fin [0] o = .ok (wN) [Ho.w v.2]
theorem ok_House_strike (m : Nat) {x_self : Ho} {x_number : Int} {v : (Unit × Ho)} (h : s_House_strike x_self x_number = some v) : Dn (m + 3) 26 [Ho.w x_self, fz dI x_number] = .ok (wN) [Ho.w v.2] := by
  refine (dn_House_strike (m + 2) _).trans (def_run ?_)
  show Run (Dn (m + 2)) b_House_strike [some (Ho.w x_self), some (fz dI x_number)] (RT_House_strike v)
  unfold s_House_strike at h
  rcases ite_some h with ⟨hc, h⟩ | ⟨hc, h⟩
  · refine Run.ifT (X.niK kfI (OV.bo (PW.sl rfl)) (OV.bo (PW.fd (n := 2) (PW.sl rfl) (stepFd_at at_slips) rfl)) rfl IsD.ow) hc ?_
    exact (none_ne h).elim
  · refine Run.ifF (X.niK kfI (OV.bo (PW.sl rfl)) (OV.bo (PW.fd (n := 2) (PW.sl rfl) (stepFd_at at_slips) rfl)) rfl IsD.ow) hc ?_
    have t := ob_some h; clear h; obtain ⟨v1, e1, h⟩ := t
    refine Run.ex (X.meth (X.call (ok_House_remember _ e1) (XA.io rfl XA.nil) rfl rfl) rfl (isIns_of nc_House_remember)) ?_
    have t := ob_some h; clear h; obtain ⟨v2, e2, h⟩ := t
    refine Run.ex (X.popkF (r2 := [some (Ho.w (Ho.s_slips v1.2 v2.2)), some (fz dI x_number)]) kfI (Fld.mk' at_slips) e2 rfl rfl (X.gt (PW.sl rfl)) rfl rfl) ?_
    obtain rfl := Option.some.inj h
    exact Run.nil rfl
def s_House_reprice (x_self : Ho) (x_doubt : Int) (x_gap : Int) : Option (Unit × Ho) :=
  if ((!(s_is_within x_doubt 1 9)) || (!(s_is_within x_gap 1 9))) = true then
    none
  else
    ob (s_House_remember x_self) fun v1 =>
    some ((), (Ho.s_rates v1.2 (x_doubt, x_gap)))
def RT_House_reprice (v : (Unit × Ho)) (o : Out) : Prop := fin [0] o = .ok (wN) [Ho.w v.2]
theorem ok_House_reprice (m : Nat) {x_self : Ho} {x_doubt : Int} {x_gap : Int} {v : (Unit × Ho)} (h : s_House_reprice x_self x_doubt x_gap = some v) : Dn (m + 3) 27 [Ho.w x_self, fz dI x_doubt, fz dI x_gap] = .ok (wN) [Ho.w v.2] := by
  refine (dn_House_reprice (m + 2) _).trans (def_run ?_)
  show Run (Dn (m + 2)) b_House_reprice [some (Ho.w x_self), some (fz dI x_doubt), some (fz dI x_gap)] (RT_House_reprice v)
  unfold s_House_reprice at h
  rcases ite_some h with ⟨hc, h⟩ | ⟨hc, h⟩
  · refine Run.ifT (X.orP (X.not (X.call (ok_is_within _ x_doubt 1 9) (XA.va (X.gt (PW.sl rfl)) (XA.va X.conI (XA.va X.glI XA.nil))) rfl rfl)) (X.not (X.call (ok_is_within _ x_gap 1 9) (XA.va (X.gt (PW.sl rfl)) (XA.va X.conI (XA.va X.glI XA.nil))) rfl rfl))) hc ?_
    exact (none_ne h).elim
  · refine Run.ifF (X.orP (X.not (X.call (ok_is_within _ x_doubt 1 9) (XA.va (X.gt (PW.sl rfl)) (XA.va X.conI (XA.va X.glI XA.nil))) rfl rfl)) (X.not (X.call (ok_is_within _ x_gap 1 9) (XA.va (X.gt (PW.sl rfl)) (XA.va X.conI (XA.va X.glI XA.nil))) rfl rfl))) hc ?_
    have t := ob_some h; clear h; obtain ⟨v1, e1, h⟩ := t
    refine Run.ex (X.meth (X.call (ok_House_remember _ e1) (XA.io rfl XA.nil) rfl rfl) rfl (isIns_of nc_House_remember)) ?_
    refine Run.setf (r2 := [some (Ho.w (Ho.s_rates v1.2 (x_doubt, x_gap))), some (fz dI x_doubt), some (fz dI x_gap)]) (X.tup (w := fz (d2 dI dI) (x_doubt, x_gap)) (XE.cons (X.gt (PW.sl rfl)) (XE.cons (X.gt (PW.sl rfl)) XE.nil)) rfl rfl) rfl at_rates rfl hoF_ok rfl ?_
    obtain rfl := Option.some.inj h
    exact Run.nil rfl
def s_House_undo (x_self : Ho) : Option (Unit × Ho) :=
  if (decide ((x_self.past.length : Int) = 0)) = true then
    none
  else
    ob (s_House_stand x_self) fun v1 =>
    ob (appO x_self.future v1) fun v2 =>
    ob (popO (Ho.s_future x_self v2).past) fun v3 =>
    ob (s_House_bring (Ho.s_past (Ho.s_future x_self v2) v3.2) v3.1) fun v4 =>
    some ((), v4.2)
def RT_House_undo (v : (Unit × Ho)) (o : Out) : Prop := fin [0] o = .ok (wN) [Ho.w v.2]
theorem ok_House_undo (m : Nat) {x_self : Ho} {v : (Unit × Ho)} (h : s_House_undo x_self = some v) : Dn (m + 2) 28 [Ho.w x_self] = .ok (wN) [Ho.w v.2] := by
  refine (dn_House_undo (m + 1) _).trans (def_run ?_)
  show Run (Dn (m + 1)) b_House_undo [some (Ho.w x_self)] (RT_House_undo v)
  unfold s_House_undo at h
  rcases ite_some h with ⟨hc, h⟩ | ⟨hc, h⟩
  · refine Run.ifT (X.eqI (OV.tm (X.lenL (OV.bo (PW.fd (n := 7) (PW.sl rfl) (stepFd_at at_past) rfl)) IsL.ow)) (OV.tm X.conI) trivial) hc ?_
    exact (none_ne h).elim
  · refine Run.ifF (X.eqI (OV.tm (X.lenL (OV.bo (PW.fd (n := 7) (PW.sl rfl) (stepFd_at at_past) rfl)) IsL.ow)) (OV.tm X.conI) trivial) hc ?_
    have t := ob_some h; clear h; obtain ⟨v1, e1, h⟩ := t
    have t := ob_some h; clear h; obtain ⟨v2, e2, h⟩ := t
    refine Run.appF (f := (d7 (dDK kS dS) (dDK kS (d6 dS dS dI dI dI (d3 dI dS dI))) (dDK kI (d3 dS dS (d5 dI dI dS dS dI))) dE1 dE0 (d2 dI dI) dI)) (r2 := [some (Ho.w (Ho.s_future x_self v2))]) (Fld.mk' at_future) e2 rfl rfl (X.meth (X.call (ok_House_stand _ e1) (XA.ro rfl XA.nil) rfl rfl) rfl (isIns_of nc_House_stand)) rfl rfl ?_
    have t := ob_some h; clear h; obtain ⟨v3, e3, h⟩ := t
    have t := ob_some h; clear h; obtain ⟨v4, e4, h⟩ := t
    refine Run.ex (X.meth (X.call (ok_House_bring _ e4) (XA.io rfl (XA.va (X.popF (r2 := [some (Ho.w (Ho.s_past (Ho.s_future x_self v2) v3.2))]) (Fld.mk' at_past) e3 rfl rfl rfl) XA.nil)) rfl rfl) rfl (isIns_of nc_House_bring)) ?_
    obtain rfl := Option.some.inj h
    exact Run.nil rfl
def s_House_redo (x_self : Ho) : Option (Unit × Ho) :=
  if (decide ((x_self.future.length : Int) = 0)) = true then
    none
  else
    ob (s_House_stand x_self) fun v1 =>
    ob (appO x_self.past v1) fun v2 =>
    ob (popO (Ho.s_past x_self v2).future) fun v3 =>
    ob (s_House_bring (Ho.s_future (Ho.s_past x_self v2) v3.2) v3.1) fun v4 =>
    some ((), v4.2)
def RT_House_redo (v : (Unit × Ho)) (o : Out) : Prop := fin [0] o = .ok (wN) [Ho.w v.2]
theorem ok_House_redo (m : Nat) {x_self : Ho} {v : (Unit × Ho)} (h : s_House_redo x_self = some v) : Dn (m + 2) 29 [Ho.w x_self] = .ok (wN) [Ho.w v.2] := by
  refine (dn_House_redo (m + 1) _).trans (def_run ?_)
  show Run (Dn (m + 1)) b_House_redo [some (Ho.w x_self)] (RT_House_redo v)
  unfold s_House_redo at h
  rcases ite_some h with ⟨hc, h⟩ | ⟨hc, h⟩
  · refine Run.ifT (X.eqI (OV.tm (X.lenL (OV.bo (PW.fd (n := 8) (PW.sl rfl) (stepFd_at at_future) rfl)) IsL.ow)) (OV.tm X.conI) trivial) hc ?_
    exact (none_ne h).elim
  · refine Run.ifF (X.eqI (OV.tm (X.lenL (OV.bo (PW.fd (n := 8) (PW.sl rfl) (stepFd_at at_future) rfl)) IsL.ow)) (OV.tm X.conI) trivial) hc ?_
    have t := ob_some h; clear h; obtain ⟨v1, e1, h⟩ := t
    have t := ob_some h; clear h; obtain ⟨v2, e2, h⟩ := t
    refine Run.appF (f := (d7 (dDK kS dS) (dDK kS (d6 dS dS dI dI dI (d3 dI dS dI))) (dDK kI (d3 dS dS (d5 dI dI dS dS dI))) dE1 dE0 (d2 dI dI) dI)) (r2 := [some (Ho.w (Ho.s_past x_self v2))]) (Fld.mk' at_past) e2 rfl rfl (X.meth (X.call (ok_House_stand _ e1) (XA.ro rfl XA.nil) rfl rfl) rfl (isIns_of nc_House_stand)) rfl rfl ?_
    have t := ob_some h; clear h; obtain ⟨v3, e3, h⟩ := t
    have t := ob_some h; clear h; obtain ⟨v4, e4, h⟩ := t
    refine Run.ex (X.meth (X.call (ok_House_bring _ e4) (XA.io rfl (XA.va (X.popF (r2 := [some (Ho.w (Ho.s_future (Ho.s_past x_self v2) v3.2))]) (Fld.mk' at_future) e3 rfl rfl rfl) XA.nil)) rfl rfl) rfl (isIns_of nc_House_bring)) ?_
    obtain rfl := Option.some.inj h
    exact Run.nil rfl
def s_House_things (x_self : Ho) : Option (List (Tx × Tx × Int × Int × Int × (Int × Tx × Int))) :=
  ob (Dc.kyO x_self.held) fun v1 =>
  ob (lenOk (srt ltT v1)) fun v5 =>
  ob (lcG (fun (x2 : Tx) (q3 : Unit) =>
      ob (x_self.held.get x2) fun v6 =>
      some (some v6, ())
    ) (srt ltT v1) ()) fun v7 =>
  some v7.1
def RT_House_things (v : (List (Tx × Tx × Int × Int × Int × (Int × Tx × Int)))) (o : Out) : Prop := fin [] o = .ok (oL (d6 dS dS dI dI dI (d3 dI dS dI)) v) []
theorem ok_House_things (m : Nat) {x_self : Ho} {v : (List (Tx × Tx × Int × Int × Int × (Int × Tx × Int)))} (h : s_House_things x_self = some v) : Dn (m + 1) 30 [Ho.w x_self] = .ok (oL (d6 dS dS dI dI dI (d3 dI dS dI)) v) [] := by
  refine (dn_House_things (m + 0) _).trans (noX_ok <| def_run ?_)
  show Run (Dn (m + 0)) b_House_things [some (Ho.w x_self), none] (RT_House_things v)
  unfold s_House_things at h
  have t := ob_some h; clear h; obtain ⟨v1, e1, h⟩ := t
  have t := ob_some h; clear h; obtain ⟨v5, e5, h⟩ := t
  have t := ob_some h; clear h; obtain ⟨v7, e7, h⟩ := t
  have b7 : X (Dn (m + 0)) (.lc [("name", 1)] (.nm 1) (.sq (.tm (.op .sorted [(.tm (.op .keys [(.bo (.fd (.sl 0) 0 "held"))]))]))) none (.gt (.ky (.fd (.sl 0) 0 "held") (.gt (.sl 1))))) [some (Ho.w x_self), none] (oL (d6 dS dS dI dI dI (d3 dI dS dI)) v7.1) [some (Ho.w x_self), none] := by
    clear h
    refine X.lc0 (en := (fz (d6 dS dS dI dI dI (d3 dI dS dI)))) (I := (fun (q3 : Unit) (r : Env) => r = [some (Ho.w x_self), none])) (XI.sq (OV.tmL (X.sorted srS (OV.tmL (X.kysK kdS (OV.bo (PW.fd (n := 1) (PW.sl rfl) (stepFd_at at_held) rfl)) IsD.ow e1)) IsL.fz)) IsL.fz) (lenOk_le e5) e7 rfl ?_ (fun _ h => h)
    rintro x2 q3 o q' _ h rfl
    have t := ob_some h; clear h; obtain ⟨v6, e6, h⟩ := t
    obtain ⟨rfl, rfl⟩ := some_pair h
    exact ⟨[some (Ho.w x_self), some (fz dS x2)], (TB.nm (lt_of rfl) rfl), _, rfl, _, (X.gt (PW.kyK (g := (d6 dS dS dI dI dI (d3 dI dS dI))) kfS (PW.fd (n := 1) (PW.sl rfl) (stepFd_at at_held) rfl) IsD.ow (X.gt (PW.sl rfl)) rfl e6)), rfl⟩
  obtain rfl := Option.some.inj h
  exact Run.ret b7 rfl
def s_House_prices (x_self : Ho) : (Int × Int) :=
  x_self.rates
def RT_House_prices (v : (Int × Int)) (o : Out) : Prop := fin [] o = .ok (fz (d2 dI dI) v) []
theorem ok_House_prices (m : Nat) (x_self : Ho) : Dn (m + 1) 31 [Ho.w x_self] = .ok (fz (d2 dI dI) (s_House_prices x_self)) [] := by
  have h : (
    some x_self.rates : Option (Int × Int)) = some (s_House_prices x_self) := by
    unfold s_House_prices
    first | rfl | simp only [apply_ite some]
  generalize s_House_prices x_self = v at h ⊢
  refine (dn_House_prices (m + 0) _).trans (noX_ok <| def_run ?_)
  show Run (Dn (m + 0)) b_House_prices [some (Ho.w x_self)] (RT_House_prices v)
  obtain rfl := Option.some.inj h
  exact Run.ret (X.gt (PW.fd (n := 5) (PW.sl rfl) (stepFd_at at_rates) rfl)) rfl
def s_House_upcoming (x_self : Ho) : Int :=
  x_self.later
def RT_House_upcoming (v : Int) (o : Out) : Prop := fin [] o = .ok (fz dI v) []
theorem ok_House_upcoming (m : Nat) (x_self : Ho) : Dn (m + 1) 32 [Ho.w x_self] = .ok (fz dI (s_House_upcoming x_self)) [] := by
  have h : (
    some x_self.later : Option Int) = some (s_House_upcoming x_self) := by
    unfold s_House_upcoming
    first | rfl | simp only [apply_ite some]
  generalize s_House_upcoming x_self = v at h ⊢
  refine (dn_House_upcoming (m + 0) _).trans (noX_ok <| def_run ?_)
  show Run (Dn (m + 0)) b_House_upcoming [some (Ho.w x_self)] (RT_House_upcoming v)
  obtain rfl := Option.some.inj h
  exact Run.ret (X.gt (PW.fd (n := 6) (PW.sl rfl) (stepFd_at at_later) rfl)) rfl
def s_law_numbers (x_house : Ho) : Option ((Int × Int) × Int × (List Int)) :=
  ob (s_House_things x_house) fun v2 =>
  if (decide (v2 = ([] : List (Tx × Tx × Int × Int × Int × (Int × Tx × Int))))) = true then
    some (s_House_prices x_house, s_House_upcoming x_house, ([] : List Int))
  else
    ob (s_House_papers x_house tx2) fun v3 =>
    ob (mapC (fun (x4 : (Int × Int × Tx × Tx × Int)) => x4.1) v3) fun v6 =>
    some (s_House_prices x_house, s_House_upcoming x_house, v6)
def RT_law_numbers (v : ((Int × Int) × Int × (List Int))) (o : Out) : Prop := fin [] o = .ok (fz (d3 (d2 dI dI) dI (dL dI)) v) []
theorem ok_law_numbers (m : Nat) {x_house : Ho} {v : ((Int × Int) × Int × (List Int))} (h : s_law_numbers x_house = some v) : Dn (m + 3) 33 [Ho.w x_house] = .ok (fz (d3 (d2 dI dI) dI (dL dI)) v) [] := by
  refine (dn_law_numbers (m + 2) _).trans (noX_ok <| def_run ?_)
  show Run (Dn (m + 2)) b_law_numbers [some (Ho.w x_house), none] (RT_law_numbers v)
  unfold s_law_numbers at h
  have t := ob_some h; clear h; obtain ⟨v2, e2, h⟩ := t
  rcases ite_some h with ⟨hc, h⟩ | ⟨hc, h⟩
  · refine Run.ifT (X.eqD (rpL (rp6 rpS rpS rpI rpI rpI (rp3 rpI rpS rpI))) (OV.tmL (X.meth (X.call (ok_House_things _ e2) (XA.ro rfl XA.nil) rfl rfl) rfl (isIns_of nc_House_things))) (OV.tmL (X.is (oL (d6 dS dS dI dI dI (d3 dI dS dI)) ([] : List (Tx × Tx × Int × Int × Int × (Int × Tx × Int)))) (X.lst XE.nil rfl))) trivial rfl rfl) hc ?_
    obtain rfl := Option.some.inj h
    exact Run.ret (X.tup (w := fz (d3 (d2 dI dI) dI (dL dI)) (s_House_prices x_house, s_House_upcoming x_house, ([] : List Int))) (XE.cons (X.meth (X.call (ok_House_prices _ x_house) (XA.ro rfl XA.nil) rfl rfl) rfl (isIns_of nc_House_prices)) (XE.cons (X.meth (X.call (ok_House_upcoming _ x_house) (XA.ro rfl XA.nil) rfl rfl) rfl (isIns_of nc_House_upcoming)) (XE.cons (X.fzL (X.is (oL dI ([] : List Int)) (X.lst XE.nil rfl))) XE.nil))) rfl rfl) rfl
  · refine Run.ifF (X.eqD (rpL (rp6 rpS rpS rpI rpI rpI (rp3 rpI rpS rpI))) (OV.tmL (X.meth (X.call (ok_House_things _ e2) (XA.ro rfl XA.nil) rfl rfl) rfl (isIns_of nc_House_things))) (OV.tmL (X.is (oL (d6 dS dS dI dI dI (d3 dI dS dI)) ([] : List (Tx × Tx × Int × Int × Int × (Int × Tx × Int)))) (X.lst XE.nil rfl))) trivial rfl rfl) hc ?_
    have t := ob_some h; clear h; obtain ⟨v3, e3, h⟩ := t
    have t := ob_some h; clear h; obtain ⟨v6, e6, h⟩ := t
    obtain rfl := Option.some.inj h
    exact Run.ret (X.tup (w := fz (d3 (d2 dI dI) dI (dL dI)) (s_House_prices x_house, s_House_upcoming x_house, v6)) (XE.cons (X.meth (X.call (ok_House_prices _ x_house) (XA.ro rfl XA.nil) rfl rfl) rfl (isIns_of nc_House_prices)) (XE.cons (X.meth (X.call (ok_House_upcoming _ x_house) (XA.ro rfl XA.nil) rfl rfl) rfl (isIns_of nc_House_upcoming)) (XE.cons (X.fzL (X.lcM (g := dI) e6 (XI.sq (OV.tmL (X.meth (X.call (ok_House_papers _ e3) (XA.ro rfl (XA.va (X.conS tx2) XA.nil)) rfl rfl) rfl (isIns_of nc_House_papers))) IsL.fz) rfl (fun x4 => ⟨[some (Ho.w x_house), some (fz (d5 dI dI dS dS dI) x4)], (TB.nm (lt_of rfl) rfl), (X.gt (PW.ixT (n := 0) (PW.sl rfl) rfl)), rfl⟩))) XE.nil))) rfl rfl) rfl
end Hs
end Vx
end

section
set_option maxHeartbeats 1000000
set_option synthInstance.maxSize 2000
set_option synthInstance.maxHeartbeats 400000
/-! what the House's deeds do, plainly. -/
namespace Vx
open PySem L2
namespace Hs
open Sh
abbrev Pap := Int × Int × Tx × Tx × Int
abbrev Slp := Tx × Tx × Pap
abbrev Thg := Tx × Tx × Int × Int × Int × (Int × Tx × Int)
abbrev Std := Dc Tx Tx × Dc Tx Thg × Dc Int Slp × Unit × Unit × (Int × Int) × Int
/-- what stands -/
def sn (h : Ho) : Std := (h.halls, h.held, h.slips, (), (), h.rates, h.later)
/-- small enough to be copied -/
def Sz (s : Std) : Prop := s.1.l.length ≤ 100 ∧ s.2.1.l.length ≤ 100 ∧ s.2.2.1.l.length ≤ 100
theorem cp_ok {κ β : Type} {c : Dc κ β} (h : c.l.length ≤ 100) : Dc.cpO c = some c := if_pos (by omega)
theorem ky_ok {κ β : Type} {c : Dc κ β} (h : c.l.length ≤ 100) : Dc.kyO c = some (c.l.map (·.1)) := if_pos (by omega)
theorem apd_ok {α : Type} {xs : List α} {x : α} (h : xs.length ≤ 1000) : appO xs x = some (xs ++ [x]) := if_pos (by omega)
theorem pop_ok {α : Type} {xs : List α} {x : α} (h : xs.length ≤ 1000) : popO (xs ++ [x]) = some (x, xs) := by
  unfold popO
  rw [List.getLast?_concat]
  show (if (xs ++ [x]).length ≤ 100001 then some (x, (xs ++ [x]).dropLast) else none) = _
  rw [if_pos (by simp; omega), List.dropLast_concat]
theorem put_ok {κ β : Type} [DecidableEq κ] {c : Dc κ β} {k : κ} {v : β} (h : c.l.length ≤ 100) : c.putO k v = some (c.put k v) := if_pos (by omega)
section
variable {h : Ho} {s : Std} {t a b : Tx}
theorem stand_ok (z : Sz (sn h)) : s_House_stand h = some (sn h) := by
  have z1 : h.halls.l.length ≤ 100 := z.1
  have z2 : h.held.l.length ≤ 100 := z.2.1
  have z3 : h.slips.l.length ≤ 100 := z.2.2
  unfold s_House_stand
  rw [cp_ok z1]
  show ob (Dc.cpO h.held) _ = _
  rw [cp_ok z2]
  show ob (Dc.cpO h.slips) _ = _
  rw [cp_ok z3]
  rfl
/-- put back as it stood -/
def back (h : Ho) (s : Std) : Ho := ⟨s.1, s.2.1, s.2.2.1, (), (), s.2.2.2.2.2.1, s.2.2.2.2.2.2, h.past, h.future⟩
theorem sn_back : sn (back h s) = s := rfl
theorem bring_ok (z : Sz s) : s_House_bring h s = some ((), back h s) := by
  obtain ⟨z1, z2, z3⟩ := z
  unfold s_House_bring
  rw [cp_ok z1]
  show ob (Dc.cpO s.2.1) _ = _
  rw [cp_ok z2]
  show ob (Dc.cpO s.2.2.1) _ = _
  rw [cp_ok z3]
  rfl
/-- kept -/
def rem (h : Ho) : Ho := ⟨h.halls, h.held, h.slips, (), (), h.rates, h.later, h.past ++ [sn h], []⟩
theorem remember_ok (z : Sz (sn h)) (hp : h.past.length ≤ 1000) : s_House_remember h = some ((), rem h) := by
  unfold s_House_remember
  rw [stand_ok z]
  show ob (appO h.past (sn h)) _ = _
  rw [apd_ok hp]
  rfl
def und (h : Ho) (ps : List Std) (s : Std) : Ho := ⟨s.1, s.2.1, s.2.2.1, (), (), s.2.2.2.2.2.1, s.2.2.2.2.2.2, ps, h.future ++ [sn h]⟩
theorem undo_ok {ps : List Std} (z : Sz (sn h)) (e : h.past = ps ++ [s]) (zs : Sz s) (hp : ps.length ≤ 1000) (hf : h.future.length ≤ 1000) : s_House_undo h = some ((), und h ps s) := by
  unfold s_House_undo
  have h0 : decide ((h.past.length : Int) = 0) = false := decide_eq_false (by rw [e]; simp; omega)
  rw [h0, stand_ok z]
  show ob (appO h.future (sn h)) _ = _
  rw [apd_ok hf]
  show ob (popO h.past) _ = _
  rw [e, pop_ok hp]
  show ob (s_House_bring _ s) _ = _
  rw [bring_ok zs]
  rfl
def red (h : Ho) (ps : List Std) (s : Std) : Ho := ⟨s.1, s.2.1, s.2.2.1, (), (), s.2.2.2.2.2.1, s.2.2.2.2.2.2, h.past ++ [sn h], ps⟩
theorem redo_ok {ps : List Std} (z : Sz (sn h)) (e : h.future = ps ++ [s]) (zs : Sz s) (hp : ps.length ≤ 1000) (hf : h.past.length ≤ 1000) : s_House_redo h = some ((), red h ps s) := by
  unfold s_House_redo
  have h0 : decide ((h.future.length : Int) = 0) = false := decide_eq_false (by rw [e]; simp; omega)
  rw [h0, stand_ok z]
  show ob (appO h.past (sn h)) _ = _
  rw [apd_ok hf]
  show ob (popO h.future) _ = _
  rw [e, pop_ok hp]
  show ob (s_House_bring _ s) _ = _
  rw [bring_ok zs]
  rfl
theorem look_place_ok (hh : h.halls.has t = true) : s_House_look_place h t = some () := by
  unfold s_House_look_place
  rw [hh]
  rfl
theorem look_thing_ok (hh : h.held.has t = true) : s_House_look_thing h t = some () := by
  unfold s_House_look_thing
  rw [hh]
  rfl
theorem place_ok (hn : s_is_name t = some true) (h1 : h.halls.has t = false) (hw : inW ["lit", "dark", "bench", "out"] a = true) (hl : h.halls.l.length < 12) (z : Sz (sn h)) (hp : h.past.length ≤ 1000) : s_House_place h t a = some ((), Ho.s_halls (rem h) (h.halls.put t a)) := by
  unfold s_House_place
  rw [hn]
  show (if (h.halls.has t) = true then _ else _) = _
  rw [h1, hw]
  have h0 : decide ((12 : Int) ≤ (h.halls.l.length : Int)) = false := decide_eq_false (by omega)
  rw [h0, remember_ok z hp]
  show ob (Dc.putO h.halls t a) _ = _
  rw [put_ok (by omega)]
  rfl
theorem reprice_ok {x y : Int} (hx : 1 ≤ x ∧ x ≤ 9) (hy : 1 ≤ y ∧ y ≤ 9) (z : Sz (sn h)) (hp : h.past.length ≤ 1000) : s_House_reprice h x y = some ((), Ho.s_rates (rem h) (x, y)) := by
  unfold s_House_reprice
  have h1 : s_is_within x 1 9 = true := by
    unfold s_is_within
    rw [decide_eq_true hx.1, decide_eq_true hx.2]
    rfl
  have h2 : s_is_within y 1 9 = true := by
    unfold s_is_within
    rw [decide_eq_true hy.1, decide_eq_true hy.2]
    rfl
  rw [h1, h2, remember_ok z hp]
  rfl
/-! ### tables -/
theorem lget_some {κ β : Type} [DecidableEq κ] {k : κ} : ∀ {l : List (κ × β)}, k ∈ l.map Prod.fst → ∃ v, lget l k = some v ∧ (k, v) ∈ l
  | [], h => by cases h
  | p :: l, h => by
    have e1 : lget (p :: l) k = if p.1 = k then some p.2 else lget l k := rfl
    rw [e1]
    by_cases c : p.1 = k
    · rw [if_pos c]
      refine ⟨p.2, rfl, ?_⟩
      rw [← c]
      exact List.mem_cons_self
    · rw [if_neg c]
      rcases List.mem_cons.mp h with z | z
      · exact (c z.symm).elim
      · obtain ⟨v, v1, v2⟩ := lget_some z
        exact ⟨v, v1, List.mem_cons_of_mem _ v2⟩
theorem lget_mem {κ β : Type} [DecidableEq κ] {k : κ} {v : β} : ∀ {l : List (κ × β)}, lget l k = some v → (k, v) ∈ l
  | [], h => by cases h
  | p :: l, h => by
    have e1 : lget (p :: l) k = if p.1 = k then some p.2 else lget l k := rfl
    rw [e1] at h
    by_cases c : p.1 = k
    · rw [if_pos c] at h
      rw [← c, ← Option.some.inj h]
      exact List.mem_cons_self
    · rw [if_neg c] at h
      exact List.mem_cons_of_mem _ (lget_mem h)
theorem has_of {κ β : Type} [DecidableEq κ] {k : κ} {c : Dc κ β} (h : k ∈ c.l.map Prod.fst) : c.has k = true := by
  obtain ⟨v, e, _⟩ := lget_some h
  unfold Dc.has Dc.get
  rw [e]
  rfl
theorem of_has {κ β : Type} [DecidableEq κ] {k : κ} {c : Dc κ β} (h : c.has k = true) : k ∈ c.l.map Prod.fst := by
  unfold Dc.has at h
  obtain ⟨v, e⟩ := Option.isSome_iff_exists.mp h
  exact List.mem_map.mpr ⟨_, lget_mem e, rfl⟩
theorem srt_mem {α : Type} {lt : α → α → Bool} {xs : List α} {x : α} : x ∈ srt lt xs ↔ x ∈ xs := (List.mergeSort_perm xs _).mem_iff
theorem srt_len {α : Type} {lt : α → α → Bool} {xs : List α} : (srt lt xs).length = xs.length := (List.mergeSort_perm xs _).length_eq
theorem lcG_pure {γ β : Type} {F : γ → Unit → Option (Option β × Unit)} {G : γ → Option β} : ∀ {xs : List γ}, (∀ x ∈ xs, F x () = some (G x, ())) → lcG F xs () = some (xs.filterMap G, ())
  | [], _ => rfl
  | x :: xs, h => by
    show ob (F x ()) _ = _
    rw [h x List.mem_cons_self]
    show ob (lcG F xs ()) _ = _
    rw [lcG_pure fun y hy => h y (List.mem_cons_of_mem _ hy), List.filterMap_cons]
    cases G x <;> rfl
/-- the papers of a thing -/
def papG (d : Dc Int Slp) (t : Tx) (n : Int) : Option Pap := (d.get n).bind fun v => if decide ((v.1, v.2.1) = (tx1, t)) = true then some v.2.2 else none
def paps (d : Dc Int Slp) (t : Tx) : List Pap := (srt ltI (d.l.map (·.1))).filterMap (papG d t)
theorem papers_ok (hh : h.held.has t = true) (z : h.slips.l.length ≤ 100) : s_House_papers h t = some (paps h.slips t) := by
  unfold s_House_papers
  rw [look_thing_ok hh]
  show ob (Dc.kyO h.slips) _ = _
  rw [ky_ok z]
  show ob (lenOk _) _ = _
  have e1 : lenOk (srt ltI (h.slips.l.map (·.1))) = some () := if_pos (by rw [srt_len, List.length_map]; omega)
  rw [e1]
  show ob (lcG _ (srt ltI (h.slips.l.map (·.1))) ()) _ = _
  rw [lcG_pure (G := papG h.slips t)]
  · rfl
  · intro x hx
    obtain ⟨v, e, _⟩ := lget_some (l := h.slips.l) (srt_mem.mp hx)
    have e2 : h.slips.get x = some v := e
    unfold papG
    rw [e2]
    show (if decide ((v.1, v.2.1) = (tx1, t)) = true then some (some v.2.2, ()) else some (none, ())) = some (if _ then _ else _, ())
    split <;> rfl
theorem things_ok (z : h.held.l.length ≤ 100) : s_House_things h = some ((srt ltT (h.held.l.map (·.1))).filterMap h.held.get) := by
  unfold s_House_things
  rw [ky_ok z]
  show ob (lenOk _) _ = _
  have e1 : lenOk (srt ltT (h.held.l.map (·.1))) = some () := if_pos (by rw [srt_len, List.length_map]; omega)
  rw [e1]
  show ob (lcG _ (srt ltT (h.held.l.map (·.1))) ()) _ = _
  rw [lcG_pure (G := h.held.get)]
  · rfl
  · intro x hx
    obtain ⟨v, e, _⟩ := lget_some (l := h.held.l) (srt_mem.mp hx)
    have e2 : h.held.get x = some v := e
    rw [e2]
    rfl
theorem within_ok {n x y : Int} (h1 : x ≤ n) (h2 : n ≤ y) : s_is_within n x y = true := by
  unfold s_is_within
  rw [decide_eq_true h1, decide_eq_true h2]
  rfl
/-- a paper put in -/
def hnd (h : Ho) (t : Tx) (day : Int) (a b : Tx) (g : Int) : Ho := ⟨h.halls, h.held, h.slips.put h.later (tx1, t, (h.later, day, a, b, g)), (), (), h.rates, h.later + 1, h.past ++ [sn h], []⟩
theorem hand_ok {day g : Int} {v : Thg} (hv : h.held.get t = some v) (h1 : 0 ≤ day ∧ day ≤ 1000000000) (ha : h.halls.has a = true) (hb : h.halls.has b = true) (hg : 0 ≤ g ∧ g ≤ 9) (hd : v.2.2.2.2.2.1 < day) (hn : day ∉ (paps h.slips t).map (·.2.1)) (hl : h.slips.l.length < 60) (z : Sz (sn h)) (hp : h.past.length ≤ 1000) :
    s_House_hand h t day a b g = some (h.later, hnd h t day a b g) := by
  have hh : h.held.has t = true := by
    unfold Dc.has
    rw [hv]
    rfl
  unfold s_House_hand
  rw [look_thing_ok hh, within_ok h1.1 h1.2]
  show ob (s_House_look_place h a) _ = _
  rw [look_place_ok ha]
  show ob (s_House_look_place h b) _ = _
  rw [look_place_ok hb, within_ok hg.1 hg.2]
  show ob (h.held.get t) _ = _
  rw [hv]
  show (if decide (day ≤ v.2.2.2.2.2.1) = true then _ else _) = _
  rw [decide_eq_false (by omega)]
  show ob (s_House_papers h t) _ = _
  rw [papers_ok hh z.2.2]
  have hlen : (paps h.slips t).length ≤ 100 := by
    have h2 : (paps h.slips t).length ≤ (srt ltI (h.slips.l.map (·.1))).length := List.length_filterMap_le _ _
    rw [srt_len, List.length_map] at h2
    omega
  show ob (mapC _ (paps h.slips t)) _ = _
  have e1 : mapC (fun (x6 : Pap) => x6.2.1) (paps h.slips t) = some ((paps h.slips t).map (·.2.1)) := if_pos (by omega)
  rw [e1]
  show (if decide (day ∈ (paps h.slips t).map (·.2.1)) = true then _ else _) = _
  rw [decide_eq_false hn]
  have h0 : decide ((60 : Int) ≤ (h.slips.l.length : Int)) = false := decide_eq_false (by omega)
  rw [h0]
  show ob (s_House_put_slip h tx1 t (day, a, b, g)) _ = _
  have e2 : s_House_put_slip h tx1 t (day, a, b, g) = some (h.later, hnd h t day a b g) := by
    unfold s_House_put_slip
    rw [remember_ok z hp]
    show ob (Dc.putO h.slips h.later (tx1, t, (h.later, day, a, b, g))) _ = _
    rw [put_ok (show h.slips.l.length ≤ 100 from z.2.2)]
    rfl
  rw [e2]
  rfl
def stk (h : Ho) (n : Int) : Ho := ⟨h.halls, h.held, h.slips.del n, (), (), h.rates, h.later, h.past ++ [sn h], []⟩
theorem strike_ok {n : Int} (hn : h.slips.has n = true) (z : Sz (sn h)) (hp : h.past.length ≤ 1000) : s_House_strike h n = some ((), stk h n) := by
  unfold s_House_strike
  rw [hn, remember_ok z hp]
  show ob (Dc.popO h.slips n) _ = _
  have e : ∃ v, Dc.popO h.slips n = some (v, h.slips.del n) := by
    obtain ⟨v, e⟩ := Option.isSome_iff_exists.mp hn
    refine ⟨v, ?_⟩
    unfold Dc.popO
    rw [e]
    exact if_pos (by have : h.slips.l.length ≤ 100 := z.2.2; omega)
  obtain ⟨v, e⟩ := e
  rw [e]
  rfl
theorem thing_ok {low high limit day g : Int} {k : Tx} (hn : s_is_name t = some true) (h1 : h.held.has t = false) (hk : s_is_name k = some true) (h2 : 0 ≤ low ∧ low ≤ 100) (h3 : low ≤ high ∧ high ≤ 100) (h4 : 0 ≤ limit ∧ limit ≤ 1000000) (h5 : 0 ≤ day ∧ day ≤ 1000000000) (h6 : h.halls.has a = true) (h7 : 0 ≤ g ∧ g ≤ 9) (hl : h.held.l.length < 12) (z : Sz (sn h)) (hp : h.past.length ≤ 1000) :
    s_House_thing h t k low high limit day a g = some ((), Ho.s_held (rem h) (h.held.put t (t, k, low, high, limit, (day, a, g)))) := by
  unfold s_House_thing
  have e1 : s_House_look_new h t k low high limit = some () := by
    unfold s_House_look_new
    rw [hn]
    show (if (h.held.has t) = true then _ else _) = _
    rw [h1]
    show ob (s_is_name k) _ = _
    rw [hk, within_ok h2.1 h2.2, within_ok h3.1 h3.2, within_ok h4.1 h4.2]
    rfl
  rw [e1, within_ok h5.1 h5.2]
  show ob (s_House_look_place h a) _ = _
  rw [look_place_ok h6, within_ok h7.1 h7.2]
  have h0 : decide ((12 : Int) ≤ (h.held.l.length : Int)) = false := decide_eq_false (by omega)
  rw [h0, remember_ok z hp]
  show ob (Dc.putO h.held t (t, k, low, high, limit, (day, a, g))) _ = _
  rw [put_ok (by omega)]
  rfl
end
end Hs
end Vx
end

section
set_option maxHeartbeats 4000000
set_option synthInstance.maxSize 2000
set_option synthInstance.maxHeartbeats 400000
namespace Vx
open PySem L2
namespace K52
open Sh Hs
def tx3 : Tx := ⟨"hall", by decide +kernel, by decide +kernel⟩
def tx4 : Tx := ⟨"lit", by decide +kernel, by decide +kernel⟩
def tx5 : Tx := ⟨"room", by decide +kernel, by decide +kernel⟩
def tx6 : Tx := ⟨"dark", by decide +kernel, by decide +kernel⟩
def tx7 : Tx := ⟨"glass", by decide +kernel, by decide +kernel⟩
def N_law : List Str := ["_law_script", "_law_box_here", "_law_house", "_law_rows", "_law_k", "_law_turn", "_law_stood", "_law_at"]
def b_law : List S := [.asg 2 (.new 0 14 []),
.ex (.meth 0 "place" 20 [(.io 2), (.va (.con (.str "hall"))), (.va (.con (.str "lit")))]),
.ex (.meth 0 "place" 20 [(.io 2), (.va (.con (.str "room"))), (.va (.con (.str "dark")))]),
.ex (.meth 0 "thing" 22 [(.io 2), (.va (.con (.str "cup"))), (.va (.con (.str "glass"))), (.va (.con (.int 0))), (.va (.con (.int 9))), (.va (.con (.int 9))), (.va (.con (.int 5))), (.va (.con (.str "hall"))), (.va (.con (.int 0)))]),
.asg 3 (.lst [(.call 33 [(.ro 2)])]),
.forr (.nm 4) (.r1 (.op .add [(.tm (.con (.int 1))), (.tm (.call 2 [(.io 1), (.va (.con (.int 200)))]))]))
[.asg 5 (.call 2 [(.io 1), (.va (.con (.int 4)))]),
.asg 6 (.gt (.ix (.ix (.sl 3) (.op .neg [(.tm (.con (.int 1)))])) (.con (.int 2)))),
.iff (.and (.op .eqF [(.bo (.sl 5)), (.tm (.con (.int 0)))]) (.op .lt [(.tm (.op .len [(.bo (.sl 6))])), (.tm (.con (.int 60)))]))
[.ex (.meth 0 "hand" 25 [(.io 2), (.va (.con (.str "cup"))), (.va (.op .add [(.tm (.con (.int 6))), (.bo (.sl 4))])), (.va (.con (.str "hall"))), (.va (.con (.str "room"))), (.va (.op .mod [(.bo (.sl 4)), (.tm (.con (.int 10)))]))])]
[.iff (.and (.op .eqF [(.bo (.sl 5)), (.tm (.con (.int 1)))]) (.op .gt [(.tm (.op .len [(.bo (.sl 6))])), (.tm (.con (.int 0)))]))
[.ex (.meth 0 "strike" 26 [(.io 2), (.va (.gt (.ix (.sl 6) (.call 2 [(.io 1), (.va (.op .len [(.bo (.sl 6))]))]))))])]
[.ex (.meth 0 "reprice" 27 [(.io 2), (.va (.op .add [(.tm (.con (.int 1))), (.tm (.op .mod [(.bo (.sl 4)), (.tm (.con (.int 9)))]))])), (.va (.op .add [(.tm (.con (.int 1))), (.tm (.call 2 [(.io 1), (.va (.con (.int 9)))]))]))])]],
.app (.sl 3) (.call 33 [(.ro 2)])],
.forr (.nm 7) (.sq (.tm (.rngD [(.op .sub [(.tm (.op .len [(.bo (.sl 3))])), (.tm (.con (.int 2)))]), (.op .neg [(.tm (.con (.int 1)))]), (.op .neg [(.tm (.con (.int 1)))])])))
[.ex (.meth 0 "undo" 28 [(.io 2)]),
.iff (.and (.op .eqF [(.tm (.op .mod [(.bo (.sl 7)), (.tm (.con (.int 5)))])), (.tm (.con (.int 0)))]) (.op .neD [(.tm (.call 33 [(.ro 2)])), (.bo (.ix (.sl 3) (.gt (.sl 7))))]))
[.ret (.con (.bl false))]
[]],
.forr (.nm 7) (.r2 (.con (.int 1)) (.op .len [(.bo (.sl 3))]))
[.ex (.meth 0 "redo" 29 [(.io 2)]),
.iff (.and (.op .eqF [(.tm (.op .mod [(.bo (.sl 7)), (.tm (.con (.int 5)))])), (.tm (.con (.int 0)))]) (.op .neD [(.tm (.call 33 [(.ro 2)])), (.bo (.ix (.sl 3) (.gt (.sl 7))))]))
[.ret (.con (.bl false))]
[]],
.ret (.op .eqD [(.tm (.call 33 [(.ro 2)])), (.bo (.ix (.sl 3) (.op .neg [(.tm (.con (.int 1)))])))])]
def s_law (b : Bx) : Option Bool :=
  ob (s_House_place Ho.nil tx3 tx4) fun v1 =>
  ob (s_House_place v1.2 tx5 tx6) fun v2 =>
  ob (s_House_thing v2.2 tx2 tx7 0 9 9 5 tx3 0) fun v3 =>
  ob (s_law_numbers v3.2) fun v4 =>
  ob (s_law_take b 200) fun v5 =>
  ob (rngO 0 (1 + v5.1)) fun v6 =>
  ob (forS (fun (x8 : Int) (q9 : (Bx × Ho × (List ((Int × Int) × Int × (List Int))))) =>
      ob (s_law_take q9.1 4) fun v10 =>
      ob (atI q9.2.2 (-1)) fun v11 =>
      ob (if ((decide (v10.1 = 0)) && (decide ((v11.2.2.length : Int) < 60))) = true then
          ob (s_House_hand q9.2.1 tx2 (6 + x8) tx3 tx5 (x8 % 10)) fun v13 =>
          some (v10.2, v13.2)
        else
          ob (if ((decide (v10.1 = 1)) && (decide (0 < (v11.2.2.length : Int)))) = true then
              ob (s_law_take v10.2 (v11.2.2.length : Int)) fun v15 =>
              ob (atI v11.2.2 v15.1) fun v16 =>
              ob (s_House_strike q9.2.1 v16) fun v17 =>
              some (v15.2, v17.2)
            else
              ob (s_law_take v10.2 9) fun v18 =>
              ob (s_House_reprice q9.2.1 (1 + (x8 % 9)) (1 + v18.1)) fun v19 =>
              some (v18.2, v19.2)
            ) fun q14 =>
          some (q14.1, q14.2)
        ) fun q12 =>
      ob (s_law_numbers q12.2) fun v20 =>
      ob (appO q9.2.2 v20) fun v21 =>
      some (q12.1, q12.2, v21)
    ) v6 (v5.2, v3.2, [v4])) fun q7 =>
  ob (Sh.rngD ((q7.2.2.length : Int) - 2) (-1)) fun v22 =>
  ob (forO (fun (x24 : Int) (q25 : Ho) =>
      ob (s_House_undo q25) fun v26 =>
      ob (if (decide ((x24 % 5) = 0)) = true then
          ob (s_law_numbers v26.2) fun v30 =>
          ob (atI q7.2.2 x24) fun v31 =>
          some (decide (v30 ≠ v31))
        else
          some false
        ) fun v32 =>
      if v32 = true then
        some (.inl false)
      else
        some (.inr v26.2)
    ) v22 q7.2.1) fun q23 =>
  orn q23 fun q33 =>
  ob (rngO 1 (q7.2.2.length : Int)) fun v34 =>
  ob (forO (fun (x36 : Int) (q37 : Ho) =>
      ob (s_House_redo q37) fun v38 =>
      ob (if (decide ((x36 % 5) = 0)) = true then
          ob (s_law_numbers v38.2) fun v42 =>
          ob (atI q7.2.2 x36) fun v43 =>
          some (decide (v42 ≠ v43))
        else
          some false
        ) fun v44 =>
      if v44 = true then
        some (.inl false)
      else
        some (.inr v38.2)
    ) v34 q33) fun q35 =>
  orn q35 fun q45 =>
  ob (s_law_numbers q45) fun v46 =>
  ob (atI q7.2.2 (-1)) fun v47 =>
  some (decide (v46 = v47))
theorem run_law (m : Nat) {b : Bx} {v : Bool} (h : s_law b = some v) : Run (Dn (m + 4)) b_law [none, some (Bx.w b), none, none, none, none, none, none] (RTlaw v) := by
  unfold s_law at h
  refine Run.asg (r2 := [none, some (Bx.w b), some (Ho.w Ho.nil), none, none, none, none, none]) (X.new0 (ok_House___init__ _)) (lt_of rfl) rfl ?_
  have t := ob_some h; clear h; obtain ⟨v1, e1, h⟩ := t
  refine Run.ex (X.meth (X.call (ok_House_place _ e1) (XA.io rfl (XA.va (X.conS tx3) (XA.va (X.conS tx4) XA.nil))) rfl rfl) rfl (isIns_of nc_House_place)) ?_
  have t := ob_some h; clear h; obtain ⟨v2, e2, h⟩ := t
  refine Run.ex (X.meth (X.call (ok_House_place _ e2) (XA.io rfl (XA.va (X.conS tx5) (XA.va (X.conS tx6) XA.nil))) rfl rfl) rfl (isIns_of nc_House_place)) ?_
  have t := ob_some h; clear h; obtain ⟨v3, e3, h⟩ := t
  refine Run.ex (X.meth (X.call (ok_House_thing _ e3) (XA.io rfl (XA.va (X.conS tx2) (XA.va (X.conS tx7) (XA.va X.conI (XA.va X.conI (XA.va X.conI (XA.va X.conI (XA.va (X.conS tx3) (XA.va X.conI XA.nil))))))))) rfl rfl) rfl (isIns_of nc_House_thing)) ?_
  have t := ob_some h; clear h; obtain ⟨v4, e4, h⟩ := t
  refine Run.asg (r2 := [none, some (Bx.w b), some (Ho.w v3.2), some (oL (d3 (d2 dI dI) dI (dL dI)) ([v4])), none, none, none, none]) (X.is (oL (d3 (d2 dI dI) dI (dL dI)) [v4]) (X.lst (XE.cons (X.call (ok_law_numbers _ e4) (XA.ro rfl XA.nil) rfl rfl) XE.nil) rfl)) (lt_of rfl) rfl ?_
  have t := ob_some h; clear h; obtain ⟨v5, e5, h⟩ := t
  have t := ob_some h; clear h; obtain ⟨v6, e6, h⟩ := t
  have t := ob_some h; clear h; obtain ⟨q7, e7, h⟩ := t
  refine Run.join (I := (fun (q : (Bx × Ho × (List ((Int × Int) × Int × (List Int))))) (r : Env) => ∃ j4 : Option W, ∃ j5 : Option W, ∃ j6 : Option W, r = [none, some (Bx.w q.1), some (Ho.w q.2.1), some (oL (d3 (d2 dI dI) dI (dL dI)) q.2.2), j4, j5, j6, none])) (q := q7) (Run.forS e7 (XI.rg1 (X.add (OV.tm X.conI) (OV.tm (X.call (ok_law_take _ e5) (XA.io rfl (XA.va X.conI XA.nil)) rfl rfl)) trivial) e6) ⟨_, _, _, rfl⟩ ?_) ?_
  · clear h
    rintro x8 q9 q' _ h ⟨j4, j5, j6, rfl⟩
    refine ⟨[none, some (Bx.w q9.1), some (Ho.w q9.2.1), some (oL (d3 (d2 dI dI) dI (dL dI)) q9.2.2), some (fz dI x8), j5, j6, none], (TB.nm (lt_of rfl) rfl), ?_⟩
    have t := ob_some h; clear h; obtain ⟨v10, e10, h⟩ := t
    refine Run.asg (r2 := [none, some (Bx.w v10.2), some (Ho.w q9.2.1), some (oL (d3 (d2 dI dI) dI (dL dI)) q9.2.2), some (fz dI x8), some (fz dI v10.1), j6, none]) (X.call (ok_law_take _ e10) (XA.io rfl (XA.va X.conI XA.nil)) rfl rfl) (lt_of rfl) rfl ?_
    have t := ob_some h; clear h; obtain ⟨v11, e11, h⟩ := t
    refine Run.asg (r2 := [none, some (Bx.w v10.2), some (Ho.w q9.2.1), some (oL (d3 (d2 dI dI) dI (dL dI)) q9.2.2), some (fz dI x8), some (fz dI v10.1), some (fz (dL dI) v11.2.2), none]) (X.gt (PW.ixT (n := 2) (PW.ixL (f := (d3 (d2 dI dI) dI (dL dI))) (PW.sl rfl) IsL.ow (X.neg (OV.tm X.conI)) rfl e11) rfl)) (lt_of rfl) rfl ?_
    have t := ob_some h; clear h; obtain ⟨q12, e12, h⟩ := t
    refine Run.join (I := (fun (q : (Bx × Ho)) (r : Env) => r = [none, some (Bx.w q.1), some (Ho.w q.2), some (oL (d3 (d2 dI dI) dI (dL dI)) q9.2.2), some (fz dI x8), some (fz dI v10.1), some (fz (dL dI) v11.2.2), none])) (q := q12) ?_ ?_
    · clear h
      rcases ite_some e12 with ⟨hc, h⟩ | ⟨hc, h⟩
      · refine Run.ifT (X.andP (X.eqI (OV.bo (PW.sl rfl)) (OV.tm X.conI) rfl) (X.lt (OV.tm (X.lenL (OV.bo (PW.sl rfl)) IsL.fz)) (OV.tm X.conI) trivial)) hc ?_
        have t := ob_some h; clear h; obtain ⟨v13, e13, h⟩ := t
        refine Run.ex (X.meth (X.call (ok_House_hand _ e13) (XA.io rfl (XA.va (X.conS tx2) (XA.va (X.add (OV.tm X.conI) (OV.bo (PW.sl rfl)) trivial) (XA.va (X.conS tx3) (XA.va (X.conS tx5) (XA.va (X.mod (OV.bo (PW.sl rfl)) (OV.tm X.conI) rfl (by decide)) XA.nil)))))) rfl rfl) rfl (isIns_of nc_House_hand)) ?_
        obtain rfl := Option.some.inj h
        exact fallE rfl
      · refine Run.ifF (X.andP (X.eqI (OV.bo (PW.sl rfl)) (OV.tm X.conI) rfl) (X.lt (OV.tm (X.lenL (OV.bo (PW.sl rfl)) IsL.fz)) (OV.tm X.conI) trivial)) hc ?_
        have t := ob_some h; clear h; obtain ⟨q14, e14, h⟩ := t
        refine Run.join (I := (fun (q : (Bx × Ho)) (r : Env) => r = [none, some (Bx.w q.1), some (Ho.w q.2), some (oL (d3 (d2 dI dI) dI (dL dI)) q9.2.2), some (fz dI x8), some (fz dI v10.1), some (fz (dL dI) v11.2.2), none])) (q := q14) ?_ ?_
        · clear h
          rcases ite_some e14 with ⟨hc, h⟩ | ⟨hc, h⟩
          · refine Run.ifT (X.andP (X.eqI (OV.bo (PW.sl rfl)) (OV.tm X.conI) rfl) (X.gtI (OV.tm (X.lenL (OV.bo (PW.sl rfl)) IsL.fz)) (OV.tm X.conI) trivial)) hc ?_
            have t := ob_some h; clear h; obtain ⟨v15, e15, h⟩ := t
            have t := ob_some h; clear h; obtain ⟨v16, e16, h⟩ := t
            have t := ob_some h; clear h; obtain ⟨v17, e17, h⟩ := t
            refine Run.ex (X.meth (X.call (ok_House_strike _ e17) (XA.io rfl (XA.va (X.gt (PW.ixL (f := dI) (PW.sl rfl) IsL.fz (X.call (ok_law_take _ e15) (XA.io rfl (XA.va (X.lenL (OV.bo (PW.sl rfl)) IsL.fz) XA.nil)) rfl rfl) rfl e16)) XA.nil)) rfl rfl) rfl (isIns_of nc_House_strike)) ?_
            obtain rfl := Option.some.inj h
            exact fallE rfl
          · refine Run.ifF (X.andP (X.eqI (OV.bo (PW.sl rfl)) (OV.tm X.conI) rfl) (X.gtI (OV.tm (X.lenL (OV.bo (PW.sl rfl)) IsL.fz)) (OV.tm X.conI) trivial)) hc ?_
            have t := ob_some h; clear h; obtain ⟨v18, e18, h⟩ := t
            have t := ob_some h; clear h; obtain ⟨v19, e19, h⟩ := t
            refine Run.ex (X.meth (X.call (ok_House_reprice _ e19) (XA.io rfl (XA.va (X.add (OV.tm X.conI) (OV.tm (X.mod (OV.bo (PW.sl rfl)) (OV.tm X.conI) rfl (by decide))) trivial) (XA.va (X.add (OV.tm X.conI) (OV.tm (X.call (ok_law_take _ e18) (XA.io rfl (XA.va X.conI XA.nil)) rfl rfl)) trivial) XA.nil))) rfl rfl) rfl (isIns_of nc_House_reprice)) ?_
            obtain rfl := Option.some.inj h
            exact fallE rfl
        rintro _ rfl
        obtain rfl := Option.some.inj h
        exact fallE rfl
    rintro _ rfl
    have t := ob_some h; clear h; obtain ⟨v20, e20, h⟩ := t
    have t := ob_some h; clear h; obtain ⟨v21, e21, h⟩ := t
    refine Run.app (f := (d3 (d2 dI dI) dI (dL dI))) (r2 := [none, some (Bx.w q12.1), some (Ho.w q12.2), some (oL (d3 (d2 dI dI) dI (dL dI)) v21), some (fz dI x8), some (fz dI v10.1), some (fz (dL dI) v11.2.2), none]) e21 rfl (X.call (ok_law_numbers _ e20) (XA.ro rfl XA.nil) rfl rfl) rfl rfl ?_
    obtain rfl := Option.some.inj h
    exact fallE (⟨_, _, _, rfl⟩)
  rintro _ ⟨j4, j5, j6, rfl⟩
  have t := ob_some h; clear h; obtain ⟨v22, e22, h⟩ := t
  have t := ob_some h; clear h; obtain ⟨q23, e23, h⟩ := t
  refine Run.orn (I := (fun (q : Ho) (r : Env) => ∃ j4 : Option W, ∃ j5 : Option W, ∃ j6 : Option W, ∃ j7 : Option W, r = [none, some (Bx.w q7.1), some (Ho.w q), some (oL (d3 (d2 dI dI) dI (dL dI)) q7.2.2), j4, j5, j6, j7])) (oo := q23) (Run.forO e23 (XI.sq (OV.tmL (X.rngD (X.sub (OV.tm (X.lenL (OV.bo (PW.sl rfl)) IsL.ow)) (OV.tm X.conI) trivial) (X.neg (OV.tm X.conI)) (X.neg (OV.tm X.conI)) e22)) IsL.fz) ⟨_, _, _, _, rfl⟩ ?_) h ?_
  · clear h
    rintro x24 q25 o _ h ⟨j4, j5, j6, j7, rfl⟩
    refine ⟨[none, some (Bx.w q7.1), some (Ho.w q25), some (oL (d3 (d2 dI dI) dI (dL dI)) q7.2.2), j4, j5, j6, some (fz dI x24)], (TB.nm (lt_of rfl) rfl), ?_⟩
    have t := ob_some h; clear h; obtain ⟨v26, e26, h⟩ := t
    refine Run.ex (X.meth (X.call (ok_House_undo _ e26) (XA.io rfl XA.nil) rfl rfl) rfl (isIns_of nc_House_undo)) ?_
    have t := ob_some h; clear h; obtain ⟨v32, e32, h⟩ := t
    have b32 : X (Dn (m + 4)) (.and (.op .eqF [(.tm (.op .mod [(.bo (.sl 7)), (.tm (.con (.int 5)))])), (.tm (.con (.int 0)))]) (.op .neD [(.tm (.call 33 [(.ro 2)])), (.bo (.ix (.sl 3) (.gt (.sl 7))))])) [none, some (Bx.w q7.1), some (Ho.w v26.2), some (oL (d3 (d2 dI dI) dI (dL dI)) q7.2.2), j4, j5, j6, some (fz dI x24)] (wB v32) [none, some (Bx.w q7.1), some (Ho.w v26.2), some (oL (d3 (d2 dI dI) dI (dL dI)) q7.2.2), j4, j5, j6, some (fz dI x24)] := by
      clear h
      rcases ite_some e32 with ⟨hc, h⟩ | ⟨hc, h⟩
      · skip
        have t := ob_some h; clear h; obtain ⟨v30, e30, h⟩ := t
        have t := ob_some h; clear h; obtain ⟨v31, e31, h⟩ := t
        obtain rfl := Option.some.inj h
        exact X.andT (X.eqI (OV.tm (X.mod (OV.bo (PW.sl rfl)) (OV.tm X.conI) rfl (by decide))) (OV.tm X.conI) trivial) hc (X.neD (rp3 (rp2 rpI rpI) rpI (rpL rpI)) (OV.tm (X.call (ok_law_numbers _ e30) (XA.ro rfl XA.nil) rfl rfl)) (OV.bo (PW.ixL (f := (d3 (d2 dI dI) dI (dL dI))) (PW.sl rfl) IsL.ow (X.gt (PW.sl rfl)) rfl e31)) trivial rfl rfl)
      · obtain rfl := Option.some.inj h
        exact X.andF (X.eqI (OV.tm (X.mod (OV.bo (PW.sl rfl)) (OV.tm X.conI) rfl (by decide))) (OV.tm X.conI) trivial) hc
    rcases ite_some h with ⟨hc, h⟩ | ⟨hc, h⟩
    · refine Run.ifT b32 hc ?_
      obtain rfl := Option.some.inj h
      exact Run.retS X.conB RTlaw.mk
    · refine Run.ifF b32 hc ?_
      obtain rfl := Option.some.inj h
      exact sumE (⟨_, _, _, _, rfl⟩)
  clear h
  rintro q33 _ h ⟨j4, j5, j6, j7, rfl⟩
  have t := ob_some h; clear h; obtain ⟨v34, e34, h⟩ := t
  have t := ob_some h; clear h; obtain ⟨q35, e35, h⟩ := t
  refine Run.orn (I := (fun (q : Ho) (r : Env) => ∃ j4 : Option W, ∃ j5 : Option W, ∃ j6 : Option W, ∃ j7 : Option W, r = [none, some (Bx.w q7.1), some (Ho.w q), some (oL (d3 (d2 dI dI) dI (dL dI)) q7.2.2), j4, j5, j6, j7])) (oo := q35) (Run.forO e35 (XI.rg2 X.conI (X.lenL (OV.bo (PW.sl rfl)) IsL.ow) e34) ⟨_, _, _, _, rfl⟩ ?_) h ?_
  · clear h
    rintro x36 q37 o _ h ⟨j4, j5, j6, j7, rfl⟩
    refine ⟨[none, some (Bx.w q7.1), some (Ho.w q37), some (oL (d3 (d2 dI dI) dI (dL dI)) q7.2.2), j4, j5, j6, some (fz dI x36)], (TB.nm (lt_of rfl) rfl), ?_⟩
    have t := ob_some h; clear h; obtain ⟨v38, e38, h⟩ := t
    refine Run.ex (X.meth (X.call (ok_House_redo _ e38) (XA.io rfl XA.nil) rfl rfl) rfl (isIns_of nc_House_redo)) ?_
    have t := ob_some h; clear h; obtain ⟨v44, e44, h⟩ := t
    have b44 : X (Dn (m + 4)) (.and (.op .eqF [(.tm (.op .mod [(.bo (.sl 7)), (.tm (.con (.int 5)))])), (.tm (.con (.int 0)))]) (.op .neD [(.tm (.call 33 [(.ro 2)])), (.bo (.ix (.sl 3) (.gt (.sl 7))))])) [none, some (Bx.w q7.1), some (Ho.w v38.2), some (oL (d3 (d2 dI dI) dI (dL dI)) q7.2.2), j4, j5, j6, some (fz dI x36)] (wB v44) [none, some (Bx.w q7.1), some (Ho.w v38.2), some (oL (d3 (d2 dI dI) dI (dL dI)) q7.2.2), j4, j5, j6, some (fz dI x36)] := by
      clear h
      rcases ite_some e44 with ⟨hc, h⟩ | ⟨hc, h⟩
      · skip
        have t := ob_some h; clear h; obtain ⟨v42, e42, h⟩ := t
        have t := ob_some h; clear h; obtain ⟨v43, e43, h⟩ := t
        obtain rfl := Option.some.inj h
        exact X.andT (X.eqI (OV.tm (X.mod (OV.bo (PW.sl rfl)) (OV.tm X.conI) rfl (by decide))) (OV.tm X.conI) trivial) hc (X.neD (rp3 (rp2 rpI rpI) rpI (rpL rpI)) (OV.tm (X.call (ok_law_numbers _ e42) (XA.ro rfl XA.nil) rfl rfl)) (OV.bo (PW.ixL (f := (d3 (d2 dI dI) dI (dL dI))) (PW.sl rfl) IsL.ow (X.gt (PW.sl rfl)) rfl e43)) trivial rfl rfl)
      · obtain rfl := Option.some.inj h
        exact X.andF (X.eqI (OV.tm (X.mod (OV.bo (PW.sl rfl)) (OV.tm X.conI) rfl (by decide))) (OV.tm X.conI) trivial) hc
    rcases ite_some h with ⟨hc, h⟩ | ⟨hc, h⟩
    · refine Run.ifT b44 hc ?_
      obtain rfl := Option.some.inj h
      exact Run.retS X.conB RTlaw.mk
    · refine Run.ifF b44 hc ?_
      obtain rfl := Option.some.inj h
      exact sumE (⟨_, _, _, _, rfl⟩)
  clear h
  rintro q45 _ h ⟨j4, j5, j6, j7, rfl⟩
  have t := ob_some h; clear h; obtain ⟨v46, e46, h⟩ := t
  have t := ob_some h; clear h; obtain ⟨v47, e47, h⟩ := t
  obtain rfl := Option.some.inj h
  exact Run.ret (X.eqD (rp3 (rp2 rpI rpI) rpI (rpL rpI)) (OV.tm (X.call (ok_law_numbers _ e46) (XA.ro rfl XA.nil) rfl rfl)) (OV.bo (PW.ixL (f := (d3 (d2 dI dI) dI (dL dI))) (PW.sl rfl) IsL.ow (X.neg (OV.tm X.conI)) rfl e47)) trivial rfl rfl) RTlaw.mk
theorem law_den (hl : ∀ b, s_law b = some true) : ∀ ns : List Int, ns.length ≤ 63 → ∃ r, S.sems (Dn 4) b_law (none :: some (boxW ns 0 0 0 (seedOf ns)) :: List.replicate (N_law.length - 2) none) = .rt (.fl (.bl true)) r := fun ns hn => run_law 0 (b := ⟨ns, hn, 0, 0, 0, seedOf ns⟩) (hl _)
end K52
end Vx
end

section
set_option maxHeartbeats 1000000
set_option synthInstance.maxSize 2000
set_option synthInstance.maxHeartbeats 400000
/-! k52: a long history, undone and done again. -/
namespace Vx
open PySem L2
namespace K52
open Sh Hs
def H0 : Dc Tx Tx := (Dc.nil.put tx3 tx4).put tx5 tx6
def C0 : Dc Tx Thg := Dc.nil.put tx2 (tx2, tx7, 0, 9, 9, (5, tx3, 0))
def Good (k : Int) (s : Std) : Prop := s.1 = H0 ∧ s.2.1 = C0 ∧ s.2.2.1.l.length ≤ 60 ∧ ∀ p ∈ s.2.2.1.l, p.2.1 = tx1 ∧ p.2.2.1 = tx2 ∧ p.2.2.2.1 = p.1 ∧ p.2.2.2.2.1 < 6 + k
theorem Good.mono {k m : Int} {s : Std} (h : Good k s) (l : k ≤ m) : Good m s := ⟨h.1, h.2.1, h.2.2.1, fun p hp => by
  obtain ⟨a1, a2, a3, a4⟩ := h.2.2.2 p hp
  exact ⟨a1, a2, a3, by omega⟩⟩
theorem Good.sz {k : Int} {s : Std} (h : Good k s) : Sz s := by
  obtain ⟨a1, a2, a3, _⟩ := h
  refine ⟨?_, ?_, by omega⟩
  · rw [a1]
    show (2 : Nat) ≤ 100
    decide
  · rw [a2]
    show (1 : Nat) ≤ 100
    decide
def nums (d : Dc Int Slp) : List Int := (paps d tx2).map (·.1)
theorem map_fm {α β : Type} {F : α → Option β} {g : β → α} : ∀ {xs : List α}, (∀ x ∈ xs, ∃ y, F x = some y ∧ g y = x) → (xs.filterMap F).map g = xs
  | [], _ => rfl
  | x :: xs, h => by
    obtain ⟨y, e1, e2⟩ := h x List.mem_cons_self
    rw [List.filterMap_cons, e1]
    show g y :: (xs.filterMap F).map g = x :: xs
    rw [e2, map_fm fun z hz => h z (List.mem_cons_of_mem _ hz)]
theorem Good.pap {k : Int} {s : Std} (h : Good k s) {n : Int} (hn : n ∈ s.2.2.1.l.map (·.1)) : ∃ p, papG s.2.2.1 tx2 n = some p ∧ p.1 = n ∧ p.2.1 < 6 + k := by
  obtain ⟨v, e, hm⟩ := lget_some hn
  obtain ⟨a1, a2, a3, a4⟩ := h.2.2.2 _ hm
  refine ⟨v.2.2, ?_, a3, a4⟩
  unfold papG
  have e2 : s.2.2.1.get n = some v := e
  rw [e2]
  show (if decide ((v.1, v.2.1) = (tx1, tx2)) = true then some v.2.2 else none) = _
  have a1 : v.1 = tx1 := a1
  have a2 : v.2.1 = tx2 := a2
  rw [a1, a2, decide_eq_true rfl]
  rfl
theorem Good.nums {k : Int} {s : Std} (h : Good k s) : nums s.2.2.1 = srt ltI (s.2.2.1.l.map (·.1)) := map_fm fun n hn => by
  obtain ⟨p, e1, e2, _⟩ := h.pap (srt_mem.mp hn)
  exact ⟨p, e1, e2⟩
theorem Good.days {k : Int} {s : Std} (h : Good k s) {d : Int} (hd : d ∈ (paps s.2.2.1 tx2).map (·.2.1)) : d < 6 + k := by
  obtain ⟨p, hp, rfl⟩ := List.mem_map.mp hd
  obtain ⟨n, hn, e⟩ := List.mem_filterMap.mp hp
  obtain ⟨q, e1, _, e3⟩ := h.pap (srt_mem.mp hn)
  rw [e1] at e
  rw [← Option.some.inj e]
  exact e3
theorem Good.len {k : Int} {s : Std} (h : Good k s) : (K52.nums s.2.2.1).length = s.2.2.1.l.length := by
  rw [h.nums, srt_len, List.length_map]
def numS (s : Std) : (Int × Int) × Int × List Int := (s.2.2.2.2.2.1, s.2.2.2.2.2.2, nums s.2.2.1)
theorem num_ok {k : Int} {h : Ho} (g : Good k (sn h)) : s_law_numbers h = some (numS (sn h)) := by
  have z := g.sz
  have hc : h.held = C0 := g.2.1
  have hh : h.held.has tx2 = true := by rw [hc]; exact has_of List.mem_cons_self
  unfold s_law_numbers
  rw [things_ok (show h.held.l.length ≤ 100 from z.2.1)]
  have e0 : (srt ltT (h.held.l.map (·.1))).filterMap h.held.get = [(tx2, tx7, 0, 9, 9, (5, tx3, 0))] := by
    rw [hc]
    have e1 : srt ltT (C0.l.map (·.1)) = [tx2] := by
      have : C0.l.map (·.1) = [tx2] := rfl
      rw [this]
      unfold srt
      simp
    rw [e1]
    rfl
  rw [e0]
  rw [ob_of, decide_eq_false (by simp), if_neg Bool.false_ne_true]
  rw [papers_ok hh z.2.2]
  have hlen : (paps h.slips tx2).length ≤ 100 := by
    have h2 : (paps h.slips tx2).length ≤ (srt ltI (h.slips.l.map (·.1))).length := List.length_filterMap_le _ _
    rw [srt_len, List.length_map] at h2
    have := z.2.2
    have h3 : h.slips.l.length ≤ 100 := z.2.2
    omega
  show ob (mapC _ (paps h.slips tx2)) _ = _
  have e1 : mapC (fun (x6 : Pap) => x6.1) (paps h.slips tx2) = some ((paps h.slips tx2).map (·.1)) := if_pos (by omega)
  rw [e1]
  rfl
theorem lput_len {κ β : Type} [DecidableEq κ] {k : κ} {v : β} : ∀ {l : List (κ × β)}, (lput l k v).length ≤ l.length + 1
  | [] => Nat.le_refl _
  | p :: l => by
    unfold lput
    split
    · simp
    · have := lput_len (k := k) (v := v) (l := l)
      simp only [List.length_cons]
      omega
theorem lput_in {κ β : Type} [DecidableEq κ] {k : κ} {v : β} {q : κ × β} : ∀ {l : List (κ × β)}, q ∈ lput l k v → q ∈ l ∨ q = (k, v)
  | [], h => .inr (List.mem_singleton.mp h)
  | p :: l, h => by
    unfold lput at h
    split at h
    · rcases List.mem_cons.mp h with h | h
      · exact .inr h
      · exact .inl (List.mem_cons_of_mem _ h)
    · rcases List.mem_cons.mp h with h | h
      · rw [h]
        exact .inl List.mem_cons_self
      · rcases lput_in h with h | h
        · exact .inl (List.mem_cons_of_mem _ h)
        · exact .inr h
theorem at_last {α : Type} {xs : List α} {x : α} : atI (xs ++ [x]) (-1) = some x := by
  unfold atI ixN
  have hl : (xs ++ [x]).length = xs.length + 1 := by simp
  rw [if_neg (by omega), if_pos (by omega)]
  show (xs ++ [x])[(((xs ++ [x]).length : Nat) + (-1 : Int)).toNat]? = some x
  have : (((xs ++ [x]).length : Nat) + (-1 : Int)).toNat = xs.length := by omega
  rw [this]
  simp
theorem at_mid {α β : Type} {f : α → β} {pre post : List α} {s : α} {i : Int} (e : i = pre.length) : atI ((pre ++ s :: post).map f) i = some (f s) := by
  rw [e, at_nat (by simp)]
  simp
/-- ahead of the deeds -/
def h1 : Ho := Ho.s_halls (rem Ho.nil) (Dc.nil.put tx3 tx4)
def h2 : Ho := Ho.s_halls (rem h1) (h1.halls.put tx5 tx6)
def h3 : Ho := Ho.s_held (rem h2) (h2.held.put tx2 (tx2, tx7, 0, 9, 9, (5, tx3, 0)))
theorem st1 : s_House_place Ho.nil tx3 tx4 = some ((), h1) := place_ok (by decide +kernel) rfl (by decide +kernel) (by decide) ⟨by decide, by decide, by decide⟩ (by decide)
theorem st2 : s_House_place h1 tx5 tx6 = some ((), h2) := place_ok (by decide +kernel) (by decide +kernel) (by decide +kernel) (by decide) ⟨by decide, by decide, by decide⟩ (by decide)
theorem st3 : s_House_thing h2 tx2 tx7 0 9 9 5 tx3 0 = some ((), h3) := thing_ok (by decide +kernel) rfl (by decide +kernel) (by decide) (by decide) (by decide) (by decide) (by decide +kernel) (by decide) (by decide) ⟨by decide, by decide, by decide⟩ (by decide)
theorem good3 : Good 0 (sn h3) := ⟨rfl, rfl, by decide, fun p hp => by cases hp⟩
/-- the house at the j-th of all that stood -/
def At (P0 All : List Std) (j : Nat) (q : Ho) : Prop := ∃ pre s post, All = pre ++ s :: post ∧ pre.length = j ∧ sn q = s ∧ q.past = P0 ++ pre ∧ q.future = post.reverse
theorem At.undo {P0 All : List Std} {k : Int} {j : Nat} {q : Ho} (hA : ∀ s ∈ All, Good k s) (hl : P0.length + All.length ≤ 500) (h : At P0 All (j + 1) q) : ∃ q' s pre post, s_House_undo q = some ((), q') ∧ At P0 All j q' ∧ sn q' = s ∧ All = pre ++ s :: post ∧ pre.length = j := by
  obtain ⟨pre, s, post, e, hp, hs, h1, h2⟩ := h
  obtain ⟨pre', s', rfl⟩ : ∃ pre' s', pre = pre' ++ [s'] := ⟨pre.dropLast, pre.getLast (by intro z; rw [z] at hp; cases hp), (List.dropLast_concat_getLast _).symm⟩
  have hp' : pre'.length = j := by simpa using hp
  have m1 : Good k s := hA s (by rw [e]; simp)
  have m2 : Good k s' := hA s' (by rw [e]; simp)
  have la : All.length = pre'.length + 1 + (post.length + 1) := by rw [e]; simp; omega
  have := undo_ok (h := q) (s := s') (ps := P0 ++ pre') (by rw [hs]; exact m1.sz) (by rw [h1, List.append_assoc]) m2.sz (by simp; omega) (by rw [h2]; simp; omega)
  refine ⟨_, s', pre', s :: post, this, ⟨pre', s', s :: post, by rw [e]; simp, hp', rfl, rfl, ?_⟩, rfl, by rw [e]; simp, hp'⟩
  show q.future ++ [sn q] = (s :: post).reverse
  rw [h2, hs, List.reverse_cons]
theorem At.redo {P0 All : List Std} {k : Int} {j : Nat} {q : Ho} (hA : ∀ s ∈ All, Good k s) (hl : P0.length + All.length ≤ 500) (h : At P0 All j q) (hj : j + 1 < All.length) : ∃ q' s pre post, s_House_redo q = some ((), q') ∧ At P0 All (j + 1) q' ∧ sn q' = s ∧ All = pre ++ s :: post ∧ pre.length = j + 1 := by
  obtain ⟨pre, s, post, e, hp, hs, h1, h2⟩ := h
  have la : All.length = pre.length + (post.length + 1) := by rw [e]; simp
  cases post with
  | nil =>
    simp at la
    omega
  | cons s' post =>
    have m1 : Good k s := hA s (by rw [e]; simp)
    have m2 : Good k s' := hA s' (by rw [e]; simp)
    have := redo_ok (h := q) (s := s') (ps := post.reverse) (by rw [hs]; exact m1.sz) (by rw [h2, List.reverse_cons]) m2.sz (by simp at la ⊢; omega) (by rw [h1]; simp at la ⊢; omega)
    refine ⟨_, s', pre ++ [s], post, this, ⟨pre ++ [s], s', post, by rw [e]; simp, by simp [hp], rfl, ?_, rfl⟩, rfl, by rw [e]; simp, by simp [hp]⟩
    show q.past ++ [sn q] = P0 ++ (pre ++ [s])
    rw [h1, hs, List.append_assoc]
/-- behind k deeds -/
def Fwd (k : Nat) (q : Bx × Ho × List ((Int × Int) × Int × List Int)) : Prop := ∃ Ss : List Std, Ss.length = k ∧ q.2.1.past = h3.past ++ Ss ∧ q.2.1.future = [] ∧ Good k (sn q.2.1) ∧ (∀ s ∈ Ss, Good k s) ∧ q.2.2 = (Ss ++ [sn q.2.1]).map numS
theorem Fwd.next {k : Nat} {b b' : Bx} {h h' : Ho} {rs : List ((Int × Int) × Int × List Int)} (f : Fwd k (b, h, rs)) (hk : k < 200) (e1 : h'.past = h.past ++ [sn h]) (e2 : h'.future = []) (g : Good ((k + 1 : Nat) : Int) (sn h')) :
    Wl (ob (s_law_numbers h') fun v20 => ob (appO rs v20) fun v21 => some (b', h', v21)) (Fwd (k + 1)) := by
  obtain ⟨Ss, a1, a2, a3, a4, a5, a6⟩ := f
  have a6 : rs = (Ss ++ [sn h]).map numS := a6
  have a2 : h.past = h3.past ++ Ss := a2
  have a4 : Good k (sn h) := a4
  rw [num_ok g, ob_of, apd_ok (by rw [a6]; simp; omega), ob_of]
  refine Wl.of ⟨Ss ++ [sn h], by simp [a1], by show h'.past = _; rw [e1, a2, List.append_assoc], e2, g, fun s hs => ?_, ?_⟩
  · rcases List.mem_append.mp hs with hs | hs
    · exact (a5 s hs).mono (by omega)
    · rw [List.mem_singleton.mp hs]
      exact a4.mono (by omega)
  · show rs ++ [numS (sn h')] = _
    rw [a6]
    simp
theorem law_true (b : Bx) : s_law b = some true := by
  refine Wl.eq (Wl.mono (P := fun v => v = true) ?_ fun v h => h)
  unfold s_law
  rw [st1, ob_of, st2, ob_of, st3, ob_of]
  show Wl (ob (s_law_numbers h3) _) _
  rw [num_ok good3, ob_of]
  refine Wl.bind (ok_take (by decide) (by decide)) fun v5 h5 => ?_
  refine Wl.bind (ok_rng0 (by omega)) fun v6 h6 => ?_
  subst h6
  obtain ⟨N, hN⟩ : ∃ N : Nat, (1 + v5.1 - 0).toNat = N := ⟨_, rfl⟩
  have hN2 : N ≤ 200 := by omega
  have hN1 : 1 ≤ N := by omega
  refine Wl.bind (ok_forR (I := Fwd) ⟨[], rfl, by simp, rfl, good3, (fun s hs => by cases hs), rfl⟩ fun k q hk f => ?_) fun q7 h7 => ?_
  · -- one deed
    obtain ⟨b1, h, rs⟩ := q
    rw [hN] at hk
    refine Wl.bind (ok_take (by decide) (by decide)) fun v10 h10 => ?_
    obtain ⟨Ss, a1, a2, a3, a4, a5, a6⟩ := id f
    have a6 : rs = (Ss ++ [sn h]).map numS := a6
    have a2 : h.past = h3.past ++ Ss := a2
    have a4 : Good k (sn h) := a4
    have e11 : atI rs (-1) = some (numS (sn h)) := by
      rw [a6, List.map_append]
      exact at_last
    show Wl (ob (atI rs (-1)) _) _
    rw [e11, ob_of]
    have hlen : (numS (sn h)).2.2.length = h.slips.l.length := a4.len
    have hpl : h.past.length ≤ 1000 := by
      rw [a2]
      have : h3.past.length = 3 := rfl
      simp
      omega
    have z := a4.sz
    have hh : h.halls = H0 := a4.1
    have hc : h.held = C0 := a4.2.1
    have hsl : h.slips.l.length ≤ 60 := a4.2.2.1
    -- the deed, then the numbers
    refine Wl.bind (P := fun q12 : Bx × Ho => q12.2.past = h.past ++ [sn h] ∧ q12.2.future = [] ∧ Good ((k + 1 : Nat) : Int) (sn q12.2)) ?_ fun q12 h12 => ?_
    · refine Wl.ite (fun hb => ?_) (fun hb => ?_)
      · obtain ⟨_, hb2⟩ := and2 hb
        have hb2 := of_decide_eq_true hb2
        have hs60 : h.slips.l.length < 60 := by
          rw [hlen] at hb2
          omega
        have e := hand_ok (h := h) (t := tx2) (a := tx3) (b := tx5) (day := 6 + (0 + (k : Int))) (g := (0 + (k : Int)) % 10) (v := (tx2, tx7, 0, 9, 9, (5, tx3, 0))) (by rw [hc]; rfl) (by omega) (by rw [hh]; decide +kernel) (by rw [hh]; decide +kernel) (by omega) (by show (5 : Int) < _; omega) (fun hm => by
          have := a4.days hm
          omega) hs60 z hpl
        show Wl (ob (s_House_hand h tx2 (6 + (0 + (k : Int))) tx3 tx5 ((0 + (k : Int)) % 10)) _) _
        rw [e, ob_of]
        refine Wl.of ⟨rfl, rfl, hh, hc, ?_, fun p hp => ?_⟩
        · show (lput h.slips.l h.later _).length ≤ 60
          have := lput_len (k := h.later) (v := ((tx1, tx2, (h.later, 6 + (0 + (k : Int)), tx3, tx5, (0 + (k : Int)) % 10)) : Slp)) (l := h.slips.l)
          omega
        · rcases lput_in (show p ∈ lput h.slips.l h.later _ from hp) with hp | hp
          · obtain ⟨c1, c2, c3, c4⟩ := a4.2.2.2 p hp
            exact ⟨c1, c2, c3, by omega⟩
          · rw [hp]
            refine ⟨rfl, rfl, rfl, ?_⟩
            show 6 + (0 + (k : Int)) < 6 + ((k + 1 : Nat) : Int)
            omega
      · refine Wl.bind (P := fun q14 : Bx × Ho => q14.2.past = h.past ++ [sn h] ∧ q14.2.future = [] ∧ Good ((k + 1 : Nat) : Int) (sn q14.2)) ?_ fun q14 h14 => Wl.of h14
        refine Wl.ite (fun hc2 => ?_) (fun hc2 => ?_)
        · obtain ⟨_, hc3⟩ := and2 hc2
          have hc3 := of_decide_eq_true hc3
          have hc3' : (0 : Int) < ((numS (sn h)).2.2.length : Int) := hc3
          refine Wl.bind (ok_take hc3' (by rw [hlen]; omega)) fun v15 h15 => ?_
          refine Wl.bind (ok_mem h15.1 h15.2) fun v16 h16 => ?_
          have hin : h.slips.has v16 = true := by
            have e : (numS (sn h)).2.2 = srt ltI (h.slips.l.map (·.1)) := a4.nums
            rw [e] at h16
            exact has_of (srt_mem.mp h16)
          show Wl (ob (s_House_strike h v16) _) _
          rw [strike_ok hin z hpl, ob_of]
          refine Wl.of ⟨rfl, rfl, hh, hc, ?_, fun p hp => ?_⟩
          · show (ldel h.slips.l v16).length ≤ 60
            have : (ldel h.slips.l v16).length ≤ h.slips.l.length := List.length_eraseP_le
            omega
          · have hp' : p ∈ h.slips.l := List.mem_of_mem_eraseP (show p ∈ h.slips.l.eraseP _ from hp)
            obtain ⟨c1, c2, c3, c4⟩ := a4.2.2.2 p hp'
            exact ⟨c1, c2, c3, by omega⟩
        · refine Wl.bind (ok_take (by decide) (by decide)) fun v18 h18 => ?_
          show Wl (ob (s_House_reprice h (1 + ((0 + (k : Int)) % 9)) (1 + v18.1)) _) _
          rw [reprice_ok (by omega) (by omega) z hpl, ob_of]
          exact Wl.of ⟨rfl, rfl, a4.mono (by omega)⟩
    · exact f.next (b' := q12.1) (by omega) h12.1 h12.2.1 h12.2.2
  · rw [hN] at h7
    obtain ⟨b7, q, rs⟩ := q7
    obtain ⟨Ss, a1, a2, a3, a4, a5, a6⟩ := h7
    have a6 : rs = (Ss ++ [sn q]).map numS := a6
    have a2 : q.past = h3.past ++ Ss := a2
    have a3 : q.future = [] := a3
    have a4 : Good N (sn q) := a4
    obtain ⟨All, hAll⟩ : ∃ All, All = Ss ++ [sn q] := ⟨_, rfl⟩
    have lA : All.length = N + 1 := by rw [hAll]; simp [a1]
    have gA : ∀ s ∈ All, Good N s := fun s hs => by
      rw [hAll] at hs
      rcases List.mem_append.mp hs with hs | hs
      · exact a5 s hs
      · rw [List.mem_singleton.mp hs]
        exact a4
    have hsz : h3.past.length + All.length ≤ 500 := by
      have : h3.past.length = 3 := rfl
      omega
    have lr : rs.length = N + 1 := by rw [a6]; simp [a1]
    rw [← hAll] at a6
    have at0 : At h3.past All N q := ⟨Ss, sn q, [], hAll, a1, rfl, a2, a3⟩
    show Wl (ob (Sh.rngD ((rs.length : Int) - 2) (-1)) _) _
    have er : Sh.rngD ((rs.length : Int) - 2) (-1) = some (dwI ((rs.length : Int) - 2) (-1)) := if_pos (by omega)
    rw [er, ob_of]
    have hrow : ∀ {q' : Ho} {s : Std} {pre post : List Std} {i : Int}, sn q' = s → All = pre ++ s :: post → i = pre.length → Wl (if decide ((i % 5) = 0) = true then ob (s_law_numbers q') fun v30 => ob (atI rs i) fun v31 => some (decide (v30 ≠ v31)) else some false) (· = false) := fun {q' s pre post i} e1 e2 e3 => by
      refine Wl.ite (fun _ => ?_) (fun _ => Wl.of rfl)
      have gs : Good N (sn q') := by rw [e1]; exact gA s (by rw [e2]; simp)
      rw [num_ok gs, ob_of, a6, e2, at_mid e3, ob_of, e1]
      exact Wl.of (decide_eq_false fun z => z rfl)
    refine ok_loop (fun pre post x => pre ++ post = dwI ((rs.length : Int) - 2) (-1) ∧ pre.length ≤ N ∧ At h3.past All (N - pre.length) x) ⟨rfl, Nat.zero_le _, by simpa using at0⟩ ?_ ?_
    · intro pre x post s hI
      obtain ⟨i1, i2, i3⟩ := hI
      have hx : x = ((rs.length : Int) - 2) - pre.length ∧ pre.length < N := by
        have hl : pre.length + (post.length + 1) = N := by
          have := congrArg List.length i1
          unfold dwI at this
          simp at this
          omega
        have hg := congrArg (fun l => l[pre.length]?) i1
        simp [dwI] at hg
        rw [List.getElem?_eq_getElem (by simp; omega)] at hg
        simp at hg
        exact ⟨hg, by omega⟩
      obtain ⟨hx, hlt⟩ := hx
      obtain ⟨m, hm⟩ : ∃ m, N - pre.length = m + 1 := ⟨N - pre.length - 1, by omega⟩
      rw [hm] at i3
      obtain ⟨q', s', pre', post', u1, u2, u3, u4, u5⟩ := i3.undo gA hsz
      show Wl (ob (s_House_undo s) _) _
      rw [u1, ob_of]
      refine Wl.bind (hrow u3 u4 (by omega)) fun v32 hv => ?_
      rw [hv]
      refine Ends.r ⟨by rw [List.append_assoc]; exact i1, by simp; omega, ?_⟩
      have : N - (pre ++ [x]).length = m := by simp; omega
      rw [this]
      exact u2
    · intro s hI
      obtain ⟨i1, i2, i3⟩ := hI
      have hl : (dwI ((rs.length : Int) - 2) (-1)).length = N := by
        unfold dwI
        simp
        omega
      rw [hl, Nat.sub_self] at i3
      have lr' : ((b7, q, rs).2.2.length : Int) = (N : Int) + 1 := by
        show ((rs.length : Nat) : Int) = _
        omega
      refine Wl.bind (ok_rng (by omega) (by omega)) fun v34 h34 => ?_
      subst h34
      refine ok_loopR (I := fun k x => At h3.past All k x) i3 (fun k x hk hx => ?_) fun s2 hs2 => ?_
      · obtain ⟨q', s', pre', post', u1, u2, u3, u4, u5⟩ := hx.redo gA hsz (by omega)
        show Wl (ob (s_House_redo x) _) _
        rw [u1, ob_of]
        refine Wl.bind (hrow u3 u4 (by omega)) fun v32 hv => ?_
        rw [hv]
        exact Ends.r u2
      · have e : ((rs.length : Int) - 1).toNat = N := by omega
        rw [e] at hs2
        obtain ⟨pre, s', post, e1, e2, e3, _, _⟩ := hs2
        have gs : Good N (sn s2) := by rw [e3]; exact gA s' (by rw [e1]; simp)
        have hpost : post = [] := by
          have := congrArg List.length e1
          simp at this
          exact List.length_eq_zero_iff.mp (by omega)
        rw [num_ok gs, ob_of]
        show Wl (ob (atI rs (-1)) _) _
        have el : atI rs (-1) = some (numS s') := by
          rw [a6, e1, hpost, List.map_append]
          exact at_last
        rw [el, ob_of, e3]
        exact Wl.of (decide_eq_true rfl)
end K52
end Vx
end

section
set_option maxHeartbeats 0
namespace Vx
namespace K52
open PySem PySem.Spec PyProof.Rows L2 Sh Hs
def top (i : Nat) : Stmt := PySem.Challenge.pw_vitrine_k52_whole_long_history.main.body.getD i (.Pass ⟨0, 0, 0, 0⟩)
def q_House : Kls := ⟨0, "House", hoF, true⟩
def f_House___init : Fn := ⟨"__init__", 14, [0], 1, [], some 0⟩
def f_is_name : Fn := ⟨"is_name", 12, [], 1, [], none⟩
def f_House_stand : Fn := ⟨"stand", 15, [], 1, [0], some 0⟩
def f_House_remember : Fn := ⟨"remember", 17, [0], 1, [], some 0⟩
def f_House_place : Fn := ⟨"place", 20, [0], 3, [], some 0⟩
def f_is_within : Fn := ⟨"is_within", 13, [], 3, [], none⟩
def f_House_look_new : Fn := ⟨"look_new", 21, [], 6, [0], some 0⟩
def f_House_look_place : Fn := ⟨"look_place", 18, [], 2, [0], some 0⟩
def f_House_thing : Fn := ⟨"thing", 22, [0], 9, [], some 0⟩
def f_House_things : Fn := ⟨"things", 30, [], 1, [0], some 0⟩
def f_House_prices : Fn := ⟨"prices", 31, [], 1, [0], some 0⟩
def f_House_upcoming : Fn := ⟨"upcoming", 32, [], 1, [0], some 0⟩
def f_House_look_thing : Fn := ⟨"look_thing", 19, [], 2, [0], some 0⟩
def f_House_papers : Fn := ⟨"papers", 23, [], 2, [0], some 0⟩
def f_law_numbers : Fn := ⟨"_law_numbers", 33, [], 1, [0], none⟩
def f_law_mixed : Fn := ⟨"_law_mixed", 1, [], 2, [], none⟩
def f_law_take : Fn := ⟨"_law_take", 2, [0], 2, [], none⟩
def f_House_put_slip : Fn := ⟨"put_slip", 24, [0], 4, [], some 0⟩
def f_House_hand : Fn := ⟨"hand", 25, [0], 6, [], some 0⟩
def f_House_strike : Fn := ⟨"strike", 26, [0], 2, [], some 0⟩
def f_House_reprice : Fn := ⟨"reprice", 27, [0], 3, [], some 0⟩
def f_House_bring : Fn := ⟨"bring", 16, [0], 2, [], some 0⟩
def f_House_undo : Fn := ⟨"undo", 28, [0], 1, [], some 0⟩
def f_House_redo : Fn := ⟨"redo", 29, [0], 1, [], some 0⟩
def n_House___init : List Str := ["self"]
def c_House___init : Ck := ⟨n_House___init, defScope (inClass (top 41) 0), [], [], [q_House], [], fun _ => true⟩
theorem h_House___init : S.chks b_House___init c_House___init (defBody (inClass (top 41) 0)) = true := by decide +kernel
theorem sc_House___init : FnScope c_House___init.N ["self"] (defScope (inClass (top 41) 0)) := ⟨rfl, rfl, rfl, by decide +kernel, rfl, by decide +kernel, by decide +kernel⟩
def n_is_name : List Str := ["text", "sign"]
def c_is_name : Ck := ⟨n_is_name, defScope (top 37), [], [("LETTERS", (.str "abcdefghijklmnopqrstuvwxyz"))], [q_House], [], fun _ => true⟩
theorem h_is_name : S.chks b_is_name c_is_name (defBody (top 37)) = true := by decide +kernel
theorem sc_is_name : FnScope c_is_name.N ["text"] (defScope (top 37)) := ⟨rfl, rfl, rfl, by decide +kernel, rfl, by decide +kernel, by decide +kernel⟩
def n_House_stand : List Str := ["self", "tables"]
def c_House_stand : Ck := ⟨n_House_stand, defScope (inClass (top 41) 1), [], [], [q_House], [], fun _ => true⟩
theorem h_House_stand : S.chks b_House_stand c_House_stand (defBody (inClass (top 41) 1)) = true := by decide +kernel
theorem sc_House_stand : FnScope c_House_stand.N ["self"] (defScope (inClass (top 41) 1)) := ⟨rfl, rfl, rfl, by decide +kernel, rfl, by decide +kernel, by decide +kernel⟩
def n_House_remember : List Str := ["self"]
def c_House_remember : Ck := ⟨n_House_remember, defScope (inClass (top 41) 3), [f_House_stand], [], [q_House], [], fun _ => true⟩
theorem h_House_remember : S.chks b_House_remember c_House_remember (defBody (inClass (top 41) 3)) = true := by decide +kernel
theorem sc_House_remember : FnScope c_House_remember.N ["self"] (defScope (inClass (top 41) 3)) := ⟨rfl, rfl, rfl, by decide +kernel, rfl, by decide +kernel, by decide +kernel⟩
def n_House_place : List Str := ["self", "name", "word"]
def c_House_place : Ck := ⟨n_House_place, defScope (inClass (top 41) 7), [f_is_name, f_House_remember], [("PLACES_MOST", (.int 12))], [q_House], [("WORDS", ["lit", "dark", "bench", "out"])], fun _ => true⟩
theorem h_House_place : S.chks b_House_place c_House_place (defBody (inClass (top 41) 7)) = true := by decide +kernel
theorem sc_House_place : FnScope c_House_place.N ["self", "name", "word"] (defScope (inClass (top 41) 7)) := ⟨rfl, rfl, rfl, by decide +kernel, rfl, by decide +kernel, by decide +kernel⟩
def n_is_within : List Str := ["number", "low", "high"]
def c_is_within : Ck := ⟨n_is_within, defScope (top 38), [], [], [q_House], [], fun _ => true⟩
theorem h_is_within : S.chks b_is_within c_is_within (defBody (top 38)) = true := by decide +kernel
theorem sc_is_within : FnScope c_is_within.N ["number", "low", "high"] (defScope (top 38)) := ⟨rfl, rfl, rfl, by decide +kernel, rfl, by decide +kernel, by decide +kernel⟩
def n_House_look_new : List Str := ["self", "name", "kind", "low", "high", "limit"]
def c_House_look_new : Ck := ⟨n_House_look_new, defScope (inClass (top 41) 8), [f_is_name, f_is_within], [("DAMP_MOST", (.int 100)), ("LIMIT_MOST", (.int 1000000))], [q_House], [], fun _ => true⟩
theorem h_House_look_new : S.chks b_House_look_new c_House_look_new (defBody (inClass (top 41) 8)) = true := by decide +kernel
theorem sc_House_look_new : FnScope c_House_look_new.N ["self", "name", "kind", "low", "high", "limit"] (defScope (inClass (top 41) 8)) := ⟨rfl, rfl, rfl, by decide +kernel, rfl, by decide +kernel, by decide +kernel⟩
def n_House_look_place : List Str := ["self", "name"]
def c_House_look_place : Ck := ⟨n_House_look_place, defScope (inClass (top 41) 5), [], [], [q_House], [], fun _ => true⟩
theorem h_House_look_place : S.chks b_House_look_place c_House_look_place (defBody (inClass (top 41) 5)) = true := by decide +kernel
theorem sc_House_look_place : FnScope c_House_look_place.N ["self", "name"] (defScope (inClass (top 41) 5)) := ⟨rfl, rfl, rfl, by decide +kernel, rfl, by decide +kernel, by decide +kernel⟩
def n_House_thing : List Str := ["self", "name", "kind", "low", "high", "limit", "day", "home", "grade"]
def c_House_thing : Ck := ⟨n_House_thing, defScope (inClass (top 41) 9), [f_House_look_new, f_is_within, f_House_look_place, f_House_remember], [("THINGS_MOST", (.int 12)), ("DAY_MOST", (.int 1000000000)), ("GRADE_MOST", (.int 9))], [q_House], [], fun _ => true⟩
theorem h_House_thing : S.chks b_House_thing c_House_thing (defBody (inClass (top 41) 9)) = true := by decide +kernel
theorem sc_House_thing : FnScope c_House_thing.N ["self", "name", "kind", "low", "high", "limit", "day", "home", "grade"] (defScope (inClass (top 41) 9)) := ⟨rfl, rfl, rfl, by decide +kernel, rfl, by decide +kernel, by decide +kernel⟩
def n_House_things : List Str := ["self", "name"]
def c_House_things : Ck := ⟨n_House_things, defScope (inClass (top 41) 25), [], [], [q_House], [], fun _ => true⟩
theorem h_House_things : S.chks b_House_things c_House_things (defBody (inClass (top 41) 25)) = true := by decide +kernel
theorem sc_House_things : FnScope c_House_things.N ["self"] (defScope (inClass (top 41) 25)) := ⟨rfl, rfl, rfl, by decide +kernel, rfl, by decide +kernel, by decide +kernel⟩
def n_House_prices : List Str := ["self"]
def c_House_prices : Ck := ⟨n_House_prices, defScope (inClass (top 41) 28), [], [], [q_House], [], fun _ => true⟩
theorem h_House_prices : S.chks b_House_prices c_House_prices (defBody (inClass (top 41) 28)) = true := by decide +kernel
theorem sc_House_prices : FnScope c_House_prices.N ["self"] (defScope (inClass (top 41) 28)) := ⟨rfl, rfl, rfl, by decide +kernel, rfl, by decide +kernel, by decide +kernel⟩
def n_House_upcoming : List Str := ["self"]
def c_House_upcoming : Ck := ⟨n_House_upcoming, defScope (inClass (top 41) 29), [], [], [q_House], [], fun _ => true⟩
theorem h_House_upcoming : S.chks b_House_upcoming c_House_upcoming (defBody (inClass (top 41) 29)) = true := by decide +kernel
theorem sc_House_upcoming : FnScope c_House_upcoming.N ["self"] (defScope (inClass (top 41) 29)) := ⟨rfl, rfl, rfl, by decide +kernel, rfl, by decide +kernel, by decide +kernel⟩
def n_House_look_thing : List Str := ["self", "name"]
def c_House_look_thing : Ck := ⟨n_House_look_thing, defScope (inClass (top 41) 6), [], [], [q_House], [], fun _ => true⟩
theorem h_House_look_thing : S.chks b_House_look_thing c_House_look_thing (defBody (inClass (top 41) 6)) = true := by decide +kernel
theorem sc_House_look_thing : FnScope c_House_look_thing.N ["self", "name"] (defScope (inClass (top 41) 6)) := ⟨rfl, rfl, rfl, by decide +kernel, rfl, by decide +kernel, by decide +kernel⟩
def n_House_papers : List Str := ["self", "thing", "numbers", "number"]
def c_House_papers : Ck := ⟨n_House_papers, defScope (inClass (top 41) 10), [f_House_look_thing], [], [q_House], [], fun _ => true⟩
theorem h_House_papers : S.chks b_House_papers c_House_papers (defBody (inClass (top 41) 10)) = true := by decide +kernel
theorem sc_House_papers : FnScope c_House_papers.N ["self", "thing"] (defScope (inClass (top 41) 10)) := ⟨rfl, rfl, rfl, by decide +kernel, rfl, by decide +kernel, by decide +kernel⟩
def n_law_numbers : List Str := ["_law_house", "_law_paper"]
def c_law_numbers : Ck := ⟨n_law_numbers, defScope (top 46), [f_House_things, f_House_prices, f_House_upcoming, f_House_papers], [], [q_House], [], fun _ => true⟩
theorem h_law_numbers : S.chks b_law_numbers c_law_numbers (defBody (top 46)) = true := by decide +kernel
theorem sc_law_numbers : FnScope c_law_numbers.N ["_law_house"] (defScope (top 46)) := ⟨rfl, rfl, rfl, by decide +kernel, rfl, by decide +kernel, by decide +kernel⟩
def n_law_mixed : List Str := ["_law_number", "_law_turn", "_law_one", "_law_two"]
def c_law_mixed : Ck := ⟨n_law_mixed, defScope (top 45), [], [], [q_House], [], fun _ => true⟩
theorem h_law_mixed : S.chks b_law_mixed c_law_mixed (defBody (top 45)) = true := by decide +kernel
theorem sc_law_mixed : FnScope c_law_mixed.N ["_law_number", "_law_turn"] (defScope (top 45)) := ⟨rfl, rfl, rfl, by decide +kernel, rfl, by decide +kernel, by decide +kernel⟩
def n_law_take : List Str := ["_law_box_here", "_law_size", "_law_left", "_law_cell"]
def c_law_take : Ck := ⟨n_law_take, defScope (top 44), [f_law_mixed], [], [q_House], [], fun _ => true⟩
theorem h_law_take : S.chks b_law_take c_law_take (defBody (top 44)) = true := by decide +kernel
theorem sc_law_take : FnScope c_law_take.N ["_law_box_here", "_law_size"] (defScope (top 44)) := ⟨rfl, rfl, rfl, by decide +kernel, rfl, by decide +kernel, by decide +kernel⟩
def n_House_put_slip : List Str := ["self", "word", "thing", "rest", "number"]
def c_House_put_slip : Ck := ⟨n_House_put_slip, defScope (inClass (top 41) 12), [f_House_remember], [], [q_House], [], fun _ => true⟩
theorem h_House_put_slip : S.chks b_House_put_slip c_House_put_slip (defBody (inClass (top 41) 12)) = true := by decide +kernel
theorem sc_House_put_slip : FnScope c_House_put_slip.N ["self", "word", "thing", "rest"] (defScope (inClass (top 41) 12)) := ⟨rfl, rfl, rfl, by decide +kernel, rfl, by decide +kernel, by decide +kernel⟩
def n_House_hand : List Str := ["self", "thing", "day", "here", "there", "grade", "paper"]
def c_House_hand : Ck := ⟨n_House_hand, defScope (inClass (top 41) 13), [f_House_look_thing, f_is_within, f_House_look_place, f_House_papers, f_House_put_slip], [("PAPERS_MOST", (.int 60)), ("DAY_MOST", (.int 1000000000)), ("GRADE_MOST", (.int 9))], [q_House], [], fun _ => true⟩
theorem h_House_hand : S.chks b_House_hand c_House_hand (defBody (inClass (top 41) 13)) = true := by decide +kernel
theorem sc_House_hand : FnScope c_House_hand.N ["self", "thing", "day", "here", "there", "grade"] (defScope (inClass (top 41) 13)) := ⟨rfl, rfl, rfl, by decide +kernel, rfl, by decide +kernel, by decide +kernel⟩
def n_House_strike : List Str := ["self", "number"]
def c_House_strike : Ck := ⟨n_House_strike, defScope (inClass (top 41) 15), [f_House_remember], [], [q_House], [], fun _ => true⟩
theorem h_House_strike : S.chks b_House_strike c_House_strike (defBody (inClass (top 41) 15)) = true := by decide +kernel
theorem sc_House_strike : FnScope c_House_strike.N ["self", "number"] (defScope (inClass (top 41) 15)) := ⟨rfl, rfl, rfl, by decide +kernel, rfl, by decide +kernel, by decide +kernel⟩
def n_House_reprice : List Str := ["self", "doubt", "gap"]
def c_House_reprice : Ck := ⟨n_House_reprice, defScope (inClass (top 41) 21), [f_is_within, f_House_remember], [("PRICE_MOST", (.int 9))], [q_House], [], fun _ => true⟩
theorem h_House_reprice : S.chks b_House_reprice c_House_reprice (defBody (inClass (top 41) 21)) = true := by decide +kernel
theorem sc_House_reprice : FnScope c_House_reprice.N ["self", "doubt", "gap"] (defScope (inClass (top 41) 21)) := ⟨rfl, rfl, rfl, by decide +kernel, rfl, by decide +kernel, by decide +kernel⟩
def n_House_bring : List Str := ["self", "stood"]
def c_House_bring : Ck := ⟨n_House_bring, defScope (inClass (top 41) 2), [], [], [q_House], [], fun _ => true⟩
theorem h_House_bring : S.chks b_House_bring c_House_bring (defBody (inClass (top 41) 2)) = true := by decide +kernel
theorem sc_House_bring : FnScope c_House_bring.N ["self", "stood"] (defScope (inClass (top 41) 2)) := ⟨rfl, rfl, rfl, by decide +kernel, rfl, by decide +kernel, by decide +kernel⟩
def n_House_undo : List Str := ["self"]
def c_House_undo : Ck := ⟨n_House_undo, defScope (inClass (top 41) 22), [f_House_stand, f_House_bring], [], [q_House], [], fun _ => true⟩
theorem h_House_undo : S.chks b_House_undo c_House_undo (defBody (inClass (top 41) 22)) = true := by decide +kernel
theorem sc_House_undo : FnScope c_House_undo.N ["self"] (defScope (inClass (top 41) 22)) := ⟨rfl, rfl, rfl, by decide +kernel, rfl, by decide +kernel, by decide +kernel⟩
def n_House_redo : List Str := ["self"]
def c_House_redo : Ck := ⟨n_House_redo, defScope (inClass (top 41) 23), [f_House_stand, f_House_bring], [], [q_House], [], fun _ => true⟩
theorem h_House_redo : S.chks b_House_redo c_House_redo (defBody (inClass (top 41) 23)) = true := by decide +kernel
theorem sc_House_redo : FnScope c_House_redo.N ["self"] (defScope (inClass (top 41) 23)) := ⟨rfl, rfl, rfl, by decide +kernel, rfl, by decide +kernel, by decide +kernel⟩
def n_law : List Str := N_law
def c_law : Ck := ⟨n_law, defScope (top 47), [f_House___init, f_House_place, f_House_thing, f_law_numbers, f_law_take, f_House_hand, f_House_strike, f_House_reprice, f_House_undo, f_House_redo], [], [q_House], [], fun _ => true⟩
theorem h_law : S.chks b_law c_law ((defBody (top 47)).tail) = true := by decide +kernel
theorem sc_law : FnScope c_law.N ["_law_script"] (defScope (top 47)) := ⟨rfl, rfl, rfl, by decide +kernel, rfl, by decide +kernel, by decide +kernel⟩
theorem sc_box : FnScope boxN ["_law_script"] (defScope (top 43)) := ⟨rfl, rfl, rfl, by decide +kernel, rfl, by decide +kernel, by decide +kernel⟩
def dD (s : Stmt) (x : Str) : He.DefD := ⟨(x, none), x, x, defArgs s, defBody s, defScope s, [], []⟩
def dM (s : Stmt) (C x q : Str) : He.DefD := ⟨(C, some x), x, q, defArgs s, defBody s, defScope s, [], []⟩
def fn : List He.DefD := [dM (inClass (top 41) 0) "House" "__init__" "House.__init__", dD (top 37) "is_name", dM (inClass (top 41) 1) "House" "stand" "House.stand", dM (inClass (top 41) 3) "House" "remember" "House.remember", dM (inClass (top 41) 7) "House" "place" "House.place", dD (top 38) "is_within", dM (inClass (top 41) 8) "House" "look_new" "House.look_new", dM (inClass (top 41) 5) "House" "look_place" "House.look_place", dM (inClass (top 41) 9) "House" "thing" "House.thing", dM (inClass (top 41) 25) "House" "things" "House.things", dM (inClass (top 41) 28) "House" "prices" "House.prices", dM (inClass (top 41) 29) "House" "upcoming" "House.upcoming", dM (inClass (top 41) 6) "House" "look_thing" "House.look_thing", dM (inClass (top 41) 10) "House" "papers" "House.papers", dD (top 46) "_law_numbers", dD (top 45) "_law_mixed", dD (top 44) "_law_take", dM (inClass (top 41) 12) "House" "put_slip" "House.put_slip", dM (inClass (top 41) 13) "House" "hand" "House.hand", dM (inClass (top 41) 15) "House" "strike" "House.strike", dM (inClass (top 41) 21) "House" "reprice" "House.reprice", dM (inClass (top 41) 2) "House" "bring" "House.bring", dM (inClass (top 41) 22) "House" "undo" "House.undo", dM (inClass (top 41) 23) "House" "redo" "House.redo", dD (top 43) "_law_box", dD (top 47) "law"]
def fa : List He.Fa := [.glo "is_name", .glo "is_within", .glo "_law_numbers", .glo "_law_mixed", .glo "_law_take", .glo "_law_box", .glo "law", .int "PLACES_MOST" 12, .int "THINGS_MOST" 12, .int "PAPERS_MOST" 60, .int "DAMP_MOST" 100, .int "LIMIT_MOST" 1000000, .int "DAY_MOST" 1000000000, .int "GRADE_MOST" 9, .int "PRICE_MOST" 9, .str "LETTERS" "abcdefghijklmnopqrstuvwxyz", .glo "WORDS", .glo "House", .cls "House", .mkr "House", .noat "House" "halls", .noat "House" "held", .noat "House" "slips", .noat "House" "fences", .noat "House" "bills", .noat "House" "rates", .noat "House" "later", .noat "House" "past", .noat "House" "future", .meth "House" "__init__", .meth "House" "stand", .meth "House" "remember", .meth "House" "place", .meth "House" "look_new", .meth "House" "look_place", .meth "House" "thing", .meth "House" "things", .meth "House" "prices", .meth "House" "upcoming", .meth "House" "look_thing", .meth "House" "papers", .meth "House" "put_slip", .meth "House" "hand", .meth "House" "strike", .meth "House" "reprice", .meth "House" "bring", .meth "House" "undo", .meth "House" "redo"] ++ bNames.map He.Fa.free
def ex (K : PySem.W.Frag) : Bool := He.tupB K "WORDS" [.str "lit", .str "dark", .str "bench", .str "out"]
abbrev R : PySem.W.OpenRow := PySem.W.OpenLaw.row PySem.Challenge.rw_vitrine_k52_whole_long_history
abbrev hk : PySem.W.Hook := hookB 6 fa fn ex
def ob (s : PySem.W.SharedT) : He.AlD × Bool := obsBG 6 fa fn ex (HandSHeadRun.getT s)
theorem ob_eq (s : PySem.W.SharedT) : ob s = hk.obs s.abs := obsBG_eq (HandSHeadRun.getT_eq s)
theorem run (w : World) : HandSHeadRun.RunEq R (PySem.W.view R.prog [47]) hk ob 12000 ("_wall" :: "HouseError" :: "BadName" :: "Taken" :: "BadWord" :: "Full" :: "BadKind" :: "BadRange" :: "BadLimit" :: "BadDay" :: "NoPlace" :: "BadGrade" :: "NoThing" :: "TooSoon" :: "Clash" :: "NoPaper" :: "BadCount" :: "Twice" :: "NoShow" :: "BadPrice" :: "NoDeed" :: "LETTERS" :: "WORDS" :: "PLACES_MOST" :: "THINGS_MOST" :: "PAPERS_MOST" :: "BARS_MOST" :: "SHOWS_MOST" :: "DAYS_MOST" :: "SIZE_MOST" :: "DAMP_MOST" :: "LIMIT_MOST" :: "DAY_MOST" :: "GRADE_MOST" :: "PRICE_MOST" :: "is_name" :: "is_within" :: "look_days" :: "House" :: "_law_box" :: "_law_take" :: "_law_mixed" :: "_law_numbers" :: ([] : List PySem.Str)) w := by
  intro os
  kernel_rfl
def cx (K : PySem.W.Frag) : Gx := ⟨K, fun _ => He.ga K "House"⟩
theorem facts {P : Program} {w : World} {K : PySem.W.Frag} {h : Heap} {mg : Str → Option Value} {f : Addr} (X : K.In h) (G : h.Ns mainGlobals mg) (hfa : mg ("law" : Str) = some (.ref f)) (cb : SaysB fa fn ex K) :
    ∃ fd : FuncData, (∀ (s : Shared) (v : Value), BindsTo s fd ⟨[v], []⟩ [("_law_script", v)]) ∧ ∀ base : Heap, K.In base → base.Ns mainGlobals mg → FnOk P w K mg base CX0 15 f fd ["_law_script"] (spLaw K) := by
  have c := cb.d
  obtain ⟨fd_House___init, F_House___init⟩ := c.def_ 0 (d := dM (inClass (top 41) 0) "House" "__init__" "House.__init__") rfl
  obtain ⟨fd_is_name, F_is_name⟩ := c.def_ 1 (d := dD (top 37) "is_name") rfl
  obtain ⟨fd_House_stand, F_House_stand⟩ := c.def_ 2 (d := dM (inClass (top 41) 1) "House" "stand" "House.stand") rfl
  obtain ⟨fd_House_remember, F_House_remember⟩ := c.def_ 3 (d := dM (inClass (top 41) 3) "House" "remember" "House.remember") rfl
  obtain ⟨fd_House_place, F_House_place⟩ := c.def_ 4 (d := dM (inClass (top 41) 7) "House" "place" "House.place") rfl
  obtain ⟨fd_is_within, F_is_within⟩ := c.def_ 5 (d := dD (top 38) "is_within") rfl
  obtain ⟨fd_House_look_new, F_House_look_new⟩ := c.def_ 6 (d := dM (inClass (top 41) 8) "House" "look_new" "House.look_new") rfl
  obtain ⟨fd_House_look_place, F_House_look_place⟩ := c.def_ 7 (d := dM (inClass (top 41) 5) "House" "look_place" "House.look_place") rfl
  obtain ⟨fd_House_thing, F_House_thing⟩ := c.def_ 8 (d := dM (inClass (top 41) 9) "House" "thing" "House.thing") rfl
  obtain ⟨fd_House_things, F_House_things⟩ := c.def_ 9 (d := dM (inClass (top 41) 25) "House" "things" "House.things") rfl
  obtain ⟨fd_House_prices, F_House_prices⟩ := c.def_ 10 (d := dM (inClass (top 41) 28) "House" "prices" "House.prices") rfl
  obtain ⟨fd_House_upcoming, F_House_upcoming⟩ := c.def_ 11 (d := dM (inClass (top 41) 29) "House" "upcoming" "House.upcoming") rfl
  obtain ⟨fd_House_look_thing, F_House_look_thing⟩ := c.def_ 12 (d := dM (inClass (top 41) 6) "House" "look_thing" "House.look_thing") rfl
  obtain ⟨fd_House_papers, F_House_papers⟩ := c.def_ 13 (d := dM (inClass (top 41) 10) "House" "papers" "House.papers") rfl
  obtain ⟨fd_law_numbers, F_law_numbers⟩ := c.def_ 14 (d := dD (top 46) "_law_numbers") rfl
  obtain ⟨fd_law_mixed, F_law_mixed⟩ := c.def_ 15 (d := dD (top 45) "_law_mixed") rfl
  obtain ⟨fd_law_take, F_law_take⟩ := c.def_ 16 (d := dD (top 44) "_law_take") rfl
  obtain ⟨fd_House_put_slip, F_House_put_slip⟩ := c.def_ 17 (d := dM (inClass (top 41) 12) "House" "put_slip" "House.put_slip") rfl
  obtain ⟨fd_House_hand, F_House_hand⟩ := c.def_ 18 (d := dM (inClass (top 41) 13) "House" "hand" "House.hand") rfl
  obtain ⟨fd_House_strike, F_House_strike⟩ := c.def_ 19 (d := dM (inClass (top 41) 15) "House" "strike" "House.strike") rfl
  obtain ⟨fd_House_reprice, F_House_reprice⟩ := c.def_ 20 (d := dM (inClass (top 41) 21) "House" "reprice" "House.reprice") rfl
  obtain ⟨fd_House_bring, F_House_bring⟩ := c.def_ 21 (d := dM (inClass (top 41) 2) "House" "bring" "House.bring") rfl
  obtain ⟨fd_House_undo, F_House_undo⟩ := c.def_ 22 (d := dM (inClass (top 41) 22) "House" "undo" "House.undo") rfl
  obtain ⟨fd_House_redo, F_House_redo⟩ := c.def_ 23 (d := dM (inClass (top 41) 23) "House" "redo" "House.redo") rfl
  obtain ⟨fd_law_box, F_law_box⟩ := c.def_ 24 (d := dD (top 43) "_law_box") rfl
  obtain ⟨fd_law, F_law⟩ := c.def_ 25 (d := dD (top 47) "law") rfl
  have g_is_name := He.glo_ok X G (c.fact 0 (f := .glo "is_name") rfl)
  have g_is_within := He.glo_ok X G (c.fact 1 (f := .glo "is_within") rfl)
  have g_law_numbers := He.glo_ok X G (c.fact 2 (f := .glo "_law_numbers") rfl)
  have g_law_mixed := He.glo_ok X G (c.fact 3 (f := .glo "_law_mixed") rfl)
  have g_law_take := He.glo_ok X G (c.fact 4 (f := .glo "_law_take") rfl)
  have g_law_box := He.glo_ok X G (c.fact 5 (f := .glo "_law_box") rfl)
  have k_PLACES_MOST := He.int_ok X G (c.fact 7 (f := .int "PLACES_MOST" 12) rfl)
  have k_THINGS_MOST := He.int_ok X G (c.fact 8 (f := .int "THINGS_MOST" 12) rfl)
  have k_PAPERS_MOST := He.int_ok X G (c.fact 9 (f := .int "PAPERS_MOST" 60) rfl)
  have k_DAMP_MOST := He.int_ok X G (c.fact 10 (f := .int "DAMP_MOST" 100) rfl)
  have k_LIMIT_MOST := He.int_ok X G (c.fact 11 (f := .int "LIMIT_MOST" 1000000) rfl)
  have k_DAY_MOST := He.int_ok X G (c.fact 12 (f := .int "DAY_MOST" 1000000000) rfl)
  have k_GRADE_MOST := He.int_ok X G (c.fact 13 (f := .int "GRADE_MOST" 9) rfl)
  have k_PRICE_MOST := He.int_ok X G (c.fact 14 (f := .int "PRICE_MOST" 9) rfl)
  have k_LETTERS := He.str_ok X G (c.fact 15 (f := .str "LETTERS" "abcdefghijklmnopqrstuvwxyz") rfl)
  have u_WORDS := tupW (zs := ["lit", "dark", "bench", "out"]) (He.glo_ok X G (c.fact 16 (f := .glo "WORDS") rfl)) (fun H => He.tupB_ok cb.e H)
  have cl_House := He.cls_ok (c.fact 18 (f := .cls "House") rfl)
  have mk_House := He.mkr_ok (c.fact 19 (f := .mkr "House") rfl)
  have qo_House : ClOk (cx K) K mg q_House := ⟨cl_House, (memC (He.noat_ok (c.fact 20 (f := .noat "House" "halls") rfl)) (memC (He.noat_ok (c.fact 21 (f := .noat "House" "held") rfl)) (memC (He.noat_ok (c.fact 22 (f := .noat "House" "slips") rfl)) (memC (He.noat_ok (c.fact 23 (f := .noat "House" "fences") rfl)) (memC (He.noat_ok (c.fact 24 (f := .noat "House" "bills") rfl)) (memC (He.noat_ok (c.fact 25 (f := .noat "House" "rates") rfl)) (memC (He.noat_ok (c.fact 26 (f := .noat "House" "later") rfl)) (memC (He.noat_ok (c.fact 27 (f := .noat "House" "past") rfl)) (memC (He.noat_ok (c.fact 28 (f := .noat "House" "future") rfl)) mem0))))))))), fun _ => ⟨He.glo_ok X G (c.fact 17 (f := .glo "House") rfl), mk_House.makes, mk_House.kp⟩⟩
  have m_House___init := He.meth_ok (c.fact 29 (f := .meth "House" "__init__") rfl)
  have m_House_stand := He.meth_ok (c.fact 30 (f := .meth "House" "stand") rfl)
  have m_House_remember := He.meth_ok (c.fact 31 (f := .meth "House" "remember") rfl)
  have m_House_place := He.meth_ok (c.fact 32 (f := .meth "House" "place") rfl)
  have m_House_look_new := He.meth_ok (c.fact 33 (f := .meth "House" "look_new") rfl)
  have m_House_look_place := He.meth_ok (c.fact 34 (f := .meth "House" "look_place") rfl)
  have m_House_thing := He.meth_ok (c.fact 35 (f := .meth "House" "thing") rfl)
  have m_House_things := He.meth_ok (c.fact 36 (f := .meth "House" "things") rfl)
  have m_House_prices := He.meth_ok (c.fact 37 (f := .meth "House" "prices") rfl)
  have m_House_upcoming := He.meth_ok (c.fact 38 (f := .meth "House" "upcoming") rfl)
  have m_House_look_thing := He.meth_ok (c.fact 39 (f := .meth "House" "look_thing") rfl)
  have m_House_papers := He.meth_ok (c.fact 40 (f := .meth "House" "papers") rfl)
  have m_House_put_slip := He.meth_ok (c.fact 41 (f := .meth "House" "put_slip") rfl)
  have m_House_hand := He.meth_ok (c.fact 42 (f := .meth "House" "hand") rfl)
  have m_House_strike := He.meth_ok (c.fact 43 (f := .meth "House" "strike") rfl)
  have m_House_reprice := He.meth_ok (c.fact 44 (f := .meth "House" "reprice") rfl)
  have m_House_bring := He.meth_ok (c.fact 45 (f := .meth "House" "bring") rfl)
  have m_House_undo := He.meth_ok (c.fact 46 (f := .meth "House" "undo") rfl)
  have m_House_redo := He.meth_ok (c.fact 47 (f := .meth "House" "redo") rfl)
  have hfree : ∀ x ∈ bNames, mg x = none := by
    intro x hx
    have hm : He.Fa.free x ∈ fa := List.mem_append_right _ (List.mem_map.mpr ⟨x, hx, rfl⟩)
    obtain ⟨i, hi, e⟩ := List.mem_iff_getElem.mp hm
    exact He.free_ok X G (c.fact i (f := .free x) (by rw [List.getElem?_eq_getElem hi, e]))
  have e := hfa.symm.trans (He.glo_ok X G (c.fact 6 (f := .glo "law") rfl))
  cases e
  have b := FunD.bindsA (ps := ["_law_script"]) F_law fun _ _ _ _ _ _ us hl => match us, hl with | [_], _ => rfl
  refine ⟨fd_law, fun s v => b s [v] rfl, fun base _ _ => ?_⟩
  have bb : Binds K fd_law_box ["_law_script"] [] := F_law_box.bindsN fun _ _ _ _ _ _ us hl => match us, hl with | [_], _ => rfl
  have BX : FnOk P w K mg base (L2.CX P w) 1 _ fd_law_box ["_law_script"] (spBox K) := box_ok F_law_box sc_box rfl rfl rfl rfl (hfree _ (by decide))
  have T_House___init : ∀ n, FT (cx K) (Dn (n + 1)) P w K mg base (3 * (n + 1)) f_House___init := fun n => one_okG (c := cx K) (n := n + 0) (f := f_House___init) (k := c_House___init) (b := b_House___init) F_House___init sc_House___init rfl h_House___init rfl mem0 (memC qo_House mem0) mem0 hfree ⟨m_House___init, cl_House⟩ mem0 (roW (by decide +kernel)) (.inl rfl) (by decide) (ioW (by decide +kernel)) (fun ws _ _ => rfl) rfl (fun _ _ _ _ _ _ us hl => match us, hl with | [_], _ => rfl)
  have T_is_name : ∀ n, FT (cx K) (Dn (n + 1)) P w K mg base (3 * (n + 1)) f_is_name := fun n => one_okG (c := cx K) (n := n + 0) (f := f_is_name) (k := c_is_name) (b := b_is_name) F_is_name sc_is_name rfl h_is_name rfl (memC (conS k_LETTERS) mem0) (memC qo_House mem0) mem0 hfree g_is_name mem0 (roW (by decide +kernel)) (.inl rfl) (by decide) (ioW (by decide +kernel)) (fun ws _ _ => rfl) rfl (fun _ _ _ _ _ _ us hl => match us, hl with | [_], _ => rfl)
  have T_House_stand : ∀ n, FT (cx K) (Dn (n + 1)) P w K mg base (3 * (n + 1)) f_House_stand := fun n => one_okG (c := cx K) (n := n + 0) (f := f_House_stand) (k := c_House_stand) (b := b_House_stand) F_House_stand sc_House_stand rfl h_House_stand rfl mem0 (memC qo_House mem0) mem0 hfree ⟨m_House_stand, cl_House⟩ mem0 (roW (by decide +kernel)) (.inr fun ws cl p us h => noX_ne h) (by decide) (ioW (by decide +kernel)) (fun ws _ h => noX_den h) rfl (fun _ _ _ _ _ _ us hl => match us, hl with | [_], _ => rfl)
  have T_House_remember : ∀ n, FT (cx K) (Dn (n + 2)) P w K mg base (3 * (n + 2)) f_House_remember := fun n => one_okG (c := cx K) (n := n + 1) (f := f_House_remember) (k := c_House_remember) (b := b_House_remember) F_House_remember sc_House_remember rfl h_House_remember rfl mem0 (memC qo_House mem0) mem0 hfree ⟨m_House_remember, cl_House⟩ (memC (T_House_stand (n + 0)) mem0) (roW (by decide +kernel)) (.inl rfl) (by decide) (ioW (by decide +kernel)) (fun ws _ _ => rfl) rfl (fun _ _ _ _ _ _ us hl => match us, hl with | [_], _ => rfl)
  have T_House_place : ∀ n, FT (cx K) (Dn (n + 3)) P w K mg base (3 * (n + 3)) f_House_place := fun n => one_okG (c := cx K) (n := n + 2) (f := f_House_place) (k := c_House_place) (b := b_House_place) F_House_place sc_House_place rfl h_House_place rfl (memC (conI k_PLACES_MOST) mem0) (memC qo_House mem0) (memC u_WORDS mem0) hfree ⟨m_House_place, cl_House⟩ (memC (T_is_name (n + 1)) (memC (T_House_remember (n + 0)) mem0)) (roW (by decide +kernel)) (.inl rfl) (by decide) (ioW (by decide +kernel)) (fun ws _ _ => rfl) rfl (fun _ _ _ _ _ _ us hl => match us, hl with | [_, _, _], _ => rfl)
  have T_is_within : ∀ n, FT (cx K) (Dn (n + 1)) P w K mg base (3 * (n + 1)) f_is_within := fun n => one_okG (c := cx K) (n := n + 0) (f := f_is_within) (k := c_is_within) (b := b_is_within) F_is_within sc_is_within rfl h_is_within rfl mem0 (memC qo_House mem0) mem0 hfree g_is_within mem0 (roW (by decide +kernel)) (.inl rfl) (by decide) (ioW (by decide +kernel)) (fun ws _ _ => rfl) rfl (fun _ _ _ _ _ _ us hl => match us, hl with | [_, _, _], _ => rfl)
  have T_House_look_new : ∀ n, FT (cx K) (Dn (n + 2)) P w K mg base (3 * (n + 2)) f_House_look_new := fun n => one_okG (c := cx K) (n := n + 1) (f := f_House_look_new) (k := c_House_look_new) (b := b_House_look_new) F_House_look_new sc_House_look_new rfl h_House_look_new rfl (memC (conI k_DAMP_MOST) (memC (conI k_LIMIT_MOST) mem0)) (memC qo_House mem0) mem0 hfree ⟨m_House_look_new, cl_House⟩ (memC (T_is_name (n + 0)) (memC (T_is_within (n + 0)) mem0)) (roW (by decide +kernel)) (.inr fun ws cl p us h => noX_ne h) (by decide) (ioW (by decide +kernel)) (fun ws _ h => noX_den h) rfl (fun _ _ _ _ _ _ us hl => match us, hl with | [_, _, _, _, _, _], _ => rfl)
  have T_House_look_place : ∀ n, FT (cx K) (Dn (n + 1)) P w K mg base (3 * (n + 1)) f_House_look_place := fun n => one_okG (c := cx K) (n := n + 0) (f := f_House_look_place) (k := c_House_look_place) (b := b_House_look_place) F_House_look_place sc_House_look_place rfl h_House_look_place rfl mem0 (memC qo_House mem0) mem0 hfree ⟨m_House_look_place, cl_House⟩ mem0 (roW (by decide +kernel)) (.inr fun ws cl p us h => noX_ne h) (by decide) (ioW (by decide +kernel)) (fun ws _ h => noX_den h) rfl (fun _ _ _ _ _ _ us hl => match us, hl with | [_, _], _ => rfl)
  have T_House_thing : ∀ n, FT (cx K) (Dn (n + 3)) P w K mg base (3 * (n + 3)) f_House_thing := fun n => one_okG (c := cx K) (n := n + 2) (f := f_House_thing) (k := c_House_thing) (b := b_House_thing) F_House_thing sc_House_thing rfl h_House_thing rfl (memC (conI k_THINGS_MOST) (memC (conI k_DAY_MOST) (memC (conI k_GRADE_MOST) mem0))) (memC qo_House mem0) mem0 hfree ⟨m_House_thing, cl_House⟩ (memC (T_House_look_new (n + 0)) (memC (T_is_within (n + 1)) (memC (T_House_look_place (n + 1)) (memC (T_House_remember (n + 0)) mem0)))) (roW (by decide +kernel)) (.inl rfl) (by decide) (ioW (by decide +kernel)) (fun ws _ _ => rfl) rfl (fun _ _ _ _ _ _ us hl => match us, hl with | [_, _, _, _, _, _, _, _, _], _ => rfl)
  have T_House_things : ∀ n, FT (cx K) (Dn (n + 1)) P w K mg base (3 * (n + 1)) f_House_things := fun n => one_okG (c := cx K) (n := n + 0) (f := f_House_things) (k := c_House_things) (b := b_House_things) F_House_things sc_House_things rfl h_House_things rfl mem0 (memC qo_House mem0) mem0 hfree ⟨m_House_things, cl_House⟩ mem0 (roW (by decide +kernel)) (.inr fun ws cl p us h => noX_ne h) (by decide) (ioW (by decide +kernel)) (fun ws _ h => noX_den h) rfl (fun _ _ _ _ _ _ us hl => match us, hl with | [_], _ => rfl)
  have T_House_prices : ∀ n, FT (cx K) (Dn (n + 1)) P w K mg base (3 * (n + 1)) f_House_prices := fun n => one_okG (c := cx K) (n := n + 0) (f := f_House_prices) (k := c_House_prices) (b := b_House_prices) F_House_prices sc_House_prices rfl h_House_prices rfl mem0 (memC qo_House mem0) mem0 hfree ⟨m_House_prices, cl_House⟩ mem0 (roW (by decide +kernel)) (.inr fun ws cl p us h => noX_ne h) (by decide) (ioW (by decide +kernel)) (fun ws _ h => noX_den h) rfl (fun _ _ _ _ _ _ us hl => match us, hl with | [_], _ => rfl)
  have T_House_upcoming : ∀ n, FT (cx K) (Dn (n + 1)) P w K mg base (3 * (n + 1)) f_House_upcoming := fun n => one_okG (c := cx K) (n := n + 0) (f := f_House_upcoming) (k := c_House_upcoming) (b := b_House_upcoming) F_House_upcoming sc_House_upcoming rfl h_House_upcoming rfl mem0 (memC qo_House mem0) mem0 hfree ⟨m_House_upcoming, cl_House⟩ mem0 (roW (by decide +kernel)) (.inr fun ws cl p us h => noX_ne h) (by decide) (ioW (by decide +kernel)) (fun ws _ h => noX_den h) rfl (fun _ _ _ _ _ _ us hl => match us, hl with | [_], _ => rfl)
  have T_House_look_thing : ∀ n, FT (cx K) (Dn (n + 1)) P w K mg base (3 * (n + 1)) f_House_look_thing := fun n => one_okG (c := cx K) (n := n + 0) (f := f_House_look_thing) (k := c_House_look_thing) (b := b_House_look_thing) F_House_look_thing sc_House_look_thing rfl h_House_look_thing rfl mem0 (memC qo_House mem0) mem0 hfree ⟨m_House_look_thing, cl_House⟩ mem0 (roW (by decide +kernel)) (.inr fun ws cl p us h => noX_ne h) (by decide) (ioW (by decide +kernel)) (fun ws _ h => noX_den h) rfl (fun _ _ _ _ _ _ us hl => match us, hl with | [_, _], _ => rfl)
  have T_House_papers : ∀ n, FT (cx K) (Dn (n + 2)) P w K mg base (3 * (n + 2)) f_House_papers := fun n => one_okG (c := cx K) (n := n + 1) (f := f_House_papers) (k := c_House_papers) (b := b_House_papers) F_House_papers sc_House_papers rfl h_House_papers rfl mem0 (memC qo_House mem0) mem0 hfree ⟨m_House_papers, cl_House⟩ (memC (T_House_look_thing (n + 0)) mem0) (roW (by decide +kernel)) (.inr fun ws cl p us h => noX_ne h) (by decide) (ioW (by decide +kernel)) (fun ws _ h => noX_den h) rfl (fun _ _ _ _ _ _ us hl => match us, hl with | [_, _], _ => rfl)
  have T_law_numbers : ∀ n, FT (cx K) (Dn (n + 3)) P w K mg base (3 * (n + 3)) f_law_numbers := fun n => one_okG (c := cx K) (n := n + 2) (f := f_law_numbers) (k := c_law_numbers) (b := b_law_numbers) F_law_numbers sc_law_numbers rfl h_law_numbers rfl mem0 (memC qo_House mem0) mem0 hfree g_law_numbers (memC (T_House_things (n + 1)) (memC (T_House_prices (n + 1)) (memC (T_House_upcoming (n + 1)) (memC (T_House_papers (n + 0)) mem0)))) (roW (by decide +kernel)) (.inr fun ws cl p us h => noX_ne h) (by decide) (ioW (by decide +kernel)) (fun ws _ h => noX_den h) rfl (fun _ _ _ _ _ _ us hl => match us, hl with | [_], _ => rfl)
  have T_law_mixed : ∀ n, FT (cx K) (Dn (n + 1)) P w K mg base (3 * (n + 1)) f_law_mixed := fun n => one_okG (c := cx K) (n := n + 0) (f := f_law_mixed) (k := c_law_mixed) (b := b_law_mixed) F_law_mixed sc_law_mixed rfl h_law_mixed rfl mem0 (memC qo_House mem0) mem0 hfree g_law_mixed mem0 (roW (by decide +kernel)) (.inl rfl) (by decide) (ioW (by decide +kernel)) (fun ws _ _ => rfl) rfl (fun _ _ _ _ _ _ us hl => match us, hl with | [_, _], _ => rfl)
  have T_law_take : ∀ n, FT (cx K) (Dn (n + 2)) P w K mg base (3 * (n + 2)) f_law_take := fun n => one_okG (c := cx K) (n := n + 1) (f := f_law_take) (k := c_law_take) (b := b_law_take) F_law_take sc_law_take rfl h_law_take rfl mem0 (memC qo_House mem0) mem0 hfree g_law_take (memC (T_law_mixed (n + 0)) mem0) (roW (by decide +kernel)) (.inl rfl) (by decide) (ioW (by decide +kernel)) (fun ws _ _ => rfl) rfl (fun _ _ _ _ _ _ us hl => match us, hl with | [_, _], _ => rfl)
  have T_House_put_slip : ∀ n, FT (cx K) (Dn (n + 3)) P w K mg base (3 * (n + 3)) f_House_put_slip := fun n => one_okG (c := cx K) (n := n + 2) (f := f_House_put_slip) (k := c_House_put_slip) (b := b_House_put_slip) F_House_put_slip sc_House_put_slip rfl h_House_put_slip rfl mem0 (memC qo_House mem0) mem0 hfree ⟨m_House_put_slip, cl_House⟩ (memC (T_House_remember (n + 0)) mem0) (roW (by decide +kernel)) (.inl rfl) (by decide) (ioW (by decide +kernel)) (fun ws _ _ => rfl) rfl (fun _ _ _ _ _ _ us hl => match us, hl with | [_, _, _, _], _ => rfl)
  have T_House_hand : ∀ n, FT (cx K) (Dn (n + 4)) P w K mg base (3 * (n + 4)) f_House_hand := fun n => one_okG (c := cx K) (n := n + 3) (f := f_House_hand) (k := c_House_hand) (b := b_House_hand) F_House_hand sc_House_hand rfl h_House_hand rfl (memC (conI k_PAPERS_MOST) (memC (conI k_DAY_MOST) (memC (conI k_GRADE_MOST) mem0))) (memC qo_House mem0) mem0 hfree ⟨m_House_hand, cl_House⟩ (memC (T_House_look_thing (n + 2)) (memC (T_is_within (n + 2)) (memC (T_House_look_place (n + 2)) (memC (T_House_papers (n + 1)) (memC (T_House_put_slip (n + 0)) mem0))))) (roW (by decide +kernel)) (.inl rfl) (by decide) (ioW (by decide +kernel)) (fun ws _ _ => rfl) rfl (fun _ _ _ _ _ _ us hl => match us, hl with | [_, _, _, _, _, _], _ => rfl)
  have T_House_strike : ∀ n, FT (cx K) (Dn (n + 3)) P w K mg base (3 * (n + 3)) f_House_strike := fun n => one_okG (c := cx K) (n := n + 2) (f := f_House_strike) (k := c_House_strike) (b := b_House_strike) F_House_strike sc_House_strike rfl h_House_strike rfl mem0 (memC qo_House mem0) mem0 hfree ⟨m_House_strike, cl_House⟩ (memC (T_House_remember (n + 0)) mem0) (roW (by decide +kernel)) (.inl rfl) (by decide) (ioW (by decide +kernel)) (fun ws _ _ => rfl) rfl (fun _ _ _ _ _ _ us hl => match us, hl with | [_, _], _ => rfl)
  have T_House_reprice : ∀ n, FT (cx K) (Dn (n + 3)) P w K mg base (3 * (n + 3)) f_House_reprice := fun n => one_okG (c := cx K) (n := n + 2) (f := f_House_reprice) (k := c_House_reprice) (b := b_House_reprice) F_House_reprice sc_House_reprice rfl h_House_reprice rfl (memC (conI k_PRICE_MOST) mem0) (memC qo_House mem0) mem0 hfree ⟨m_House_reprice, cl_House⟩ (memC (T_is_within (n + 1)) (memC (T_House_remember (n + 0)) mem0)) (roW (by decide +kernel)) (.inl rfl) (by decide) (ioW (by decide +kernel)) (fun ws _ _ => rfl) rfl (fun _ _ _ _ _ _ us hl => match us, hl with | [_, _, _], _ => rfl)
  have T_House_bring : ∀ n, FT (cx K) (Dn (n + 1)) P w K mg base (3 * (n + 1)) f_House_bring := fun n => one_okG (c := cx K) (n := n + 0) (f := f_House_bring) (k := c_House_bring) (b := b_House_bring) F_House_bring sc_House_bring rfl h_House_bring rfl mem0 (memC qo_House mem0) mem0 hfree ⟨m_House_bring, cl_House⟩ mem0 (roW (by decide +kernel)) (.inl rfl) (by decide) (ioW (by decide +kernel)) (fun ws _ _ => rfl) rfl (fun _ _ _ _ _ _ us hl => match us, hl with | [_, _], _ => rfl)
  have T_House_undo : ∀ n, FT (cx K) (Dn (n + 2)) P w K mg base (3 * (n + 2)) f_House_undo := fun n => one_okG (c := cx K) (n := n + 1) (f := f_House_undo) (k := c_House_undo) (b := b_House_undo) F_House_undo sc_House_undo rfl h_House_undo rfl mem0 (memC qo_House mem0) mem0 hfree ⟨m_House_undo, cl_House⟩ (memC (T_House_stand (n + 0)) (memC (T_House_bring (n + 0)) mem0)) (roW (by decide +kernel)) (.inl rfl) (by decide) (ioW (by decide +kernel)) (fun ws _ _ => rfl) rfl (fun _ _ _ _ _ _ us hl => match us, hl with | [_], _ => rfl)
  have T_House_redo : ∀ n, FT (cx K) (Dn (n + 2)) P w K mg base (3 * (n + 2)) f_House_redo := fun n => one_okG (c := cx K) (n := n + 1) (f := f_House_redo) (k := c_House_redo) (b := b_House_redo) F_House_redo sc_House_redo rfl h_House_redo rfl mem0 (memC qo_House mem0) mem0 hfree ⟨m_House_redo, cl_House⟩ (memC (T_House_stand (n + 0)) (memC (T_House_bring (n + 0)) mem0)) (roW (by decide +kernel)) (.inl rfl) (by decide) (ioW (by decide +kernel)) (fun ws _ _ => rfl) rfl (fun _ _ _ _ _ _ us hl => match us, hl with | [_], _ => rfl)
  exact law0 <| law_ok (c := cx K) (Γ := Dn 4) (lv := 12) (k := c_law) (N := N_law) (b := b_law) F_law sc_law rfl hfree mem0 (memC (T_House___init (0 + 3)) (memC (T_House_place (0 + 1)) (memC (T_House_thing (0 + 1)) (memC (T_law_numbers (0 + 1)) (memC (T_law_take (0 + 2)) (memC (T_House_hand (0 + 0)) (memC (T_House_strike (0 + 1)) (memC (T_House_reprice (0 + 1)) (memC (T_House_undo (0 + 2)) (memC (T_House_redo (0 + 2)) mem0)))))))))) (memC qo_House mem0) mem0 rfl rfl h_law BX g_law_box F_law_box.kp bb (by omega) rfl rfl rfl (.inl rfl) rfl (law_den law_true)
end K52
end Vx
open PySem PySem.W PySem.Calls PyProof.Rows
theorem PySem.Challenge.cw_vitrine_k52_whole_long_history_holds : PySem.Challenge.rw_vitrine_k52_whole_long_history.Holds := by
  w_on; o_law
  refine HandSHeadRun.head_any (r := OpenLaw.row PySem.Challenge.rw_vitrine_k52_whole_long_history) (q := view (OpenLaw.row PySem.Challenge.rw_vitrine_k52_whole_long_history).prog [47]) (H := Vx.K52.hk) (ob := Vx.K52.ob) (M := 12000) (loose := ("_wall" :: "HouseError" :: "BadName" :: "Taken" :: "BadWord" :: "Full" :: "BadKind" :: "BadRange" :: "BadLimit" :: "BadDay" :: "NoPlace" :: "BadGrade" :: "NoThing" :: "TooSoon" :: "Clash" :: "NoPaper" :: "BadCount" :: "Twice" :: "NoShow" :: "BadPrice" :: "NoDeed" :: "LETTERS" :: "WORDS" :: "PLACES_MOST" :: "THINGS_MOST" :: "PAPERS_MOST" :: "BARS_MOST" :: "SHOWS_MOST" :: "DAYS_MOST" :: "SIZE_MOST" :: "DAMP_MOST" :: "LIMIT_MOST" :: "DAY_MOST" :: "GRADE_MOST" :: "PRICE_MOST" :: "is_name" :: "is_within" :: "look_days" :: "House" :: "_law_box" :: "_law_take" :: "_law_mixed" :: "_law_numbers" :: ([] : List PySem.Str))) (d := HandSHeadRun.topDef (OpenLaw.row PySem.Challenge.rw_vitrine_k52_whole_long_history).prog 47) (kwd := []) Vx.K52.ob_eq
    (by kernel_rfl) (fun s => by kernel_rfl) Vx.K52.run (by kernel_rfl) (by kernel_rfl) (by kernel_rfl) (by rfl) (by first | assumption | decide +kernel) (by decide +kernel) ⟨rfl, rfl, rfl, rfl, rfl, by decide +kernel⟩ ?hw ?hc
  case hw => w_witness2
  case hc =>
    refine L2.walk_ofE (l := PySem.Challenge.rw_vitrine_k52_whole_long_history) (n := 63) (k := 15) (x := "_law_script") (CX := L2.CX0) rfl (by decide) (by kernel_rfl) ⟨rfl, by decide, by decide⟩ ?F (fun _ _ _ _ z => z)
    case F =>
      intro w mg fa h Y G hmg0
      obtain ⟨K, KX, c⟩ := Y
      have hmg : mg ("law" : PySem.Str) = some (.ref fa) := by
        have e : (HandSHeadRun.topDef (OpenLaw.row PySem.Challenge.rw_vitrine_k52_whole_long_history).prog 47).name = ("law" : PySem.Str) := by kernel_rfl
        rw [← e]
        exact hmg0
      obtain ⟨fd, hb, hF⟩ := Vx.K52.facts (P := (PySem.Challenge.rw_vitrine_k52_whole_long_history).prog) (w := w) KX G hmg c
      exact ⟨K, fd, Vx.spLaw K, KX, hb, fun H a ns hl _ hS => ⟨a, ns, rfl, hl, hS, fun _ => rfl⟩, hF⟩
end
