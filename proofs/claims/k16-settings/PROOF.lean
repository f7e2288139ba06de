import PyProof.Rows.All
import Wide.All
import OpenK.AllK
import Wide.FinOn
import HandS.ForMost
import KE.SortData
import HandS.IsInst
import HandS.CallSlots
import HandS.Walk
import HandS.Iter
import HandS.Defaults
import HandS.WordsExc
import KE.KEqSeq
import KE.KStateDown
import HandS.Head0
import HandS.Head1
import HandS.Head2
import HandS.HeadEnd
import HandS.HeadHook1
import HandS.HeadHook2
import PySem.Challenge.RW_vitrine_k16_whole_fewest_settings
set_option Elab.async false
set_option linter.all false
set_option maxRecDepth 100000
section
set_option maxHeartbeats 4000000
/-! Vx 1: pure data, owned trees, and how they stand in the abstract heap. -/
namespace Vx
open PySem L2

/-- the kinds of containers -/
inductive Kd where
  | lst | tup | dK (ks : List Key) | dT (ks : List (List Key)) | ins (c : Nat) (fs : List Str)
  deriving DecidableEq

/-- pure data -/
inductive D where
  | non | bl (b : Bool) | int (i : Int) | str (x : Str) | nd (k : Kd) (cs : List D)

/-- what is fixed: the written part, the classes of the text -/
structure Gx where
  K : PySem.W.Frag
  cls : Nat → Addr

def Kd.ho (c : Gx) (dx : Addr) (vs : List V) : Kd → HO
  | .lst => .lst vs
  | .tup => .tup vs
  | .dK ks => .dK (ks.zip vs)
  | .dT ks => .dT (ks.zip vs)
  | .ins i fs => .ins (c.cls i) dx (fs.zip vs)
def Kd.xtr (a dx : Addr) : Kd → List (Addr × HO)
  | .ins _ _ => [(dx, .own a)]
  | _ => []
def Kd.fits (n : Nat) : Kd → Prop
  | .lst => True
  | .tup => True
  | .dK ks => ks.length = n
  | .dT ks => ks.length = n
  | .ins _ fs => fs.length = n
/-- a container that may be read at a -/
def Kd.rd (c : Gx) (B : Hp) (a : Addr) (vs : List V) : Kd → Prop
  | .lst => B a = some (.lst vs)
  | .tup => B a = some (.tup vs)
  | .dK ks => Rd B a (.dK (ks.zip vs))
  | .dT ks => Rd B a (.dT (ks.zip vs))
  | .ins i fs => ∃ dx, B a = some (.ins (c.cls i) dx (fs.zip vs))

mutual
def RepD (c : Gx) (B : Hp) : D → V → Prop
  | .non, v => v = .non
  | .bl b, v => v = .bl b
  | .int i, v => v = .int i
  | .str x, v => v = .str x
  | .nd k cs, v => ∃ a vs, v = .ref a ∧ k.fits cs.length ∧ k.rd c B a vs ∧ RepDs c B cs vs
def RepDs (c : Gx) (B : Hp) : List D → List V → Prop
  | [], vs => vs = []
  | d :: ds, vs => ∃ v vr, vs = v :: vr ∧ RepD c B d v ∧ RepDs c B ds vr
end

/-- the containers known in B are known in H -/
theorem ex_sq {K : PySem.W.Frag} {H H' : Hp} (e : Same H H') {a : Addr} {xs : List V} (h : SqL K H a xs) : SqL K H' a xs := e.seq h
theorem ex_rd {H H' : Hp} (e : Same H H') {a : Addr} {u : HO} (h : Rd H a u) : Rd H' a u := by
  rcases h with h | ⟨o, h⟩
  · exact Or.inl (e a _ h)
  · exact Or.inr ⟨o, e a _ h⟩
theorem ex_sqT {K : PySem.W.Frag} {H H' : Hp} (e : Same H H') {a : Addr} {xs : List V} (h : SqT K H a xs) : SqT K H' a xs := by
  rcases h with h | h
  · exact Or.inl (ex_rd e h)
  · exact Or.inr h
theorem Kd.rd_mono {c : Gx} {B B' : Hp} (e : Same B B') {a : Addr} {vs : List V} : ∀ {k : Kd}, k.rd c B a vs → k.rd c B' a vs
  | .lst, h => e _ _ h
  | .tup, h => e _ _ h
  | .dK _, h => ex_rd e h
  | .dT _, h => ex_rd e h
  | .ins _ _, ⟨dx, h⟩ => ⟨dx, e _ _ h⟩
theorem Kd.rd_of {c : Gx} {B : Hp} {a dx : Addr} {vs : List V} : ∀ {k : Kd}, B a = some (k.ho c dx vs) → k.rd c B a vs
  | .lst, h => h
  | .tup, h => h
  | .dK _, h => Or.inl h
  | .dT _, h => Or.inl h
  | .ins _ _, h => ⟨dx, h⟩

mutual
theorem RepD.mono {c : Gx} {B B' : Hp} (e : Same B B') : ∀ {d : D} {v : V}, RepD c B d v → RepD c B' d v
  | .non, _, h => h
  | .bl _, _, h => h
  | .int _, _, h => h
  | .str _, _, h => h
  | .nd k cs, _, ⟨a, vs, h1, h2, h3, h4⟩ => ⟨a, vs, h1, h2, Kd.rd_mono e h3, RepDs.mono e h4⟩
theorem RepDs.mono {c : Gx} {B B' : Hp} (e : Same B B') : ∀ {ds : List D} {vs : List V}, RepDs c B ds vs → RepDs c B' ds vs
  | [], _, h => h
  | _ :: _, _, ⟨v, vr, h1, h2, h3⟩ => ⟨v, vr, h1, RepD.mono e h2, RepDs.mono e h3⟩
end
theorem RepDs.len {c : Gx} {B : Hp} : ∀ {ds : List D} {vs : List V}, RepDs c B ds vs → ds.length = vs.length
  | [], _, h => by
    have h' : _ = _ := h
    rw [h']
    rfl
  | _ :: _, _, ⟨v, vr, h1, h2, h3⟩ => by
    rw [h1]
    simp [RepDs.len h3]
theorem RepDs.get {c : Gx} {B : Hp} : ∀ {ds : List D} {vs : List V} {i : Nat} {d : D}, RepDs c B ds vs → ds[i]? = some d → ∃ v, vs[i]? = some v ∧ RepD c B d v
  | [], _, _, _, _, e => by simp at e
  | _ :: _, _, 0, _, ⟨v, vr, h1, h2, h3⟩, e => by
    have e' := Option.some.inj e
    subst e'
    exact ⟨v, by rw [h1]; rfl, h2⟩
  | _ :: ds, _, i + 1, d, ⟨v, vr, h1, h2, h3⟩, e => by
    obtain ⟨u, q1, q2⟩ := RepDs.get (i := i) (d := d) h3 (by simpa using e)
    exact ⟨u, by rw [h1]; simpa using q1, q2⟩
theorem RepDs.append {c : Gx} {B : Hp} : ∀ {ds es : List D} {vs us : List V}, RepDs c B ds vs → RepDs c B es us → RepDs c B (ds ++ es) (vs ++ us)
  | [], _, _, _, h, g => by
    have h' : _ = _ := h
    subst h'
    exact g
  | _ :: _, _, _, _, ⟨v, vr, h1, h2, h3⟩, g => by
    subst h1
    exact ⟨v, _, rfl, h2, RepDs.append h3 g⟩
theorem RepDs.of_get {c : Gx} {B : Hp} : ∀ {ds : List D} {vs : List V}, ds.length = vs.length → (∀ (i : Nat) (d : D) (v : V), ds[i]? = some d → vs[i]? = some v → RepD c B d v) → RepDs c B ds vs
  | [], [], _, _ => rfl
  | d :: ds, v :: vs, l, h => ⟨v, vs, rfl, h 0 d v rfl rfl, RepDs.of_get (by simpa using l) fun i d v h1 h2 => h (i + 1) d v (by simpa using h1) (by simpa using h2)⟩

/-- owned trees, without addresses -/
inductive W where
  | fl (d : D) | nd (k : Kd) (cs : List W)
mutual
def W.dat : W → D
  | .fl d => d
  | .nd k cs => .nd k (W.dats cs)
def W.dats : List W → List D
  | [] => []
  | w :: ws => w.dat :: W.dats ws
end
theorem W.dats_map : ∀ ws : List W, W.dats ws = ws.map W.dat
  | [] => rfl
  | w :: ws => by
    show w.dat :: W.dats ws = w.dat :: ws.map W.dat
    rw [W.dats_map ws]
@[simp] theorem W.dat_fl (d : D) : (W.fl d).dat = d := rfl
@[simp] theorem W.dat_nd (k : Kd) (cs : List W) : (W.nd k cs).dat = .nd k (cs.map W.dat) := by
  show D.nd k (W.dats cs) = _
  rw [W.dats_map]

/-- owned trees, with addresses -/
inductive A where
  | fl (v : V) (d : D) | nd (a dx : Addr) (k : Kd) (cs : List A)
def A.val : A → V
  | .fl v _ => v
  | .nd a _ _ _ => .ref a
mutual
def A.er : A → W
  | .fl _ d => .fl d
  | .nd _ _ k cs => .nd k (A.ers cs)
def A.ers : List A → List W
  | [] => []
  | x :: xs => x.er :: A.ers xs
end
theorem A.ers_map : ∀ xs : List A, A.ers xs = xs.map A.er
  | [] => rfl
  | x :: xs => by
    show x.er :: A.ers xs = x.er :: xs.map A.er
    rw [A.ers_map xs]
@[simp] theorem A.er_fl (v : V) (d : D) : (A.fl v d).er = .fl d := rfl
@[simp] theorem A.er_nd (a dx : Addr) (k : Kd) (cs : List A) : (A.nd a dx k cs).er = .nd k (cs.map A.er) := by
  show W.nd k (A.ers cs) = _
  rw [A.ers_map]
abbrev vals (xs : List A) : List V := xs.map A.val
mutual
def A.objs (c : Gx) : A → List (Addr × HO)
  | .fl _ _ => []
  | .nd a dx k cs => (a, k.ho c dx (vals cs)) :: (k.xtr a dx ++ objsL c cs)
def objsL (c : Gx) : List A → List (Addr × HO)
  | [] => []
  | x :: xs => x.objs c ++ objsL c xs
end
theorem objsL_append (c : Gx) : ∀ xs ys : List A, objsL c (xs ++ ys) = objsL c xs ++ objsL c ys
  | [], _ => rfl
  | x :: xs, ys => by
    show x.objs c ++ objsL c (xs ++ ys) = (x.objs c ++ objsL c xs) ++ objsL c ys
    rw [objsL_append c xs ys, List.append_assoc]
mutual
/-- the leaves stand in B, the nodes have as many children as names -/
def A.ok (c : Gx) (B : Hp) : A → Prop
  | .fl v d => RepD c B d v
  | .nd _ _ k cs => k.fits cs.length ∧ okL c B cs
def okL (c : Gx) (B : Hp) : List A → Prop
  | [] => True
  | x :: xs => x.ok c B ∧ okL c B xs
end
theorem okL_iff {c : Gx} {B : Hp} : ∀ {xs : List A}, okL c B xs ↔ ∀ x ∈ xs, x.ok c B
  | [] => by simp [okL]
  | x :: xs => by
    show x.ok c B ∧ okL c B xs ↔ _
    rw [okL_iff (xs := xs)]
    simp
mutual
theorem A.ok.mono {c : Gx} {B B' : Hp} (e : Same B B') : ∀ {x : A}, x.ok c B → x.ok c B'
  | .fl _ _, h => RepD.mono e h
  | .nd _ _ _ _, ⟨h1, h2⟩ => ⟨h1, okL.mono e h2⟩
theorem okL.mono {c : Gx} {B B' : Hp} (e : Same B B') : ∀ {xs : List A}, okL c B xs → okL c B' xs
  | [], _ => trivial
  | _ :: _, ⟨h1, h2⟩ => ⟨A.ok.mono e h1, okL.mono e h2⟩
end
abbrev ads (l : List (Addr × HO)) : List Addr := l.map Prod.fst
theorem ads_append (l m : List (Addr × HO)) : ads (l ++ m) = ads l ++ ads m := List.map_append

/-- THE STATE: relative to an entry (H0, B0 what was known, A0 the addresses that may be written). B: what is known for good; H: all; L: the trees that live -/
structure Gd (c : Gx) (H0 B0 : Hp) (A0 : List Addr) (B H : Hp) (L : List A) : Prop where
  b0 : Same B0 B
  sub : Same B H
  hold : ∀ p ∈ objsL c L, H p.1 = some p.2 ∧ B p.1 = none
  nd : (ads (objsL c L)).Nodup
  lf : ∀ x ∈ L, x.ok c B
  fr : ∀ b o, H0 b = some o → b ∉ A0 → H b = some o
  nw : ∀ b, (B b ≠ none ∨ b ∈ ads (objsL c L)) → B0 b ≠ none ∨ H0 b = none ∨ b ∈ A0

section
variable {c : Gx} {H0 B0 B H : Hp} {A0 : List Addr} {L L' : List A}
theorem objsL_perm {L L' : List A} (p : L.Perm L') : (objsL c L).Perm (objsL c L') := by
  induction p with
  | nil => exact List.Perm.refl _
  | cons x _ ih => exact List.Perm.append_left _ ih
  | swap x y l =>
    show (y.objs c ++ (x.objs c ++ objsL c l)).Perm (x.objs c ++ (y.objs c ++ objsL c l))
    rw [← List.append_assoc, ← List.append_assoc]
    exact List.Perm.append_right _ List.perm_append_comm
  | trans _ _ h1 h2 => exact h1.trans h2
theorem Gd.perm (G : Gd c H0 B0 A0 B H L) (p : L.Perm L') : Gd c H0 B0 A0 B H L' where
  b0 := G.b0
  sub := G.sub
  hold := fun q hq => G.hold q ((objsL_perm p).mem_iff.mpr hq)
  nd := ((objsL_perm (c := c) p).map Prod.fst).nodup_iff.mp G.nd
  lf := fun x hx => G.lf x (p.mem_iff.mpr hx)
  fr := G.fr
  nw := fun b hb => G.nw b (hb.imp id fun z => (((objsL_perm (c := c) p).map Prod.fst).mem_iff).mpr z)
/-- some trees are let go -/
theorem Gd.drop {M : List A} (G : Gd c H0 B0 A0 B H (M ++ L)) : Gd c H0 B0 A0 B H L where
  b0 := G.b0
  sub := G.sub
  hold := fun q hq => G.hold q (by rw [objsL_append]; exact List.mem_append_right _ hq)
  nd := by
    have h := G.nd
    rw [objsL_append, ads_append] at h
    exact (List.nodup_append.mp h).2.1
  lf := fun x hx => G.lf x (List.mem_append_right _ hx)
  fr := G.fr
  nw := fun b hb => G.nw b (hb.imp id fun z => by
    rw [objsL_append, ads_append]
    exact List.mem_append_right _ z)
theorem Gd.drop1 {x : A} (G : Gd c H0 B0 A0 B H (x :: L)) : Gd c H0 B0 A0 B H L := Gd.drop (M := [x]) G
/-- data that stand in B may be added -/
theorem Gd.add {v : V} {d : D} (G : Gd c H0 B0 A0 B H L) (r : RepD c B d v) : Gd c H0 B0 A0 B H (.fl v d :: L) where
  b0 := G.b0
  sub := G.sub
  hold := fun q hq => G.hold q hq
  nd := G.nd
  lf := fun x hx => by
    rcases List.mem_cons.mp hx with rfl | hx
    · exact r
    · exact G.lf x hx
  fr := G.fr
  nw := fun b hb => G.nw b hb

mutual
/-- a tree's data, as they are to be seen in any heap that holds it -/
theorem A.view {H' : Hp} : ∀ {x : A}, x.ok c B → Same B H' → (∀ p ∈ x.objs c, H' p.1 = some p.2) → RepD c H' x.er.dat x.val
  | .fl v d, h, s, _ => RepD.mono s h
  | .nd a dx k cs, ⟨h1, h2⟩, s, hh => by
    have q1 : H' a = some (k.ho c dx (vals cs)) := hh (a, _) List.mem_cons_self
    have q2 := viewL (xs := cs) h2 s fun p hp => hh p (List.mem_cons_of_mem _ (List.mem_append_right _ hp))
    refine ⟨a, vals cs, rfl, ?_, Kd.rd_of q1, q2⟩
    rw [W.dats_map, A.ers_map, List.length_map, List.length_map]
    exact h1
theorem viewL {H' : Hp} : ∀ {xs : List A}, okL c B xs → Same B H' → (∀ p ∈ objsL c xs, H' p.1 = some p.2) → RepDs c H' (W.dats (A.ers xs)) (vals xs)
  | [], _, _, _ => rfl
  | x :: xs, ⟨h1, h2⟩, s, hh => ⟨x.val, vals xs, rfl, A.view h1 s fun p hp => hh p (List.mem_append_left _ hp), viewL h2 s fun p hp => hh p (List.mem_append_right _ hp)⟩
end
theorem Gd.view {x : A} (G : Gd c H0 B0 A0 B H L) (hx : x ∈ L) : RepD c H x.er.dat x.val := by
  refine A.view (G.lf x hx) G.sub fun p hp => (G.hold p ?_).1
  induction L with
  | nil => cases hx
  | cons y L ih =>
    rcases List.mem_cons.mp hx with rfl | hx
    · exact List.mem_append_left _ hp
    · exact List.mem_append_right _ (ih (Gd.drop1 G) hx)

/-- a tree is frozen: it is known for good from now on -/
theorem Gd.freeze {x : A} (G : Gd c H0 B0 A0 B H (x :: L)) : ∃ B', Same B B' ∧ Gd c H0 B0 A0 B' H (.fl x.val x.er.dat :: L) := by
  have hB' : ∀ b, (if b ∈ ads (x.objs c) then H b else B b) = (if b ∈ ads (x.objs c) then H b else B b) := fun _ => rfl
  have ndx := G.nd
  have ho : objsL c (x :: L) = x.objs c ++ objsL c L := rfl
  rw [ho, ads_append] at ndx
  have disj := (List.nodup_append.mp ndx).2.2
  have s1 : Same B fun b => if b ∈ ads (x.objs c) then H b else B b := fun b o e => by
    show (if b ∈ ads (x.objs c) then H b else B b) = some o
    by_cases hb : b ∈ ads (x.objs c)
    · rw [if_pos hb]
      exact G.sub b o e
    · rw [if_neg hb]
      exact e
  refine ⟨fun b => if b ∈ ads (x.objs c) then H b else B b, s1, ?_⟩
  refine ⟨fun b o e => s1 b o (G.b0 b o e), fun b o e => ?_, fun p hp => ?_, (List.nodup_append.mp ndx).2.1, fun y hy => ?_, G.fr, fun b hb => ?_⟩
  · have e' : (if b ∈ ads (x.objs c) then H b else B b) = some o := e
    by_cases hb : b ∈ ads (x.objs c)
    · rw [if_pos hb] at e'
      exact e'
    · rw [if_neg hb] at e'
      exact G.sub b o e'
  · obtain ⟨q1, q2⟩ := G.hold p (List.mem_append_right _ (show p ∈ objsL c L from hp))
    refine ⟨q1, ?_⟩
    show (if p.1 ∈ ads (x.objs c) then H p.1 else B p.1) = none
    rw [if_neg (fun z => disj _ z _ (List.mem_map_of_mem (f := Prod.fst) (show p ∈ objsL c L from hp)) rfl)]
    exact q2
  · rcases List.mem_cons.mp hy with rfl | hy
    · refine A.view (B := B) (G.lf x List.mem_cons_self) s1 fun p hp => ?_
      show (if p.1 ∈ ads (x.objs c) then H p.1 else B p.1) = some p.2
      rw [if_pos (List.mem_map_of_mem (f := Prod.fst) hp)]
      exact (G.hold p (List.mem_append_left _ hp)).1
    · exact A.ok.mono s1 (G.lf y (List.mem_cons_of_mem _ hy))
  · refine G.nw b ?_
    rcases hb with hb | hb
    · have hb' : (if b ∈ ads (x.objs c) then H b else B b) ≠ none := hb
      by_cases hm : b ∈ ads (x.objs c)
      · exact Or.inr (by rw [ho, ads_append]; exact List.mem_append_left _ hm)
      · rw [if_neg hm] at hb'
        exact Or.inl hb'
    · exact Or.inr (by rw [ho, ads_append]; exact List.mem_append_right _ hb)

theorem not_mem_of_none {p : Addr} (G : Gd c H0 B0 A0 B H L) (h : H p = none) : p ∉ ads (objsL c L) := fun hm => by
  obtain ⟨q, hq, e⟩ := List.mem_map.mp hm
  have := (G.hold q hq).1
  rw [e, h] at this
  cases this
theorem Gd.b_none {p : Addr} (G : Gd c H0 B0 A0 B H L) (h : H p = none) : B p = none := G.sub.free h
theorem Gd.new_ok {p : Addr} (G : Gd c H0 B0 A0 B H L) (h : H p = none) : H0 p = none ∨ p ∈ A0 := by
  by_cases hA : p ∈ A0
  · exact Or.inr hA
  · refine Or.inl ?_
    cases e : H0 p with
    | none => rfl
    | some o =>
      have := G.fr p o e hA
      rw [h] at this
      cases this
/-- a new container (no instance) is laid over trees that live -/
theorem Gd.alloc {p : Addr} {k : Kd} {cs : List A} (G : Gd c H0 B0 A0 B H (cs ++ L)) (h : H p = none) (hk : k.xtr p 0 = []) (hf : k.fits cs.length) :
    Gd c H0 B0 A0 B (upd H p (k.ho c 0 (vals cs))) (.nd p 0 k cs :: L) := by
  have hb := G.b_none h
  have hm := not_mem_of_none G h
  have e : objsL c (.nd p 0 k cs :: L) = (p, k.ho c 0 (vals cs)) :: objsL c (cs ++ L) := by
    show ((p, k.ho c 0 (vals cs)) :: (k.xtr p 0 ++ objsL c cs)) ++ objsL c L = _
    rw [hk, objsL_append]
    rfl
  refine ⟨G.b0, fun b o q => ?_, fun q hq => ?_, ?_, fun x hx => ?_, fun b o q hA => ?_, fun b hb' => ?_⟩
  · rw [upd_ne (ne_of_none q hb)]
    exact G.sub b o q
  · rw [e] at hq
    rcases List.mem_cons.mp hq with rfl | hq
    · exact ⟨upd_same, hb⟩
    · obtain ⟨q1, q2⟩ := G.hold q hq
      exact ⟨by rw [upd_ne (ne_of_none q1 h)]; exact q1, q2⟩
  · rw [e]
    exact List.nodup_cons.mpr ⟨hm, G.nd⟩
  · rcases List.mem_cons.mp hx with rfl | hx
    · exact ⟨hf, okL_iff.mpr fun y hy => G.lf y (List.mem_append_left _ hy)⟩
    · exact G.lf x (List.mem_append_right _ hx)
  · rw [upd_ne (ne_of_none (G.fr b o q hA) h)]
    exact G.fr b o q hA
  · rw [e] at hb'
    rcases hb' with q | q
    · exact G.nw b (Or.inl q)
    · rcases List.mem_cons.mp q with rfl | q
      · exact Or.inr (G.new_ok h)
      · exact G.nw b (Or.inr q)
/-- an owned container is written: L holds it, L' what stands behind -/
theorem Gd.write {a : Addr} {o o' : HO} {R X : List (Addr × HO)} (G : Gd c H0 B0 A0 B H L) (p1 : (objsL c L).Perm ((a, o) :: R ++ X)) (p2 : (objsL c L').Perm ((a, o') :: R)) (lf : ∀ x ∈ L', x.ok c B) :
    Gd c H0 B0 A0 B (upd H a o') L' := by
  have ha : (a, o) ∈ objsL c L := p1.mem_iff.mpr (by simp)
  obtain ⟨ha1, ha2⟩ := G.hold _ ha
  have nd1 : (ads ((a, o) :: R ++ X)).Nodup := (p1.map Prod.fst).nodup_iff.mp G.nd
  have nd2 : (a :: ads R).Nodup := by
    have e : ads ((a, o) :: R ++ X) = (a :: ads R) ++ ads X := by
      show (((a, o) :: R) ++ X).map Prod.fst = _
      rw [List.map_append]
      rfl
    rw [e] at nd1
    exact (List.nodup_append.mp nd1).1
  have inR : ∀ q ∈ R, q ∈ objsL c L := fun q hq => p1.mem_iff.mpr (by simp [hq])
  have neR : ∀ q ∈ R, q.1 ≠ a := fun q hq z => (List.nodup_cons.mp nd2).1 (z ▸ List.mem_map_of_mem (f := Prod.fst) hq)
  refine ⟨G.b0, fun b u q => ?_, fun q hq => ?_, ?_, lf, fun b u q hA => ?_, fun b hb => ?_⟩
  · rw [upd_ne (ne_of_none q ha2)]
    exact G.sub b u q
  · rcases List.mem_cons.mp (p2.mem_iff.mp hq) with rfl | hq
    · exact ⟨upd_same, ha2⟩
    · obtain ⟨q1, q2⟩ := G.hold q (inR q hq)
      exact ⟨by rw [upd_ne (neR q hq)]; exact q1, q2⟩
  · exact ((p2.map Prod.fst).nodup_iff).mpr nd2
  · have hb : b ≠ a := by
      rintro rfl
      rcases G.nw b (Or.inr (List.mem_map_of_mem (f := Prod.fst) ha)) with z | z | z
      · cases e : B0 b with
        | none => exact z e
        | some w =>
          have := G.b0 b w e
          rw [ha2] at this
          cases this
      · rw [z] at q
        cases q
      · exact hA z
    rw [upd_ne hb]
    exact G.fr b u q hA
  · refine G.nw b (hb.imp id fun z => ?_)
    have z2 : b ∈ ads ((a, o') :: R) := ((p2.map Prod.fst).mem_iff).mp z
    have z3 : b ∈ ads ((a, o) :: R ++ X) := by
      have e : ads ((a, o) :: R ++ X) = (a :: ads R) ++ ads X := by
        show (((a, o) :: R) ++ X).map Prod.fst = _
        rw [List.map_append]
        rfl
      rw [e]
      exact List.mem_append_left _ z2
    exact ((p1.map Prod.fst).mem_iff).mpr z3
end
end Vx
end

section
set_option maxHeartbeats 4000000
/-! Vx 2: slots, places, replacing within a tree. -/
namespace Vx
open PySem L2

abbrev Env := List (Option W)
inductive Res (α : Type) where
  | ok (a : α) | ex (cl : Nat) (pay : D) (r : Env) | bad
namespace Res
def bind {α β : Type} (x : Res α) (f : α → Res β) : Res β := match x with
  | .ok a => f a
  | .ex c p r => .ex c p r
  | .bad => .bad
@[simp] theorem bind_ok {α β : Type} (a : α) (f : α → Res β) : bind (.ok a) f = f a := rfl
@[simp] theorem bind_ex {α β : Type} (c : Nat) (p : D) (r : Env) (f : α → Res β) : bind (.ex c p r) f = .ex c p r := rfl
@[simp] theorem bind_bad {α β : Type} (f : α → Res β) : bind .bad f = .bad := rfl
end Res
/-- an option as a result -/
def Res.of {α : Type} : Option α → Res α
  | some a => .ok a
  | none => .bad
@[simp] theorem Res.of_some {α : Type} (a : α) : Res.of (some a) = .ok a := rfl
@[simp] theorem Res.of_none {α : Type} : Res.of (none : Option α) = .bad := rfl

abbrev Sl := List (Option A)
def ers (as : Sl) : Env := as.map (Option.map A.er)
def live : Sl → List A
  | [] => []
  | none :: as => live as
  | some x :: as => x :: live as
theorem live_set : ∀ {as : Sl} {i : Nat} {x : A}, i < as.length → (live (as.set i (some x))).Perm (x :: live (as.set i none))
  | none :: as, 0, x, _ => List.Perm.refl _
  | some y :: as, 0, x, _ => List.Perm.refl _
  | none :: as, i + 1, x, h => live_set (as := as) (i := i) (by simpa using h)
  | some y :: as, i + 1, x, h => ((live_set (as := as) (i := i) (x := x) (by simpa using h)).cons y).trans (List.Perm.swap x y _)
theorem live_get : ∀ {as : Sl} {i : Nat} {x : A}, as[i]? = some (some x) → (live as).Perm (x :: live (as.set i none))
  | none :: as, 0, x, h => by simp at h
  | some y :: as, 0, x, h => by
    have e : y = x := by simpa using h
    subst e
    exact List.Perm.refl _
  | none :: as, i + 1, x, h => live_get (as := as) (i := i) (by simpa using h)
  | some y :: as, i + 1, x, h => ((live_get (as := as) (i := i) (x := x) (by simpa using h)).cons y).trans (List.Perm.swap x y _)
theorem live_none : ∀ {as : Sl} {i : Nat}, as[i]? = some none → as.set i none = as
  | none :: as, 0, h => rfl
  | some y :: as, 0, h => by simp at h
  | y :: as, i + 1, h => by
    show y :: as.set i none = y :: as
    rw [live_none (as := as) (i := i) (by simpa using h)]
/-- what is let go with a slot -/
theorem live_drop : ∀ {as : Sl} {i : Nat}, ∃ M : List A, (live as).Perm (M ++ live (as.set i none))
  | [], i => ⟨[], List.Perm.refl _⟩
  | none :: as, 0 => ⟨[], List.Perm.refl _⟩
  | some y :: as, 0 => ⟨[y], List.Perm.refl _⟩
  | none :: as, i + 1 => live_drop (as := as) (i := i)
  | some y :: as, i + 1 => by
    obtain ⟨M, h⟩ := live_drop (as := as) (i := i)
    exact ⟨M, (h.cons y).trans (List.perm_middle.symm)⟩
theorem ers_len (as : Sl) : (ers as).length = as.length := by simp [ers]
theorem ers_get {as : Sl} {i : Nat} : (ers as)[i]? = (as[i]?).map (Option.map A.er) := by simp [ers]
theorem ers_set (as : Sl) (i : Nat) (x : Option A) : ers (as.set i x) = (ers as).set i (x.map A.er) := by simp [ers, List.map_set]

def SR (σ : St) (as : Sl) : Prop := as.length = σ.length ∧ ∀ (i : Nat) (x : A), as[i]? = some (some x) → σ[i]? = some (some x.val)

/-- the entry of a def -/
structure En where
  H0 : Hp
  B0 : Hp
  A0 : List Addr
abbrev G (c : Gx) (n : En) (B H : Hp) (L : List A) : Prop := Gd c n.H0 n.B0 n.A0 B H L
/-- from a state to a later one of the same slots' values: M the slots that may have been touched -/
structure Nx (c : Gx) (n : En) (σ : St) (M : List Nat) (as : Sl) (B : Hp) (as' : Sl) (T' : List A) (B' H' : Hp) : Prop where
  sb : Same B B'
  gd : G c n B' H' (live as' ++ T')
  sr : SR σ as'
  fr : ∀ i, i ∉ M → as'[i]? = as[i]?

theorem Nx.refl {c : Gx} {n : En} {σ : St} {as : Sl} {B H : Hp} {T : List A} (g : G c n B H (live as ++ T)) (s : SR σ as) : Nx c n σ [] as B as T B H := ⟨Same.refl _, g, s, fun _ _ => rfl⟩
theorem Nx.trans {c : Gx} {n : En} {σ : St} {as as1 as2 : Sl} {B B1 H1 B2 H2 : Hp} {T1 T2 : List A} {M N : List Nat} (a : Nx c n σ M as B as1 T1 B1 H1) (b : Nx c n σ N as1 B1 as2 T2 B2 H2) : Nx c n σ (M ++ N) as B as2 T2 B2 H2 :=
  ⟨a.sb.trans b.sb, b.gd, b.sr, fun i hi => (b.fr i fun z => hi (List.mem_append_right _ z)).trans (a.fr i fun z => hi (List.mem_append_left _ z))⟩
theorem Nx.mono {c : Gx} {n : En} {σ : St} {as as1 : Sl} {B B1 H1 : Hp} {T1 : List A} {M N : List Nat} (a : Nx c n σ M as B as1 T1 B1 H1) (h : ∀ i ∈ M, i ∈ N) : Nx c n σ N as B as1 T1 B1 H1 :=
  ⟨a.sb, a.gd, a.sr, fun i hi => a.fr i fun z => hi (h i z)⟩

/-! ### within a tree -/
/-- the subtree at a path, through owned nodes alone -/
def A.sub : A → List Nat → Option A
  | x, [] => some x
  | .fl _ _, _ :: _ => none
  | .nd _ _ _ cs, j :: p => (cs[j]?).bind fun y => y.sub p
def A.put : A → List Nat → A → A
  | _, [], y => y
  | .fl v d, _ :: _, _ => .fl v d
  | .nd a dx k cs, j :: p, y => match cs[j]? with
    | some z => .nd a dx k (cs.set j (z.put p y))
    | none => .nd a dx k cs
def W.sub : W → List Nat → Option W
  | x, [] => some x
  | .fl _, _ :: _ => none
  | .nd _ cs, j :: p => (cs[j]?).bind fun y => y.sub p
def W.put : W → List Nat → W → W
  | _, [], y => y
  | .fl d, _ :: _, _ => .fl d
  | .nd k cs, j :: p, y => match cs[j]? with
    | some z => .nd k (cs.set j (z.put p y))
    | none => .nd k cs

theorem objsL_set {c : Gx} : ∀ {cs : List A} {j : Nat} {z : A}, cs[j]? = some z → ∃ R, (objsL c cs).Perm (z.objs c ++ R) ∧ ∀ z' : A, (objsL c (cs.set j z')).Perm (z'.objs c ++ R)
  | x :: cs, 0, z, h => by
    have e : x = z := by simpa using h
    subst e
    exact ⟨objsL c cs, List.Perm.refl _, fun z' => List.Perm.refl _⟩
  | x :: cs, j + 1, z, h => by
    obtain ⟨R, h1, h2⟩ := objsL_set (c := c) (cs := cs) (j := j) (z := z) (by simpa using h)
    have sw : ∀ l1 l2 l3 : List (Addr × HO), (l1 ++ (l2 ++ l3)).Perm (l2 ++ (l1 ++ l3)) := fun l1 l2 l3 => by
      rw [← List.append_assoc, ← List.append_assoc]
      exact List.Perm.append_right _ List.perm_append_comm
    exact ⟨x.objs c ++ R, (List.Perm.append_left _ h1).trans (sw _ _ _), fun z' => (List.Perm.append_left _ (h2 z')).trans (sw _ _ _)⟩
theorem okL_set {c : Gx} {B : Hp} {cs : List A} {j : Nat} {z : A} (h : okL c B cs) (hz : z.ok c B) : okL c B (cs.set j z) := okL_iff.mpr fun x hx => by
  rcases List.mem_or_eq_of_mem_set hx with q | q
  · exact okL_iff.mp h x q
  · rw [q]
    exact hz
theorem okL_get {c : Gx} {B : Hp} {cs : List A} {j : Nat} {z : A} (h : okL c B cs) (e : cs[j]? = some z) : z.ok c B := okL_iff.mp h z (List.mem_of_getElem? e)
theorem vals_set {cs : List A} {j : Nat} {z z' : A} (e : cs[j]? = some z) (hv : z'.val = z.val) : vals (cs.set j z') = vals cs := by
  show (cs.set j z').map A.val = cs.map A.val
  rw [List.map_set, hv]
  refine List.ext_getElem? fun i => ?_
  rw [List.getElem?_set]
  by_cases hij : j = i
  · subst hij
    have hl : j < cs.length := (List.getElem?_eq_some_iff.mp e).1
    rw [if_pos rfl, if_pos (by simpa using hl), List.getElem?_map, e]
    rfl
  · rw [if_neg hij]
theorem A.er_sub : ∀ {x : A} {p : List Nat} {y : A}, x.sub p = some y → x.er.sub p = some y.er
  | x, [], y, h => by
    have e : x = y := by simpa [A.sub] using h
    subst e
    cases x <;> rfl
  | .fl _ _, _ :: _, _, h => by simp [A.sub] at h
  | .nd a dx k cs, j :: p, y, h => by
    cases e : cs[j]? with
    | none => simp [A.sub, e] at h
    | some z =>
      have h' : z.sub p = some y := by simpa [A.sub, e] using h
      have := A.er_sub (x := z) h'
      simp [A.er_nd, W.sub, e, this]
theorem A.sub_er : ∀ {x : A} {p : List Nat} {w : W}, x.er.sub p = some w → ∃ y, x.sub p = some y ∧ y.er = w
  | x, [], w, h => ⟨x, rfl, by
    have : x.er.sub [] = some x.er := by cases x <;> rfl
    rw [this] at h
    exact Option.some.inj h⟩
  | .fl _ _, _ :: _, _, h => by simp [W.sub] at h
  | .nd a dx k cs, j :: p, w, h => by
    cases e : cs[j]? with
    | none => simp [A.er_nd, W.sub, e] at h
    | some z =>
      have h' : z.er.sub p = some w := by simpa [A.er_nd, W.sub, e] using h
      obtain ⟨y, q1, q2⟩ := A.sub_er (x := z) h'
      exact ⟨y, by simp [A.sub, e, q1], q2⟩
theorem A.er_put : ∀ {x : A} {p : List Nat} {y : A}, (x.put p y).er = x.er.put p y.er
  | .fl _ _, [], _ => rfl
  | .nd _ _ _ _, [], y => by
    rw [A.er_nd]
    rfl
  | .fl _ _, _ :: _, _ => rfl
  | .nd a dx k cs, j :: p, y => by
    cases e : cs[j]? with
    | none => simp [A.put, W.put, e]
    | some z => simp [A.put, W.put, e, List.map_set, A.er_put (x := z)]
/-- a subtree of the same address is put in -/
theorem A.put_at {c : Gx} : ∀ {x : A} {p : List Nat} {y : A}, x.sub p = some y →
    ∃ R, (x.objs c).Perm (y.objs c ++ R) ∧ ∀ y' : A, y'.val = y.val → (x.put p y').val = x.val ∧ ((x.put p y').objs c).Perm (y'.objs c ++ R)
  | x, [], y, h => by
    have e : x = y := by simpa [A.sub] using h
    subst e
    exact ⟨[], by simp, fun y' hv => ⟨by cases x <;> exact hv, by cases x <;> simp [A.put]⟩⟩
  | .fl _ _, _ :: _, _, h => by simp [A.sub] at h
  | .nd a dx k cs, j :: p, y, h => by
    cases e : cs[j]? with
    | none => simp [A.sub, e] at h
    | some z =>
      have h' : z.sub p = some y := by simpa [A.sub, e] using h
      obtain ⟨R, h1, h2⟩ := A.put_at (c := c) (x := z) h'
      obtain ⟨S, g1, g2⟩ := objsL_set (c := c) e
      have sw : ∀ (u : Addr × HO) (l1 l2 l3 l4 : List (Addr × HO)), (u :: (l1 ++ (l2 ++ l3 ++ l4))).Perm (l2 ++ (u :: (l1 ++ (l3 ++ l4)))) := fun u l1 l2 l3 l4 => by
        refine List.Perm.trans ?_ List.perm_middle.symm
        refine List.Perm.cons _ ?_
        rw [List.append_assoc, ← List.append_assoc, ← List.append_assoc l2 l1]
        exact List.Perm.append_right _ List.perm_append_comm
      refine ⟨(a, k.ho c dx (vals cs)) :: (k.xtr a dx ++ (R ++ S)), ?_, fun y' hv => ?_⟩
      · show ((a, k.ho c dx (vals cs)) :: (k.xtr a dx ++ objsL c cs)).Perm _
        exact (List.Perm.cons _ (List.Perm.append_left _ (g1.trans (List.Perm.append_right _ h1)))).trans (sw _ _ _ _ _)
      · obtain ⟨q1, q2⟩ := h2 y' hv
        have ee : A.put (.nd a dx k cs) (j :: p) y' = .nd a dx k (cs.set j (z.put p y')) := by simp [A.put, e]
        rw [ee]
        refine ⟨rfl, ?_⟩
        show ((a, k.ho c dx (vals (cs.set j (z.put p y')))) :: (k.xtr a dx ++ objsL c (cs.set j (z.put p y')))).Perm _
        rw [vals_set e q1]
        exact (List.Perm.cons _ (List.Perm.append_left _ ((g2 _).trans (List.Perm.append_right _ q2)))).trans (sw _ _ _ _ _)
theorem A.put_ok {c : Gx} {B : Hp} : ∀ {x : A} {p : List Nat} {y : A}, x.ok c B → y.ok c B → (x.put p y).ok c B
  | .fl _ _, [], _, _, hy => hy
  | .nd _ _ _ _, [], _, _, hy => hy
  | .fl _ _, _ :: _, _, hx, _ => hx
  | .nd a dx k cs, j :: p, y, ⟨h1, h2⟩, hy => by
    cases e : cs[j]? with
    | none =>
      have ee : A.put (.nd a dx k cs) (j :: p) y = .nd a dx k cs := by simp [A.put, e]
      rw [ee]
      exact ⟨h1, h2⟩
    | some z =>
      have ee : A.put (.nd a dx k cs) (j :: p) y = .nd a dx k (cs.set j (z.put p y)) := by simp [A.put, e]
      rw [ee]
      exact ⟨by rw [List.length_set]; exact h1, okL_set h2 (A.put_ok (okL_get h2 e) hy)⟩
theorem A.sub_ok {c : Gx} {B : Hp} : ∀ {x : A} {p : List Nat} {y : A}, x.ok c B → x.sub p = some y → y.ok c B
  | x, [], y, hx, h => by
    have e : x = y := by simpa [A.sub] using h
    subst e
    exact hx
  | .fl _ _, _ :: _, _, _, h => by simp [A.sub] at h
  | .nd a dx k cs, j :: p, y, ⟨_, h2⟩, h => by
    cases e : cs[j]? with
    | none => simp [A.sub, e] at h
    | some z => exact A.sub_ok (x := z) (okL_get h2 e) (by simpa [A.sub, e] using h)
end Vx
end

section
set_option maxHeartbeats 4000000
/-! Vx 3: the language and what it computes. -/
namespace Vx
open PySem L2

/-! ### data as the model's data -/
mutual
def D.py : D → Option PyData
  | .non => some .none
  | .bl b => some (.bool b)
  | .int i => some (.int i)
  | .str x => some (.str x)
  | .nd .lst cs => (D.pys cs).map .list
  | .nd .tup cs => (D.pys cs).map .tuple
  | .nd _ _ => none
def D.pys : List D → Option (List PyData)
  | [] => some []
  | d :: ds => match d.py, D.pys ds with
    | some p, some q => some (p :: q)
    | _, _ => none
end
def W.isFl : W → Bool
  | .fl _ => true
  | .nd _ _ => false
def W.unfl : W → D
  | .fl d => d
  | w => w.dat
def W.fzT : W → W
  | .nd .tup cs => .fl (.nd .tup (cs.map W.unfl))
  | w => w
/-- a container whose items are known for good -/
def W.shal : W → Option (Kd × List D)
  | .fl (.nd k ds) => some (k, ds)
  | .fl _ => none
  | .nd k cs => if cs.all W.isFl then some (k, cs.map W.unfl) else none
def W.lstD (w : W) : Option (List D) := match w.shal with
  | some (.lst, ds) => some ds
  | _ => none
def W.tupD (w : W) : Option (List D) := match w.shal with
  | some (.tup, ds) => some ds
  | _ => none
def W.seqD (w : W) : Option (List D) := match w.shal with
  | some (.lst, ds) => some ds
  | some (.tup, ds) => some ds
  | _ => none
/-- how many items: lists, tuples, dicts, texts -/
def W.lenD : W → Option Int
  | .fl (.str x) => if x.length ≤ 100000 then some x.length else none
  | .fl (.nd k ds) => match k with
    | .ins _ _ => none
    | .dT _ => none
    | _ => some ds.length
  | .fl _ => none
  | .nd k cs => match k with
    | .ins _ _ => none
    | .dT _ => none
    | _ => some cs.length
def D.flat : D → Bool
  | .nd _ _ => false
  | _ => true
def D.v : D → V
  | .bl b => .bl b
  | .int i => .int i
  | .str x => .str x
  | _ => .non
/-- a dict's key -/
def D.key : D → Option Key
  | .int i => some (.inl i)
  | .str x => some (.inr x)
  | _ => none
def D.keyT : D → Option (List Key)
  | .nd .tup ds => ds.mapM D.key
  | _ => none
def keyD : Key → D
  | .inl i => .int i
  | .inr x => .str x
def lookZ {α β : Type} [DecidableEq α] : List α → List β → α → Option β
  | k :: ks, v :: vs, x => if k = x then some v else lookZ ks vs x
  | _, _, _ => none
/-- where a key stands -/
def atZ {α : Type} [DecidableEq α] : List α → α → Option Nat
  | [], _ => none
  | k :: ks, x => if k = x then some 0 else (atZ ks x).map (· + 1)
abbrev pI (i : Int) : Option W := some (.fl (.int i))
abbrev pB (b : Bool) : Option W := some (.fl (.bl b))
def newL (ds : List D) : W := .nd .lst (ds.map .fl)
def newT (ds : List D) : W := .nd .tup (ds.map .fl)
def small (n : Nat) : Bool := decide (n ≤ 100000)
def dInts : List D → Option (List Int)
  | [] => some []
  | .int i :: ds => (dInts ds).map (i :: ·)
  | _ :: _ => none
def dStrs : List D → Option (List Str)
  | [] => some []
  | .str i :: ds => (dStrs ds).map (i :: ·)
  | _ :: _ => none
def dBls : List D → Option (List Bool)
  | [] => some []
  | .bl i :: ds => (dBls ds).map (i :: ·)
  | _ :: _ => none
def leastI : List Int → Option Int
  | [] => none
  | x :: xs => some (xs.foldl min x)
def mostI : List Int → Option Int
  | [] => none
  | x :: xs => some (xs.foldl max x)
def py0 (d : D) : PyData := d.py.getD .none
/-- may the data be sorted together -/
def canSort (ds : List D) : Bool :=
  ds.all (fun d => d.py.isSome && decide ((py0 d).depth ≤ 60)) && (ds.all fun d => ds.all fun e => PySem.W.alike (py0 d) (py0 e)) &&
  ((ds.all fun d => match d with
    | .nd .tup (_ :: _) => true
    | _ => false) || ds.all fun d => match d with
    | .non => false
    | .nd .tup _ => false
    | _ => true)
def leD (a b : D) : Bool := PySem.W.dataLe false py0 a b
def cutD (ds : List D) (lo hi : Option Int) : List D := (ds.drop (HT.sIx ds.length 0 lo)).take (HT.sIx ds.length ds.length hi - HT.sIx ds.length 0 lo)
def isOf (t : String) : D → Option Bool
  | .non => some false
  | .bl _ => some (t == "bool" || t == "int")
  | .int _ => some (t == "int")
  | .str _ => some (t == "str")
  | .nd .lst _ => some (t == "list")
  | .nd .tup _ => some (t == "tuple")
  | .nd (.dK _) _ => some (t == "dict")
  | _ => none

inductive Rop where
  | add | sub | mul | fdiv | mod | pow | neg
  | lt | le | gt | ge | eqF | neF | eqD | neD | isN | notN | ltD
  | inQ | niQ | inS | niS | inK | niK
  | addS | catL | catT
  | len | intB | min2 | max2 | sum | min1 | max1 | allB | anyB | listOf | tupOf | sorted
  | slice (lo hi : Bool) | ixS | join (z : Str) | isI (t : String)

def small64 (i : Int) : Bool := decide (-(2 ^ 64) < i ∧ i < 2 ^ 64)
def eqD? (a b : D) : Option Bool := match a.py, b.py with
  | some p, some q => if SeqAt.shaped p && SeqAt.shaped q then some (PyData.eqv p q) else none
  | _, _ => none
def inQ? (x : D) (w : W) : Option Bool := match w.seqD with
  | some ds => if flatV x.v && x.flat && ds.all (fun d => d.flat && flatV d.v) then some (inV x.v (ds.map D.v)) else none
  | none => none
def inK? (x : D) : W → Option Bool
  | .fl (.nd (.dK ks) _) => x.key.map fun k => (atZ ks k).isSome
  | .fl (.nd (.dT ks) _) => x.keyT.map fun k => (atZ ks k).isSome
  | .nd (.dK ks) _ => x.key.map fun k => (atZ ks k).isSome
  | .nd (.dT ks) _ => x.keyT.map fun k => (atZ ks k).isSome
  | _ => none
def slice? (w : W) (lo hi : Option Int) : Option W := match w.shal with
  | some (.lst, ds) => some (newL (cutD ds lo hi))
  | some (.tup, ds) => if ((HT.sIx ds.length 0 lo : Nat) = 0 ∧ HT.sIx ds.length ds.length hi = ds.length) then none else some (newT (cutD ds lo hi))
  | _ => none

/-! shapes of operators -/
def on2I (f : Int → Int → Option W) : List W → Option W
  | [.fl (.int i), .fl (.int j)] => f i j
  | _ => none
def on1 (f : W → Option W) : List W → Option W
  | [x] => f x
  | _ => none
def on2 (f : W → W → Option W) : List W → Option W
  | [x, y] => f x y
  | _ => none
def on3 (f : W → W → W → Option W) : List W → Option W
  | [x, y, z] => f x y z
  | _ => none
def W.int? : W → Option Int
  | .fl (.int i) => some i
  | _ => none
def W.str? : W → Option Str
  | .fl (.str i) => some i
  | _ => none
def W.bl? : W → Option Bool
  | .fl (.bl i) => some i
  | _ => none
def W.flat? : W → Option D
  | .fl (.nd _ _) => none
  | .fl d => some d
  | _ => none
def W.isNon : W → Bool
  | .fl .non => true
  | _ => false
def eqF? (n : Bool) (x y : W) : Option W := match x.flat?, y.flat? with
  | some a, some b => if scal a.v b.v then pB (n != decide (a.v = b.v)) else none
  | _, _ => none
/-- what an operator gives of its operands -/
def Rop.run : Rop → List W → Option W
  | .add => on2I fun i j => pI (i + j)
  | .sub => on2I fun i j => pI (i - j)
  | .mul => on2I fun i j => if small64 i || small64 j then pI (i * j) else none
  | .fdiv => on2I fun i j => if 0 < j ∧ j < 1073741824 then pI (i / j) else none
  | .mod => on2I fun i j => if 0 < j then pI (i % j) else none
  | .pow => on2I fun i j => if 0 ≤ j ∧ j ≤ 1000000 ∧ i.natAbs < 2 ^ 64 then pI (i ^ j.toNat) else none
  | .neg => on1 fun x => x.int?.bind fun i => pI (-i)
  | .lt => on2I fun i j => pB (decide (i < j))
  | .le => on2I fun i j => pB (decide (i ≤ j))
  | .gt => on2I fun i j => pB (decide (j < i))
  | .ge => on2I fun i j => pB (decide (j ≤ i))
  | .eqF => on2 (eqF? false)
  | .neF => on2 (eqF? true)
  | .eqD => on2 fun x y => (eqD? x.dat y.dat).bind fun b => pB b
  | .neD => on2 fun x y => (eqD? x.dat y.dat).bind fun b => pB (!b)
  | .isN => on2 fun x y => if y.isNon then pB x.isNon else none
  | .notN => on2 fun x y => if y.isNon then pB (!x.isNon) else none
  | .ltD => fun _ => none
  | .inQ => on2 fun x w => x.flat?.bind fun d => (inQ? d w).bind fun b => pB b
  | .niQ => on2 fun x w => x.flat?.bind fun d => (inQ? d w).bind fun b => pB (!b)
  | .inS => on2 fun x y => x.str?.bind fun a => y.str?.bind fun b => pB (!(Builtin.Str.occurrences b a 0 b.length 1).isEmpty)
  | .niS => on2 fun x y => x.str?.bind fun a => y.str?.bind fun b => pB (!(!(Builtin.Str.occurrences b a 0 b.length 1).isEmpty))
  | .inK => on2 fun x w => (inK? x.dat w).bind fun b => pB b
  | .niK => on2 fun x w => (inK? x.dat w).bind fun b => pB (!b)
  | .addS => on2 fun x y => x.str?.bind fun a => y.str?.bind fun b => if small (a.length + b.length) then some (.fl (.str (a ++ b))) else none
  | .catL => on2 fun x y => x.lstD.bind fun a => y.lstD.bind fun b => if small (a.length + b.length) then some (newL (a ++ b)) else none
  | .catT => on2 fun x y => x.tupD.bind fun a => y.tupD.bind fun b => if small (a.length + b.length) && !a.isEmpty && !b.isEmpty then some (newT (a ++ b)) else none
  | .len => on1 fun x => x.lenD.bind fun n => pI n
  | .intB => on1 fun x => match x.bl? with
    | some b => pI (if b then 1 else 0)
    | none => x.int?.bind fun i => pI i
  | .min2 => on2I fun i j => pI (if j < i then j else i)
  | .max2 => on2I fun i j => pI (if j > i then j else i)
  | .sum => on1 fun x => (x.lstD.bind dInts).bind fun ns => pI ns.sum
  | .min1 => on1 fun x => ((x.lstD.bind dInts).bind leastI).bind fun n => pI n
  | .max1 => on1 fun x => ((x.lstD.bind dInts).bind mostI).bind fun n => pI n
  | .allB => on1 fun x => (x.lstD.bind dBls).bind fun bs => pB (bs.all id)
  | .anyB => on1 fun x => (x.lstD.bind dBls).bind fun bs => pB (bs.any id)
  | .listOf => on1 fun x => x.seqD.bind fun ds => some (newL ds)
  | .tupOf => on1 fun x => x.lstD.bind fun ds => some (newT ds)
  | .sorted => on1 fun x => x.lstD.bind fun ds => if canSort ds then some (newL (ds.mergeSort leD)) else none
  | .slice false false => on1 fun x => slice? x none none
  | .slice true false => on2 fun x y => y.int?.bind fun i => slice? x (some i) none
  | .slice false true => on2 fun x y => y.int?.bind fun i => slice? x none (some i)
  | .slice true true => on3 fun x y z => y.int?.bind fun i => z.int?.bind fun j => slice? x (some i) (some j)
  | .ixS => on2 fun x y => x.str?.bind fun z => y.int?.bind fun i => if z.length ≤ 100000 then (atI z.cps.toList i).bind fun c => some (.fl (.str ⟨#[c]⟩)) else none
  | .join z => on1 fun y => (y.lstD.bind dStrs).bind fun ys => if (ys.map (·.length)).sum + ys.length * z.length ≤ 16777216 then some (.fl (.str (Txt.join z ys))) else none
  | .isI t => on1 fun x => (isOf t x.dat).bind fun b => pB b

/-! ### the language -/
inductive Tg where
  | nm (i : Nat) | tp (ts : List Tg)
mutual
inductive E where
  | rd (p : Pl) | gt (p : Pl) | mv (i : Nat) | con (d : D) | gl (x : Str) (d : D)
  | op (r : Rop) (xs : List O)
  | ixT (a b : E)
  | lst (es : List E) | tup (es : List E) | dnK | dnT | fz (e : E)
  | call (f : Nat) (xs : List Ar) | call0 (f : Nat)
  | ite (c a b : E) | and (a b : E) | or (a b : E) | not (a : E)
  | chn (r s : Rop) (a b c : E)
  | tru (x : O)
  | lc (own : List (Str × Nat)) (g : Tg) (it : It) (ifs : Option E) (e : E)
inductive O where
  | tm (e : E) | bo (p : Pl)
inductive Ar where
  | va (e : E) | io (i : Nat)
inductive Pl where
  | sl (i : Nat) | ix (p : Pl) (e : E) | ky (p : Pl) (e : E) | fd (p : Pl) (f : Str)
inductive It where
  | sq (o : O) | tq (o : O) | r1 (e : E) | r2 (a b : E) | zp (a b : O) | en (a : O) | st (o : O)
end
inductive S where
  | asg (i : Nat) (e : E)
  | asgC (i : Nat) (e : E)
  | unp (g : Tg) (e : E)
  | aug (i : Nat) (r : Rop) (e : E)
  | seti (p : Pl) (ix e : E) | setk (p : Pl) (k e : E)
  | app (p : Pl) (e : E) | ins (p : Pl) (i e : E) | ext (p : Pl) (o : O) | pop0 (p : Pl) | popi (p : Pl) (i : E)
  | ex (e : E)
  | iff (c : E) (a b : List S)
  | forr (g : Tg) (it : It) (b : List S)
  | whl (c : E) (b : List S)
  | ret (e : E) | retN
  | pass | brk | cnt
  | rais (cl : Nat) (msg : Str)
  | hold (is ms : List Nat) (b : List S)

/-- what defs do: by their numbers: values handed in, value and in-outs handed back -/
inductive Rf where
  | ok (w : W) (ws : List W) | ex (cl : Nat) (pay : D) (ws : List W) | bad
abbrev Den := Nat → List W → Rf

/-! ### in an environment -/
def W.setAt (r : Env) (i : Nat) (p : List Nat) (w : W) : Env := match r[i]? with
  | some (some x) => r.set i (some (x.put p w))
  | _ => r
mutual
def D.get : D → List Nat → Option D
  | d, [] => some d
  | .nd _ ds, j :: p => (ds[j]?).bind fun d => d.get p
  | _, _ :: _ => none
end
def W.get : W → List Nat → Option W
  | w, [] => some w
  | .fl d, j :: p => (d.get (j :: p)).map .fl
  | .nd _ cs, j :: p => (cs[j]?).bind fun y => y.get p
def eget (r : Env) (q : Nat × List Nat) : Option W := match r[q.1]? with
  | some (some x) => x.get q.2
  | _ => none
/-- where an index, a key, a field leads -/
def W.kids : W → Option (Kd × Nat)
  | .fl (.nd k ds) => some (k, ds.length)
  | .fl _ => none
  | .nd k cs => some (k, cs.length)
def stepIx (w : W) (i : W) : Option Nat := match w.kids, i with
  | some (.lst, n), .fl (.int i) => ixN n i
  | some (.tup, n), .fl (.int i) => ixN n i
  | _, _ => none
def stepKy (w : W) (i : W) : Option Nat := match w.kids, i with
  | some (.dK ks, _), x => (x.dat.key).bind fun k => atZ ks k
  | some (.dT ks, _), x => (x.dat.keyT).bind fun k => atZ ks k
  | _, _ => none
def stepFd (w : W) (f : Str) : Option Nat := match w.kids with
  | some (.ins _ fs, _) => atZ fs f
  | _ => none
/-- a place is read: shared from then on -/
def readAt (r : Env) (q : Nat × List Nat) : Option (W × Env) := match eget r q with
  | some (.fl d) => some (.fl d, r)
  | some (.nd k cs) => some (.fl (W.nd k cs).dat, W.setAt r q.1 q.2 (.fl (W.nd k cs).dat))
  | none => none
/-- the parts of a tuple -/
def W.parts : W → Option (List W)
  | .fl (.nd .tup ds) => some (ds.map .fl)
  | .nd .tup ws => some ws
  | _ => none
mutual
/-- bind a target -/
def Tg.bind : Tg → W → Env → Option Env
  | .nm i, w, r => if i < r.length then some (r.set i (some w)) else none
  | .tp ts, w, r => match w.parts with
    | some ws => Tg.binds ts ws r
    | none => none
def Tg.binds : List Tg → List W → Env → Option Env
  | [], [], r => some r
  | t :: ts, d :: ds, r => (t.bind d r).bind fun r1 => Tg.binds ts ds r1
  | _, _, _ => none
end
def W.truth : W → Option Bool
  | .fl (.bl b) => some b
  | .fl (.int i) => some (i != 0)
  | .fl (.nd .lst ds) => some (!ds.isEmpty)
  | .nd .lst cs => some (!cs.isEmpty)
  | _ => none
/-- a list of temporaries and places, in a state -/
inductive Rv where
  | t (w : W) | p (q : Nat × List Nat)
def Rv.val (r : Env) : Rv → Option W
  | .t w => some (.fl w.dat)
  | .p q => eget r q
def kids1 (w i : W) : Option W := (stepIx w i).bind fun j => w.get [j]
def wipeE (r : Env) : List Nat → Env
  | [] => r
  | v :: vs => (wipeE r vs).set v none
def mkT (ws : List W) : W := if ws.all W.isFl then .fl (.nd .tup (ws.map W.unfl)) else .nd .tup ws
inductive Out where
  | nx (r : Env) | rt (w : W) (r : Env) | bk (r : Env) | ct (r : Env) | ex (cl : Nat) (pay : D) (r : Env) | bad
def Res.out {α : Type} (x : Res α) (f : α → Out) : Out := match x with
  | .ok a => f a
  | .ex c p r => .ex c p r
  | .bad => .bad
@[simp] theorem Res.out_ok {α : Type} (a : α) (f : α → Out) : (Res.ok a).out f = f a := rfl
@[simp] theorem Res.out_ex {α : Type} (c : Nat) (p : D) (r : Env) (f : α → Out) : (Res.ex c p r).out f = .ex c p r := rfl
@[simp] theorem Res.out_bad {α : Type} (f : α → Out) : (Res.bad : Res α).out f = .bad := rfl
def Res.noEx {α : Type} (x : Res α) : Res α := match x with
  | .ok a => .ok a
  | _ => .bad
@[simp] theorem Res.noEx_ok {α : Type} (a : α) : (Res.ok a).noEx = .ok a := rfl
def Out.andThen (x : Out) (f : Env → Out) : Out := match x with
  | .nx r => f r
  | y => y
@[simp] theorem Out.then_nx (r : Env) (f : Env → Out) : (Out.nx r).andThen f = f r := rfl
@[simp] theorem Out.then_rt (w : W) (r : Env) (f : Env → Out) : (Out.rt w r).andThen f = .rt w r := rfl
@[simp] theorem Out.then_bk (r : Env) (f : Env → Out) : (Out.bk r).andThen f = .bk r := rfl
@[simp] theorem Out.then_ct (r : Env) (f : Env → Out) : (Out.ct r).andThen f = .ct r := rfl
@[simp] theorem Out.then_ex (c : Nat) (p : D) (r : Env) (f : Env → Out) : (Out.ex c p r).andThen f = .ex c p r := rfl
@[simp] theorem Out.then_bad (f : Env → Out) : Out.bad.andThen f = .bad := rfl
/-- the in-outs taken out of their slots -/
def takeIo : List (W ⊕ Nat) → Env → Option (List W × Env)
  | [], r => some ([], r)
  | .inl w :: as, r => (takeIo as r).map fun q => (w :: q.1, q.2)
  | .inr i :: as, r => match r[i]? with
    | some (some w) => if w.isFl then none else (takeIo as (r.set i none)).map fun q => (w :: q.1, q.2)
    | _ => none
/-- .. and put back -/
def putIo : List (W ⊕ Nat) → List W → Env → Option Env
  | [], [], r => some r
  | .inl _ :: as, ws, r => putIo as ws r
  | .inr i :: as, w :: ws, r => putIo as ws (r.set i (some w))
  | _, _, _ => none
def bool? (x : W × Env) : Res (Bool × Env) := match x with
  | (.fl (.bl b), r) => .ok (b, r)
  | _ => .bad
def lcFold (bind : W → Env → Option Env) (test : Env → Res (Bool × Env)) (elt : Env → Res (W × Env)) (own : List Nat) : List W → List W → Env → Res (List W × Env)
  | [], acc, r => .ok (acc, r)
  | w :: ws, acc, r => (Res.of (bind w r)).bind fun r1 => (test r1).noEx.bind fun (b, r2) =>
    if b then (elt r2).noEx.bind fun (x, r3) => if small acc.length then lcFold bind test elt own ws (acc ++ [x]) (wipeE r3 own) else .bad
    else lcFold bind test elt own ws acc (wipeE r2 own)
def zipW : List D → List D → List W
  | a :: as, b :: bs => .fl (.nd .tup [a, b]) :: zipW as bs
  | _, _ => []
def enumW : Nat → List D → List W
  | _, [] => []
  | n, d :: ds => .fl (.nd .tup [.int (n : Int), d]) :: enumW (n + 1) ds
def rangeW (lo hi : Int) : List W := (List.range (hi - lo).toNat).map fun (i : Nat) => W.fl (D.int (lo + (i : Int)))
def within (i : Int) : Bool := decide (-100000000000 ≤ i ∧ i ≤ 100000000000)
def signsW (z : Str) : List W := z.cps.toList.map fun c => .fl (.str ⟨#[c]⟩)

section
variable (Γ : Den)
mutual
def E.sem : E → Env → Res (W × Env)
  | .rd p, r => (p.sem r).bind fun (q, r1) => Res.of (readAt r1 q)
  | .gt p, r => (p.sem r).bind fun (q, r1) => match eget r1 q with
    | some (.fl d) => .ok (.fl d, r1)
    | _ => .bad
  | .mv i, r => match r[i]? with
    | some (some w) => .ok (w, r.set i none)
    | _ => .bad
  | .con d, r => if d.flat then .ok (.fl d, r) else .bad
  | .gl _ d, r => if d.flat then .ok (.fl d, r) else .bad
  | .op o xs, r => (O.sems xs r).bind fun (vs, r1) => Res.of (((vs.mapM (Rv.val r1)).bind o.run).map fun w => (w.fzT, r1))
  | .ixT a b, r => (a.sem r).bind fun (x, r1) => (b.sem r1).bind fun (i, r2) => Res.of ((kids1 x i).map fun w => (w, r2))
  | .lst es, r => (E.sems es r).bind fun (ws, r1) => if small ws.length then .ok (.nd .lst ws, r1) else .bad
  | .tup es, r => (E.sems es r).bind fun (ws, r1) => if small ws.length then .ok (mkT ws, r1) else .bad
  | .dnK, r => .ok (.nd (.dK []) [], r)
  | .dnT, r => .ok (.nd (.dT []) [], r)
  | .fz e, r => (e.sem r).bind fun (w, r1) => .ok (.fl w.dat, r1)
  | .call f xs, r => (Ar.sems xs r).bind fun (vs, r1) => match takeIo vs r1 with
    | some (ws, r2) => match Γ f ws with
      | .ok w us => Res.of ((putIo vs us r2).map fun r3 => (w, r3))
      | .ex c p us => match putIo vs us r2 with
        | some r3 => .ex c p r3
        | none => .bad
      | .bad => .bad
    | none => .bad
  | .call0 f, r => match Γ f [] with
    | .ok w [] => .ok (w, r)
    | _ => .bad
  | .ite c a b, r => ((c.sem r).bind bool?).bind fun (k, r1) => if k then a.sem r1 else b.sem r1
  | .and a b, r => ((a.sem r).bind bool?).bind fun (k, r1) => if k then b.sem r1 else .ok (.fl (.bl false), r1)
  | .or a b, r => ((a.sem r).bind bool?).bind fun (k, r1) => if k then .ok (.fl (.bl true), r1) else b.sem r1
  | .not a, r => ((a.sem r).bind bool?).bind fun (k, r1) => .ok (.fl (.bl (!k)), r1)
  | .chn o p a b c, r => (a.sem r).bind fun (x, r1) => (b.sem r1).bind fun (y, r2) => match o.run [x, y] with
    | some (.fl (.bl k)) => if k then (c.sem r2).bind fun (z, r3) => Res.of ((p.run [y, z]).map fun w => (w, r3)) else .ok (.fl (.bl false), r2)
    | _ => .bad
  | .tru x, r => (O.sem x r).bind fun (v, r1) => Res.of (((v.val r1).bind W.truth).map fun b => (.fl (.bl b), r1))
  | .lc own g it ifs e, r => (It.sem it r).bind fun (ws, r1) =>
    (lcFold g.bind (match ifs with
      | none => fun r => .ok (true, r)
      | some c => fun r => (c.sem r).bind bool?) (fun r => e.sem r) (own.map (·.2)) ws [] (wipeE r1 (own.map (·.2)))).bind fun (acc, r2) => .ok (.nd .lst acc, r2)
def E.sems : List E → Env → Res (List W × Env)
  | [], r => .ok ([], r)
  | e :: es, r => (e.sem r).bind fun (w, r1) => (E.sems es r1).bind fun (ws, r2) => .ok (w :: ws, r2)
def O.sem : O → Env → Res (Rv × Env)
  | .tm e, r => (e.sem r).bind fun (w, r1) => .ok (.t w, r1)
  | .bo p, r => (p.sem r).bind fun (q, r1) => .ok (.p q, r1)
def O.sems : List O → Env → Res (List Rv × Env)
  | [], r => .ok ([], r)
  | x :: xs, r => (O.sem x r).bind fun (v, r1) => (O.sems xs r1).bind fun (vs, r2) => .ok (v :: vs, r2)
def Ar.sems : List Ar → Env → Res (List (W ⊕ Nat) × Env)
  | [], r => .ok ([], r)
  | .va e :: xs, r => (e.sem r).bind fun (w, r1) => (Ar.sems xs r1).bind fun (vs, r2) => .ok (.inl w :: vs, r2)
  | .io i :: xs, r => match r[i]? with
    | some (some _) => (Ar.sems xs r).bind fun (vs, r2) => .ok (.inr i :: vs, r2)
    | _ => .bad
def Pl.sem : Pl → Env → Res ((Nat × List Nat) × Env)
  | .sl i, r => match r[i]? with
    | some (some _) => .ok ((i, []), r)
    | _ => .bad
  | .ix p e, r => (p.sem r).bind fun (q, r1) => (e.sem r1).bind fun (i, r2) => Res.of (((eget r2 q).bind fun w => stepIx w i).map fun j => ((q.1, q.2 ++ [j]), r2))
  | .ky p e, r => (p.sem r).bind fun (q, r1) => (e.sem r1).bind fun (i, r2) => Res.of (((eget r2 q).bind fun w => stepKy w i).map fun j => ((q.1, q.2 ++ [j]), r2))
  | .fd p f, r => (p.sem r).bind fun (q, r1) => Res.of (((eget r1 q).bind fun w => stepFd w f).map fun j => ((q.1, q.2 ++ [j]), r1))
def It.sem : It → Env → Res (List W × Env)
  | .sq o, r => (O.sem o r).bind fun (v, r1) => Res.of (((v.val r1).bind W.lstD).map fun ds => (ds.map .fl, r1))
  | .tq o, r => (O.sem o r).bind fun (v, r1) => Res.of (((v.val r1).bind W.tupD).map fun ds => (ds.map .fl, r1))
  | .r1 e, r => (e.sem r).bind fun (w, r1) => match w with
    | .fl (.int n) => if within n then .ok (rangeW 0 n, r1) else .bad
    | _ => .bad
  | .r2 a b, r => (a.sem r).bind fun (x, r1) => (b.sem r1).bind fun (y, r2) => match x, y with
    | .fl (.int m), .fl (.int n) => if within m && within n then .ok (rangeW m n, r2) else .bad
    | _, _ => .bad
  | .zp a b, r => (O.sem a r).bind fun (v, r1) => (O.sem b r1).bind fun (u, r2) => match (v.val r2).bind W.lstD, (u.val r2).bind W.lstD with
    | some ds, some es => .ok (zipW ds es, r2)
    | _, _ => .bad
  | .en a, r => (O.sem a r).bind fun (v, r1) => Res.of (((v.val r1).bind W.lstD).map fun ds => (enumW 0 ds, r1))
  | .st o, r => (O.sem o r).bind fun (v, r1) => match v.val r1 with
    | some (.fl (.str z)) => .ok (signsW z, r1)
    | _ => .bad
end

/-! ### statements -/
def forFold (bind : W → Env → Option Env) (body : Env → Out) : List W → Env → Out
  | [], r => .nx r
  | w :: ws, r => match bind w r with
    | none => .bad
    | some r1 => match body r1 with
      | .nx r2 => forFold bind body ws r2
      | .ct r2 => forFold bind body ws r2
      | .bk r2 => .nx r2
      | y => y
def whlFold (test : Env → Res (Bool × Env)) (body : Env → Out) : Nat → Env → Out
  | 0, _ => .bad
  | n + 1, r => (test r).out fun (k, r1) => if k then (match body r1 with
      | .nx r2 => whlFold test body n r2
      | .ct r2 => whlFold test body n r2
      | .bk r2 => .nx r2
      | y => y) else .nx r1
/-- an owned list is changed at a place -/
def onL (r : Env) (q : Nat × List Nat) (f : List W → Option (List W)) : Option Env := match eget r q with
  | some (.nd .lst cs) => match r[q.1]? with
    | some (some x) => match x.get q.2, f cs with
      | some (.nd .lst _), some cs' => if small cs'.length && (x.sub q.2).isSome then some (W.setAt r q.1 q.2 (.nd .lst cs')) else none
      | _, _ => none
    | _ => none
  | _ => none
/-- an owned list stands there -/
def isL (r : Env) (q : Nat × List Nat) : Bool := match eget r q with
  | some (.nd .lst _) => true
  | _ => false
/-- d[k] = w -/
def putZ {α : Type} [DecidableEq α] (ks : List α) (ws : List W) (k : α) (w : W) : List α × List W := match atZ ks k with
  | some j => (ks, ws.set j w)
  | none => (ks ++ [k], ws ++ [w])
def onD (r : Env) (q : Nat × List Nat) (k w : W) : Option Env := match eget r q with
  | some (.nd (.dK ks) cs) => match k.dat.key with
    | some x => if small cs.length && decide (ks.length = cs.length) && ((r[q.1]?.getD none).bind fun x => x.sub q.2).isSome then some (W.setAt r q.1 q.2 (.nd (.dK (putZ ks cs x w).1) (putZ ks cs x w).2)) else none
    | none => none
  | some (.nd (.dT ks) cs) => match k.dat.keyT with
    | some x => if small cs.length && decide (ks.length = cs.length) && ((r[q.1]?.getD none).bind fun x => x.sub q.2).isSome then some (W.setAt r q.1 q.2 (.nd (.dT (putZ ks cs x w).1) (putZ ks cs x w).2)) else none
    | none => none
  | _ => none
/-- where insert puts it -/
def insAt (n : Nat) (i : Int) : Nat := if 0 ≤ i then min i.toNat n else (n + i).toNat
def fuel : Nat := 100000
/-- slots held still for a while: known for good within, their own again behind -/
def frzE (r : Env) : List Nat → Env
  | [] => r
  | i :: is => match r[i]? with
    | some (some w) => frzE (r.set i (some (.fl w.dat))) is
    | _ => frzE r is
def thawE (r0 r : Env) : List Nat → Env
  | [] => r
  | i :: is => (thawE r0 r is).set i (r0[i]?.getD none)
mutual
def S.sem : S → Env → Out
  | .asg i e, r => (e.sem Γ r).out fun (w, r1) => if i < r1.length then .nx (r1.set i (some w)) else .bad
  | .asgC i e, r => (e.sem Γ r).out fun (w, r1) => if i < r1.length then .nx (r1.set i (some w)) else .bad
  | .unp g e, r => (e.sem Γ r).out fun (w, r1) => match g.bind w r1 with
    | some r2 => .nx r2
    | none => .bad
  | .aug i o e, r => (e.sem Γ r).out fun (w, r1) => match r1[i]? with
    | some (some x) => match o.run [x, w] with
      | some y => .nx (r1.set i (some y))
      | none => .bad
    | _ => .bad
  | .seti p i e, r => (e.sem Γ r).out fun (w, r1) => (p.sem Γ r1).out fun (q, r2) => (i.sem Γ r2).out fun (k, r3) => match (eget r3 q).bind fun x => stepIx x k with
    | some j => match onL r3 q fun cs => some (cs.set j w) with
      | some r4 => .nx r4
      | none => .bad
    | none => .bad
  | .setk p k e, r => (e.sem Γ r).out fun (w, r1) => (p.sem Γ r1).out fun (q, r2) => (k.sem Γ r2).out fun (x, r3) => match onD r3 q x w with
    | some r4 => .nx r4
    | none => .bad
  | .app p e, r => (p.sem Γ r).out fun (q, r1) => if isL r1 q then (e.sem Γ r1).out fun (w, r2) => match onL r2 q fun cs => some (cs ++ [w]) with
    | some r3 => .nx r3
    | none => .bad
    else .bad
  | .ins p i e, r => (p.sem Γ r).out fun (q, r1) => if isL r1 q then (i.sem Γ r1).out fun (k, r2) => (e.sem Γ r2).out fun (w, r3) => match k with
    | .fl (.int k) => if 0 ≤ k ∧ k < 2 ^ 63 then (match onL r3 q fun cs => some (cs.take k.toNat ++ w :: cs.drop k.toNat) with
      | some r4 => .nx r4
      | none => .bad) else .bad
    | _ => .bad
    else .bad
  | .ext p o, r => (p.sem Γ r).out fun (q, r1) => if isL r1 q then (o.sem Γ r1).out fun (v, r2) => match (v.val r2).bind W.lstD with
    | some ds => match onL r2 q fun cs => some (cs ++ ds.map .fl) with
      | some r3 => .nx r3
      | none => .bad
    | none => .bad
    else .bad
  | .pop0 p, r => (p.sem Γ r).out fun (q, r1) => match onL r1 q fun cs => if cs.isEmpty then none else some cs.dropLast with
    | some r2 => .nx r2
    | none => .bad
  | .popi p i, r => (p.sem Γ r).out fun (q, r1) => if isL r1 q then (i.sem Γ r1).out fun (k, r2) => match (eget r2 q).bind fun x => stepIx x k with
    | some j => match onL r2 q fun cs => some (cs.eraseIdx j) with
      | some r3 => .nx r3
      | none => .bad
    | none => .bad
    else .bad
  | .ex e, r => (e.sem Γ r).out fun (_, r1) => .nx r1
  | .iff c a b, r => ((c.sem Γ r).bind bool?).out fun (k, r1) => if k then S.sems a r1 else S.sems b r1
  | .forr g it b, r => (it.sem Γ r).out fun (ws, r1) => forFold g.bind (fun r => S.sems b r) ws r1
  | .whl c b, r => whlFold (fun r => (c.sem Γ r).bind bool?) (fun r => S.sems b r) fuel r
  | .ret e, r => (e.sem Γ r).out fun (w, r1) => .rt w r1
  | .retN, r => .rt (.fl .non) r
  | .pass, r => .nx r
  | .brk, r => .bk r
  | .cnt, r => .ct r
  | .rais c _, r => .ex c .non r
  | .hold is ms b, r => match S.sems b (frzE r is) with
    | .nx r2 => .nx (thawE r (wipeE r2 ms) is)
    | .rt (.fl d) r2 => if d.flat then .rt (.fl d) (thawE r (wipeE r2 ms) is) else .bad
    | _ => .bad
def S.sems : List S → Env → Out
  | [], r => .nx r
  | s :: ss, r => (s.sem r).andThen fun r1 => S.sems ss r1
end
end
/-- a def's run: its names, the in-outs' places among the parameters -/
def ioBack (io : List Nat) (r : Env) : Option (List W) := io.mapM fun i => match r[i]? with
  | some (some w) => if w.isFl then none else some w
  | _ => none
def runF (Γ : Den) (n : Nat) (io : List Nat) (b : List S) (ws : List W) : Rf := match S.sems Γ b (ws.map some ++ List.replicate (n - ws.length) none) with
  | .rt w r => match ioBack io r with
    | some us => .ok w us
    | none => .bad
  | .nx r => match ioBack io r with
    | some us => .ok (.fl .non) us
    | none => .bad
  | .ex c p r => match ioBack io r with
    | some us => .ex c p us
    | none => .bad
  | _ => .bad
end Vx
end

section
set_option maxHeartbeats 4000000
/-! Vx 4: the state's moves. -/
namespace Vx
open PySem L2
section
variable {c : Gx} {H0 B0 B H : Hp} {A0 : List Addr} {L L' : List A} {n : En}

/-- a subtree is frozen in place: L holds it, L' has its place known for good -/
theorem Gd.freezeG2 {y : A} {R : List (Addr × HO)} (g : Gd c H0 B0 A0 B H L) (hy : y.ok c B) (p1 : (objsL c L).Perm (y.objs c ++ R)) (p2 : (objsL c L').Perm R)
    (lf : ∀ B', Same B B' → RepD c B' y.er.dat y.val → ∀ x ∈ L', x.ok c B') : ∃ B', Same B B' ∧ Gd c H0 B0 A0 B' H L' ∧ RepD c B' y.er.dat y.val ∧ ∀ p ∈ y.objs c, B' p.1 = some p.2 := by
  have nd1 : (ads (y.objs c ++ R)).Nodup := (p1.map Prod.fst).nodup_iff.mp g.nd
  rw [ads_append] at nd1
  have disj := (List.nodup_append.mp nd1).2.2
  have inY : ∀ q ∈ y.objs c, q ∈ objsL c L := fun q hq => p1.mem_iff.mpr (List.mem_append_left _ hq)
  have inR : ∀ q ∈ R, q ∈ objsL c L := fun q hq => p1.mem_iff.mpr (List.mem_append_right _ hq)
  have adL : ∀ b, b ∈ ads (y.objs c) ∨ b ∈ ads R → b ∈ ads (objsL c L) := fun b hb => by
    refine ((p1.map Prod.fst).mem_iff).mpr ?_
    show b ∈ ads (y.objs c ++ R)
    rw [ads_append]
    exact List.mem_append.mpr hb
  have s1 : Same B fun b => if b ∈ ads (y.objs c) then H b else B b := fun b o e => by
    show (if b ∈ ads (y.objs c) then H b else B b) = some o
    by_cases hb : b ∈ ads (y.objs c)
    · rw [if_pos hb]
      exact g.sub b o e
    · rw [if_neg hb]
      exact e
  have r1 : RepD c (fun b => if b ∈ ads (y.objs c) then H b else B b) y.er.dat y.val := A.view hy s1 fun p hp => by
    show (if p.1 ∈ ads (y.objs c) then H p.1 else B p.1) = some p.2
    rw [if_pos (List.mem_map_of_mem (f := Prod.fst) hp)]
    exact (g.hold p (inY p hp)).1
  refine ⟨fun b => if b ∈ ads (y.objs c) then H b else B b, s1, ?_, r1, fun p hp => by
    show (if p.1 ∈ ads (y.objs c) then H p.1 else B p.1) = some p.2
    rw [if_pos (List.mem_map_of_mem (f := Prod.fst) hp)]
    exact (g.hold p (inY p hp)).1⟩
  refine ⟨fun b o e => s1 b o (g.b0 b o e), fun b o e => ?_, fun p hp => ?_, ?_, lf _ s1 r1, g.fr, fun b hb => ?_⟩
  · have e' : (if b ∈ ads (y.objs c) then H b else B b) = some o := e
    by_cases hb : b ∈ ads (y.objs c)
    · rw [if_pos hb] at e'
      exact e'
    · rw [if_neg hb] at e'
      exact g.sub b o e'
  · have hp' : p ∈ R := p2.mem_iff.mp hp
    obtain ⟨q1, q2⟩ := g.hold p (inR p hp')
    refine ⟨q1, ?_⟩
    show (if p.1 ∈ ads (y.objs c) then H p.1 else B p.1) = none
    rw [if_neg (fun z => disj _ z _ (List.mem_map_of_mem (f := Prod.fst) hp') rfl)]
    exact q2
  · exact ((p2.map Prod.fst).nodup_iff).mpr (List.nodup_append.mp nd1).2.1
  · refine g.nw b ?_
    rcases hb with hb | hb
    · have hb' : (if b ∈ ads (y.objs c) then H b else B b) ≠ none := hb
      by_cases hm : b ∈ ads (y.objs c)
      · exact Or.inr (adL b (Or.inl hm))
      · rw [if_neg hm] at hb'
        exact Or.inl hb'
    · exact Or.inr (adL b (Or.inr (((p2.map Prod.fst).mem_iff).mp hb)))

theorem Gd.freezeG {y : A} {R : List (Addr × HO)} (g : Gd c H0 B0 A0 B H L) (hy : y.ok c B) (p1 : (objsL c L).Perm (y.objs c ++ R)) (p2 : (objsL c L').Perm R)
    (lf : ∀ B', Same B B' → RepD c B' y.er.dat y.val → ∀ x ∈ L', x.ok c B') : ∃ B', Same B B' ∧ Gd c H0 B0 A0 B' H L' ∧ RepD c B' y.er.dat y.val := by
  obtain ⟨B', h1, h2, h3, _⟩ := Gd.freezeG2 g hy p1 p2 lf
  exact ⟨B', h1, h2, h3⟩

/-- into a call: the trees handed in -/
theorem Gd.enter {xs R : List A} (g : Gd c H0 B0 A0 B H (xs ++ R)) : G c ⟨H, B, ads (objsL c xs)⟩ B H xs where
  b0 := Same.refl _
  sub := g.sub
  hold := fun p hp => g.hold p (by rw [objsL_append]; exact List.mem_append_left _ hp)
  nd := by
    have h := g.nd
    rw [objsL_append, ads_append] at h
    exact (List.nodup_append.mp h).1
  lf := fun x hx => g.lf x (List.mem_append_left _ hx)
  fr := fun b o h _ => h
  nw := fun b hb => hb.elim Or.inl fun z => Or.inr (Or.inr z)
/-- out of a call -/
theorem Gd.leave {xs ys R : List A} {B' H' : Hp} (g : Gd c H0 B0 A0 B H (xs ++ R)) (k : G c ⟨H, B, ads (objsL c xs)⟩ B' H' ys) : Gd c H0 B0 A0 B' H' (ys ++ R) := by
  have nd0 := g.nd
  rw [objsL_append, ads_append] at nd0
  have disj := (List.nodup_append.mp nd0).2.2
  have inR : ∀ p ∈ objsL c R, p ∈ objsL c (xs ++ R) := fun p hp => by
    rw [objsL_append]
    exact List.mem_append_right _ hp
  have RX : ∀ b ∈ ads (objsL c R), b ∉ ads (objsL c xs) := fun b hb hx => disj b hx b hb rfl
  have Rn : ∀ b ∈ ads (objsL c R), ¬ (B' b ≠ none ∨ b ∈ ads (objsL c ys)) := fun b hb hz => by
    obtain ⟨q, hq, e⟩ := List.mem_map.mp hb
    obtain ⟨q1, q2⟩ := g.hold q (inR q hq)
    rw [e] at q1 q2
    rcases k.nw b hz with z | z | z
    · exact z q2
    · have z' : H b = none := z
      rw [z'] at q1
      cases q1
    · exact RX b hb z
  have out : ∀ b, (B' b ≠ none ∨ b ∈ ads (objsL c ys)) → B0 b ≠ none ∨ H0 b = none ∨ b ∈ A0 := fun b hb => by
    rcases k.nw b hb with z | z | z
    · exact g.nw b (Or.inl z)
    · exact Or.inr (g.new_ok z)
    · refine g.nw b (Or.inr ?_)
      rw [objsL_append, ads_append]
      exact List.mem_append_left _ z
  refine ⟨fun b o h => k.b0 b o (g.b0 b o h), k.sub, fun p hp => ?_, ?_, fun x hx => ?_, fun b o h hA => ?_, fun b hb => ?_⟩
  · rw [objsL_append] at hp
    rcases List.mem_append.mp hp with hp | hp
    · exact k.hold p hp
    · have ha : p.1 ∈ ads (objsL c R) := List.mem_map_of_mem (f := Prod.fst) hp
      refine ⟨k.fr p.1 p.2 (g.hold p (inR p hp)).1 (RX _ ha), ?_⟩
      cases e : B' p.1 with
      | none => rfl
      | some o => exact (Rn _ ha (Or.inl (by rw [e]; exact fun z => by cases z))).elim
  · rw [objsL_append, ads_append]
    exact List.nodup_append.mpr ⟨k.nd, (List.nodup_append.mp nd0).2.1, fun a ha b hb e => Rn b hb (Or.inr (e ▸ ha))⟩
  · rcases List.mem_append.mp hx with hx | hx
    · exact k.lf x hx
    · exact A.ok.mono k.b0 (g.lf x (List.mem_append_right _ hx))
  · by_cases hx : b ∈ ads (objsL c xs)
    · have hm : b ∈ ads (objsL c (xs ++ R)) := by
        rw [objsL_append, ads_append]
        exact List.mem_append_left _ hx
      obtain ⟨q, hq, e⟩ := List.mem_map.mp hm
      obtain ⟨q1, q2⟩ := g.hold q hq
      rw [e] at q2
      rcases g.nw b (Or.inr hm) with z | z | z
      · cases e2 : B0 b with
        | none => exact (z e2).elim
        | some w =>
          have := g.b0 b w e2
          rw [q2] at this
          cases this
      · rw [z] at h
        cases h
      · exact (hA z).elim
    · exact k.fr b o (g.fr b o h hA) hx
  · rw [objsL_append, ads_append] at hb
    rcases hb with hb | hb
    · exact out b (Or.inl hb)
    · rcases List.mem_append.mp hb with hb | hb
      · exact out b (Or.inr hb)
      · refine g.nw b (Or.inr ?_)
        rw [objsL_append, ads_append]
        exact List.mem_append_right _ hb
end

section
variable {c : Gx} {n : En} {B H : Hp} {T : List A} {as : Sl} {σ : St}
theorem G.perm {L L' : List A} (g : G c n B H L) (p : L.Perm L') : G c n B H L' := Gd.perm g p
/-- a slot's tree is taken out -/
theorem G.take {i : Nat} {x : A} (g : G c n B H (live as ++ T)) (h : as[i]? = some (some x)) : G c n B H (live (as.set i none) ++ x :: T) :=
  g.perm ((List.Perm.append_right T (live_get h)).trans (List.perm_middle (a := x) (l₁ := live (as.set i none)) (l₂ := T)).symm)
theorem G.give {i : Nat} {x : A} (g : G c n B H (live (as.set i none) ++ x :: T)) (h : i < as.length) : G c n B H (live (as.set i (some x)) ++ T) :=
  g.perm ((List.perm_middle (a := x) (l₁ := live (as.set i none)) (l₂ := T)).trans (List.Perm.append_right T (live_set h).symm))
theorem G.forget {i : Nat} (g : G c n B H (live as ++ T)) : G c n B H (live (as.set i none) ++ T) := by
  obtain ⟨M, h⟩ := live_drop (as := as) (i := i)
  have g2 := g.perm ((List.Perm.append_right T h).trans (by rw [List.append_assoc]))
  exact Gd.drop g2
theorem SR.take {i : Nat} (s : SR σ as) : SR σ (as.set i none) := ⟨by rw [List.length_set]; exact s.1, fun j x h => by
  rw [List.getElem?_set] at h
  split at h
  · split at h
    · cases h
    · cases h
  · exact s.2 j x h⟩
theorem SR.put {i : Nat} {x : A} (s : SR σ as) : SR (σ.set i (some x.val)) (as.set i (some x)) := ⟨by rw [List.length_set, List.length_set]; exact s.1, fun j y h => by
  rw [List.getElem?_set] at h ⊢
  split at h
  · rename_i e
    rw [if_pos e]
    split at h
    · rename_i hl
      have e2 : x = y := by simpa using h
      rw [if_pos (by rw [← s.1]; exact hl), e2]
    · cases h
  · rename_i e
    rw [if_neg e]
    exact s.2 j y h⟩
/-- a slot's tree changed, its value the same -/
theorem SR.chg {i : Nat} {x y : A} (s : SR σ as) (h : as[i]? = some (some x)) (e : y.val = x.val) : SR σ (as.set i (some y)) := ⟨by rw [List.length_set]; exact s.1, fun j z hz => by
  rw [List.getElem?_set] at hz
  split at hz
  · rename_i e1
    subst e1
    split at hz
    · have e2 : y = z := by simpa using hz
      rw [← e2, e]
      exact s.2 _ x h
    · cases hz
  · exact s.2 j z hz⟩
theorem SR.lt {i : Nat} {x : A} (h : as[i]? = some (some x)) : i < as.length := (List.getElem?_eq_some_iff.mp h).1

/-- a subtree of a slot is frozen in place -/
theorem G.freezeAt {i : Nat} {x y : A} {p : List Nat} (g : G c n B H (live as ++ T)) (h : as[i]? = some (some x)) (hp : x.sub p = some y) :
    ∃ B', Same B B' ∧ G c n B' H (live (as.set i (some (x.put p (.fl y.val y.er.dat)))) ++ .fl y.val y.er.dat :: T) ∧ RepD c B' y.er.dat y.val := by
  obtain ⟨R, p1, p2⟩ := A.put_at (c := c) hp
  obtain ⟨q1, q2⟩ := p2 (.fl y.val y.er.dat) rfl
  have hx := g.lf x (List.mem_append_left _ ((live_get h).mem_iff.mpr List.mem_cons_self))
  have perm1 : (objsL c (live as ++ T)).Perm (y.objs c ++ (R ++ objsL c (live (as.set i none) ++ T))) := by
    have z := objsL_perm (c := c) (List.Perm.append_right T (live_get h))
    refine z.trans ?_
    show (x.objs c ++ objsL c (live (as.set i none) ++ T)).Perm _
    refine (List.Perm.append_right _ p1).trans ?_
    rw [List.append_assoc]
  have perm2 : (objsL c (live (as.set i (some (x.put p (.fl y.val y.er.dat)))) ++ .fl y.val y.er.dat :: T)).Perm (R ++ objsL c (live (as.set i none) ++ T)) := by
    have z := objsL_perm (c := c) ((List.perm_middle (a := A.fl y.val y.er.dat) (l₁ := live (as.set i (some (x.put p (.fl y.val y.er.dat))))) (l₂ := T)).trans (List.Perm.cons _ (List.Perm.append_right T (live_set (SR.lt h)))))
    refine z.trans ?_
    show (((A.fl y.val y.er.dat).objs c) ++ ((x.put p (.fl y.val y.er.dat)).objs c ++ objsL c (live (as.set i none) ++ T))).Perm _
    exact List.Perm.append_right _ q2
  refine Gd.freezeG g (A.sub_ok hx hp) perm1 perm2 fun B' s r z hz => ?_
  rcases List.mem_append.mp hz with hz | hz
  · rcases List.mem_cons.mp ((live_set (SR.lt h)).mem_iff.mp hz) with e | hz
    · rw [e]
      exact A.put_ok (A.ok.mono s hx) r
    · exact A.ok.mono s (g.lf z (List.mem_append_left _ ((live_get h).mem_iff.mpr (List.mem_cons_of_mem _ hz))))
  · rcases List.mem_cons.mp hz with e | hz
    · rw [e]
      exact r
    · exact A.ok.mono s (g.lf z (List.mem_append_right _ hz))
/-- a whole slot is made known for good -/
theorem G.freezeS {i : Nat} {x : A} (g : G c n B H (live as ++ T)) (h : as[i]? = some (some x)) :
    ∃ B', Same B B' ∧ G c n B' H (live (as.set i (some (.fl x.val x.er.dat))) ++ T) ∧ ∀ p ∈ x.objs c, B' p.1 = some p.2 := by
  have hx := g.lf x (List.mem_append_left _ ((live_get h).mem_iff.mpr List.mem_cons_self))
  have perm1 : (objsL c (live as ++ T)).Perm (x.objs c ++ objsL c (live (as.set i none) ++ T)) := objsL_perm (c := c) (List.Perm.append_right T (live_get h))
  have perm2 : (objsL c (live (as.set i (some (.fl x.val x.er.dat))) ++ T)).Perm (objsL c (live (as.set i none) ++ T)) := by
    have z := objsL_perm (c := c) (List.Perm.append_right T (live_set (x := .fl x.val x.er.dat) (SR.lt h)))
    exact z
  obtain ⟨B', s1, g1, _, o1⟩ := Gd.freezeG2 g hx perm1 perm2 fun B' s r z hz => by
    rcases List.mem_append.mp hz with hz | hz
    · rcases List.mem_cons.mp ((live_set (SR.lt h)).mem_iff.mp hz) with e | hz
      · rw [e]
        exact r
      · exact A.ok.mono s (g.lf z (List.mem_append_left _ ((live_get h).mem_iff.mpr (List.mem_cons_of_mem _ hz))))
    · exact A.ok.mono s (g.lf z (List.mem_append_right _ hz))
  exact ⟨B', s1, g1, o1⟩
/-- an owned container at a place is written: its children from cs to cs', the extra trees M used up -/
theorem G.writeAt {i : Nat} {x : A} {p : List Nat} {a dx : Addr} {k k' : Kd} {cs cs' : List A} {M : List A} {X : List (Addr × HO)} (g : G c n B H (live as ++ (M ++ T))) (h : as[i]? = some (some x)) (hp : x.sub p = some (.nd a dx k cs))
    (hx : k.xtr a dx = k'.xtr a dx) (hf : k'.fits cs'.length) (hc : (objsL c (cs ++ M)).Perm (objsL c cs' ++ X)) (hok : (∀ z ∈ cs ++ M, z.ok c B) → ∀ z ∈ cs', z.ok c B) :
    G c n B (upd H a (k'.ho c dx (vals cs'))) (live (as.set i (some (x.put p (.nd a dx k' cs')))) ++ T) := by
  obtain ⟨R, p1, p2⟩ := A.put_at (c := c) hp
  obtain ⟨q1, q2⟩ := p2 (.nd a dx k' cs') rfl
  have hxo := g.lf x (List.mem_append_left _ ((live_get h).mem_iff.mpr List.mem_cons_self))
  have hno := A.sub_ok hxo hp
  have sw : ∀ u v w : List (Addr × HO), (u ++ (v ++ w)).Perm (v ++ (u ++ w)) := fun u v w => by
    rw [← List.append_assoc, ← List.append_assoc]
    exact List.Perm.append_right _ List.perm_append_comm
  have perm1 : (objsL c (live as ++ (M ++ T))).Perm ((a, k.ho c dx (vals cs)) :: (k.xtr a dx ++ (objsL c cs' ++ (R ++ objsL c (live (as.set i none) ++ T)))) ++ X) := by
    have z := objsL_perm (c := c) (List.Perm.append_right (M ++ T) (live_get h))
    refine z.trans ?_
    show (x.objs c ++ objsL c (live (as.set i none) ++ (M ++ T))).Perm _
    refine (List.Perm.append_right _ p1).trans ?_
    have e1 : objsL c (live (as.set i none) ++ (M ++ T)) = objsL c (live (as.set i none)) ++ (objsL c M ++ objsL c T) := by rw [objsL_append, objsL_append]
    rw [e1]
    have e2 : objsL c (live (as.set i none) ++ T) = objsL c (live (as.set i none)) ++ objsL c T := objsL_append _ _ _
    rw [e2]
    show (((a, k.ho c dx (vals cs)) :: (k.xtr a dx ++ objsL c cs)) ++ R ++ (objsL c (live (as.set i none)) ++ (objsL c M ++ objsL c T))).Perm _
    rw [objsL_append] at hc
    simp only [List.cons_append, List.append_assoc]
    refine List.Perm.cons _ (List.Perm.append_left _ ?_)
    -- cs ++ R ++ (l ++ (M ++ T))  ~  cs' ++ (R ++ (l ++ (T ++ X)))
    have s1 : (objsL c cs ++ (R ++ (objsL c (live (as.set i none)) ++ (objsL c M ++ objsL c T)))).Perm ((objsL c cs ++ objsL c M) ++ (R ++ (objsL c (live (as.set i none)) ++ objsL c T))) := by
      rw [List.append_assoc]
      refine List.Perm.append_left _ ?_
      refine ((List.Perm.append_left R (sw _ _ _)).trans (sw _ _ _))
    refine s1.trans ((List.Perm.append_right _ hc).trans ?_)
    rw [List.append_assoc]
    refine List.Perm.append_left _ ?_
    refine List.perm_append_comm.trans ?_
    simp only [List.append_assoc]
    exact List.Perm.refl _
  have perm2 : (objsL c (live (as.set i (some (x.put p (.nd a dx k' cs')))) ++ T)).Perm ((a, k'.ho c dx (vals cs')) :: (k.xtr a dx ++ (objsL c cs' ++ (R ++ objsL c (live (as.set i none) ++ T))))) := by
    have z := objsL_perm (c := c) (List.Perm.append_right T (live_set (x := x.put p (.nd a dx k' cs')) (SR.lt h)))
    refine z.trans ?_
    show ((x.put p (.nd a dx k' cs')).objs c ++ objsL c (live (as.set i none) ++ T)).Perm _
    refine (List.Perm.append_right _ q2).trans ?_
    show (((a, k'.ho c dx (vals cs')) :: (k'.xtr a dx ++ objsL c cs')) ++ R ++ objsL c (live (as.set i none) ++ T)).Perm _
    rw [← hx]
    simp only [List.cons_append, List.append_assoc]
    exact List.Perm.refl _
  refine Gd.write g perm1 perm2 fun z hz => ?_
  rcases List.mem_append.mp hz with hz | hz
  · rcases List.mem_cons.mp ((live_set (SR.lt h)).mem_iff.mp hz) with e | hz
    · rw [e]
      refine A.put_ok hxo ⟨hf, okL_iff.mpr (hok fun z hz => ?_)⟩
      rcases List.mem_append.mp hz with hz | hz
      · exact okL_iff.mp hno.2 z hz
      · exact g.lf z (List.mem_append_right _ (List.mem_append_left _ hz))
    · exact g.lf z (List.mem_append_left _ ((live_get h).mem_iff.mpr (List.mem_cons_of_mem _ hz)))
  · exact g.lf z (List.mem_append_right _ (List.mem_append_right _ hz))
end
end Vx
end

section
set_option maxHeartbeats 4000000
/-! Vx 5: what stands at a place. -/
namespace Vx
open PySem L2
def AtD (c : Gx) (B : Hp) : List Nat → D → V → V → D → Prop
  | [], d, v, v', d' => v' = v ∧ d' = d
  | j :: p, d, v, v', d' => ∃ k ds a vs dj vj, d = .nd k ds ∧ v = .ref a ∧ k.fits ds.length ∧ k.rd c B a vs ∧ RepDs c B ds vs ∧ ds[j]? = some dj ∧ vs[j]? = some vj ∧ AtD c B p dj vj v' d'
def A.at (c : Gx) (B : Hp) : List Nat → A → V → W → Prop
  | [], x, v, w => v = x.val ∧ w = x.er
  | j :: p, x, v, w => (∃ a dx k cs y, x = .nd a dx k cs ∧ cs[j]? = some y ∧ A.at c B p y v w) ∨ (∃ v0 d d', x = .fl v0 d ∧ w = .fl d' ∧ AtD c B (j :: p) d v0 v d')
section
variable {c : Gx} {n : En} {B B' H : Hp} {T : List A} {as : Sl} {σ : St}
theorem RepDs.at {ds : List D} {vs : List V} {j : Nat} {d : D} {v : V} (h : RepDs c B ds vs) (e1 : ds[j]? = some d) (e2 : vs[j]? = some v) : RepD c B d v := by
  obtain ⟨u, q1, q2⟩ := RepDs.get h e1
  rw [e2] at q1
  cases q1
  exact q2
theorem AtD.rep : ∀ {p : List Nat} {d : D} {v v' : V} {d' : D}, RepD c B d v → AtD c B p d v v' d' → RepD c B d' v'
  | [], d, v, v', d', h, ⟨e1, e2⟩ => by
    rw [e1, e2]
    exact h
  | j :: p, d, v, v', d', h, ⟨k, ds, a, vs, dj, vj, e0, e1, h2, h3, h4, h5, h6, h7⟩ => AtD.rep (RepDs.at h4 h5 h6) h7
theorem D.get_nil {d : D} : d.get [] = some d := by
  cases d <;> rfl
theorem AtD.get : ∀ {p : List Nat} {d : D} {v v' : V} {d' : D}, AtD c B p d v v' d' → d.get p = some d'
  | [], d, v, v', d', ⟨e1, e2⟩ => by
    rw [e2]
    exact D.get_nil
  | j :: p, d, v, v', d', ⟨k, ds, a, vs, dj, vj, e0, e1, h2, h3, h4, h5, h6, h7⟩ => by
    subst e0
    show (ds[j]?).bind _ = _
    rw [h5]
    exact AtD.get h7
theorem AtD.mono (s : Same B B') : ∀ {p : List Nat} {d : D} {v v' : V} {d' : D}, AtD c B p d v v' d' → AtD c B' p d v v' d'
  | [], d, v, v', d', q => q
  | j :: p, d, v, v', d', ⟨k, ds, a, vs, dj, vj, e0, e1, h2, h3, h4, h5, h6, h7⟩ => ⟨k, ds, a, vs, dj, vj, e0, e1, h2, Kd.rd_mono s h3, RepDs.mono s h4, h5, h6, AtD.mono s h7⟩
theorem AtD.snoc {v' u : V} {k : Kd} {ds : List D} {a : Addr} {vs : List V} {j : Nat} {e : D} (e1 : v' = .ref a) (h2 : k.fits ds.length) (h3 : k.rd c B a vs) (h4 : RepDs c B ds vs) (h5 : ds[j]? = some e) (h6 : vs[j]? = some u) :
    ∀ {p : List Nat} {d : D} {v : V}, AtD c B p d v v' (.nd k ds) → AtD c B (p ++ [j]) d v u e
  | [], d, v, ⟨q1, q2⟩ => by
    subst q1
    subst q2
    exact ⟨k, ds, a, vs, e, u, rfl, e1, h2, h3, h4, h5, h6, rfl, rfl⟩
  | i :: p, d, v, ⟨k0, ds0, a0, vs0, dj, vj, g0, g1, g2, g3, g4, g5, g6, g7⟩ => by
    have ih := AtD.snoc e1 h2 h3 h4 h5 h6 g7
    exact ⟨k0, ds0, a0, vs0, dj, vj, g0, g1, g2, g3, g4, g5, g6, ih⟩

theorem A.at_nil {x : A} : A.at c B [] x x.val x.er := ⟨rfl, rfl⟩
theorem W.get_nil {w : W} : w.get [] = some w := by
  cases w <;> rfl
theorem A.at_get : ∀ {p : List Nat} {x : A} {v : V} {w : W}, A.at c B p x v w → x.er.get p = some w
  | [], x, v, w, ⟨e1, e2⟩ => by
    rw [e2]
    exact W.get_nil
  | j :: p, x, v, w, .inr ⟨v0, d, d', e0, e, q⟩ => by
    subst e0
    show (d.get (j :: p)).map W.fl = some w
    rw [AtD.get q, e]
    rfl
  | j :: p, x, v, w, .inl ⟨a, dx, k, cs, y, e0, e, q⟩ => by
    subst e0
    rw [A.er_nd]
    show ((cs.map A.er)[j]?).bind _ = _
    rw [List.getElem?_map, e]
    exact A.at_get q
theorem A.at_mono (s : Same B B') : ∀ {p : List Nat} {x : A} {v : V} {w : W}, A.at c B p x v w → A.at c B' p x v w
  | [], x, v, w, q => q
  | j :: p, x, v, w, .inr ⟨v0, d, d', e0, e, q⟩ => .inr ⟨v0, d, d', e0, e, AtD.mono s q⟩
  | j :: p, x, v, w, .inl ⟨a, dx, k, cs, y, e0, e, q⟩ => .inl ⟨a, dx, k, cs, y, e0, e, A.at_mono s q⟩
/-- an owned node -/
theorem A.at_sub {k : Kd} {ws : List W} : ∀ {p : List Nat} {x : A} {v : V}, A.at c B p x v (.nd k ws) → ∃ a dx cs, x.sub p = some (.nd a dx k cs) ∧ cs.map A.er = ws ∧ v = .ref a
  | [], x, v, ⟨e1, e2⟩ => by
    cases x with
    | fl v0 d => cases e2
    | nd a dx k' cs =>
      rw [A.er_nd] at e2
      injection e2 with e3 e4
      subst e3
      exact ⟨a, dx, cs, rfl, e4.symm, e1⟩
  | j :: p, x, v, .inr ⟨v0, d, d', e0, e, q⟩ => by cases e
  | j :: p, x, v, .inl ⟨a, dx, k0, cs, y, e0, e, q⟩ => by
    obtain ⟨a', dx', cs', h1, h2, h3⟩ := A.at_sub q
    subst e0
    refine ⟨a', dx', cs', ?_, h2, h3⟩
    show (cs[j]?).bind _ = _
    rw [e]
    exact h1
/-- known data -/
theorem A.at_rep {d : D} : ∀ {p : List Nat} {x : A} {v : V}, x.ok c B → A.at c B p x v (.fl d) → RepD c B d v
  | [], x, v, h, ⟨e1, e2⟩ => by
    cases x with
    | fl v0 d0 =>
      have e3 : d = d0 := W.fl.inj e2
      rw [e1, e3]
      exact h
    | nd a dx k cs =>
      rw [A.er_nd] at e2
      cases e2
  | j :: p, x, v, h, .inr ⟨v0, d0, d', e0, e, q⟩ => by
    subst e0
    have e3 : d = d' := W.fl.inj e
    rw [e3]
    exact AtD.rep (show RepD c B d0 v0 from h) q
  | j :: p, x, v, h, .inl ⟨a, dx, k, cs, y, e0, e, q⟩ => by
    subst e0
    exact A.at_rep (okL_get h.2 e) q
theorem A.at_snoc_nd {a dx : Addr} {k : Kd} {cs : List A} {j : Nat} {y : A} (e : cs[j]? = some y) : ∀ {p : List Nat} {x : A}, x.sub p = some (.nd a dx k cs) → A.at c B (p ++ [j]) x y.val y.er
  | [], x, h => by
    have e1 : x = .nd a dx k cs := by simpa [A.sub] using h
    exact .inl ⟨a, dx, k, cs, y, e1, e, rfl, rfl⟩
  | i :: p, .fl v0 d, h => by simp [A.sub] at h
  | i :: p, .nd a0 dx0 k0 cs0, h => by
    cases e0 : cs0[i]? with
    | none => simp [A.sub, e0] at h
    | some z =>
      have ih := A.at_snoc_nd e (p := p) (x := z) (by simpa [A.sub, e0] using h)
      exact .inl ⟨a0, dx0, k0, cs0, z, rfl, e0, ih⟩
theorem A.at_snoc_fl {v u : V} {k : Kd} {ds : List D} {a : Addr} {vs : List V} {j : Nat} {e : D} (e1 : v = .ref a) (h2 : k.fits ds.length) (h3 : k.rd c B a vs) (h4 : RepDs c B ds vs) (h5 : ds[j]? = some e) (h6 : vs[j]? = some u) :
    ∀ {p : List Nat} {x : A}, A.at c B p x v (.fl (.nd k ds)) → A.at c B (p ++ [j]) x u (.fl e)
  | [], x, ⟨q1, q2⟩ => by
    cases x with
    | fl v0 d0 =>
      have e3 : D.nd k ds = d0 := W.fl.inj q2
      have e4 : v = v0 := q1
      exact .inr ⟨v0, d0, e, rfl, rfl, k, ds, a, vs, e, u, e3.symm, e4.symm.trans e1, h2, h3, h4, h5, h6, rfl, rfl⟩
    | nd a0 dx k0 cs =>
      rw [A.er_nd] at q2
      cases q2
  | i :: p, x, .inr ⟨v0, d0, d', e0, g, q⟩ => by
    have g' : D.nd k ds = d' := W.fl.inj g
    subst g'
    have ih := AtD.snoc e1 h2 h3 h4 h5 h6 q
    exact .inr ⟨v0, d0, e, e0, rfl, ih⟩
  | i :: p, x, .inl ⟨a0, dx0, k0, cs0, y, e0, g, q⟩ => by
    have ih := A.at_snoc_fl e1 h2 h3 h4 h5 h6 q
    exact .inl ⟨a0, dx0, k0, cs0, y, e0, g, ih⟩

/-- a place in the slots -/
def PAt (c : Gx) (B : Hp) (as : Sl) (q : Nat × List Nat) (v : V) (w : W) : Prop := ∃ x, as[q.1]? = some (some x) ∧ A.at c B q.2 x v w
theorem PAt.get {q : Nat × List Nat} {v : V} {w : W} (h : PAt c B as q v w) : eget (ers as) q = some w := by
  obtain ⟨x, h1, h2⟩ := h
  unfold eget
  rw [ers_get, h1]
  exact A.at_get h2
theorem PAt.mono {q : Nat × List Nat} {v : V} {w : W} (h : PAt c B as q v w) (s : Same B B') {as' : Sl} (e : as'[q.1]? = as[q.1]?) : PAt c B' as' q v w := by
  obtain ⟨x, h1, h2⟩ := h
  exact ⟨x, e.trans h1, A.at_mono s h2⟩
theorem live_mem {i : Nat} {x : A} (h : as[i]? = some (some x)) : x ∈ live as := (live_get h).mem_iff.mpr List.mem_cons_self
theorem sub_objs : ∀ {p : List Nat} {x y : A}, x.sub p = some y → ∀ q ∈ y.objs c, q ∈ x.objs c := fun {p x y} h q hq => by
  obtain ⟨R, h1, _⟩ := A.put_at (c := c) h
  exact h1.mem_iff.mpr (List.mem_append_left _ hq)
theorem mem_objsL {x : A} {L : List A} (hx : x ∈ L) {q : Addr × HO} (hq : q ∈ x.objs c) : q ∈ objsL c L := by
  induction L with
  | nil => cases hx
  | cons y L ih =>
    rcases List.mem_cons.mp hx with rfl | hx
    · exact List.mem_append_left _ hq
    · exact List.mem_append_right _ (ih hx)
/-- what the container at a place holds -/
theorem PAt.kids {q : Nat × List Nat} {v : V} {w : W} {k : Kd} {m : Nat} (g : G c n B H (live as ++ T)) (h : PAt c B as q v w) (hk : w.kids = some (k, m)) :
    ∃ a vs, v = .ref a ∧ k.rd c H a vs ∧ vs.length = m ∧ k.fits m ∧ ∀ j, j < m → ∃ u z, vs[j]? = some u ∧ PAt c B as (q.1, q.2 ++ [j]) u z := by
  obtain ⟨x, h1, h2⟩ := h
  have hxm : x ∈ live as ++ T := List.mem_append_left _ (live_mem h1)
  cases w with
  | fl d =>
    cases d with
    | nd k' ds =>
      have e : k' = k ∧ ds.length = m := by
        have e0 : (some (k', ds.length) : Option (Kd × Nat)) = some (k, m) := hk
        injection e0 with e0
        injection e0 with e1 e2
        exact ⟨e1, e2⟩
      obtain ⟨rfl, rfl⟩ := e
      obtain ⟨a, vs, e1, e2, e3, e4⟩ := A.at_rep (g.lf x hxm) h2
      refine ⟨a, vs, e1, Kd.rd_mono g.sub e3, (RepDs.len e4).symm, e2, fun j hj => ?_⟩
      have hj2 : j < vs.length := by rw [← RepDs.len e4]; exact hj
      exact ⟨vs[j], .fl ds[j], by simp [hj2], x, h1, A.at_snoc_fl e1 e2 e3 e4 (by simp [hj]) (by simp [hj2]) h2⟩
    | _ => cases hk
  | nd k' ws =>
    obtain ⟨a, dx, cs, s1, s2, s3⟩ := A.at_sub h2
    have e : k' = k ∧ ws.length = m := by
      have e0 : (some (k', ws.length) : Option (Kd × Nat)) = some (k, m) := hk
      injection e0 with e0
      injection e0 with e1 e2
      exact ⟨e1, e2⟩
    obtain ⟨rfl, rfl⟩ := e
    have hl : cs.length = ws.length := by rw [← s2, List.length_map]
    have hno := A.sub_ok (g.lf x hxm) s1
    refine ⟨a, vals cs, s3, Kd.rd_of (dx := dx) (g.hold (a, k'.ho c dx (vals cs)) (mem_objsL hxm (sub_objs s1 _ List.mem_cons_self))).1, by simp [hl], by rw [← hl]; exact hno.1, fun j hj => ?_⟩
    have hj2 : j < cs.length := by rw [hl]; exact hj
    exact ⟨cs[j].val, cs[j].er, by simp [hj2], x, h1, A.at_snoc_nd (by simp [hj2]) s1⟩

/-- an operand as it is to be used: known data, or an owned container of known things -/
def OV (c : Gx) (B H : Hp) (w : W) (v : V) : Prop := RepD c H w.dat v ∧ (∀ d, w = .fl d → RepD c B d v) ∧ (∀ k ds, w.shal = some (k, ds) → ∃ a vs, v = .ref a ∧ k.fits ds.length ∧ k.rd c H a vs ∧ RepDs c B ds vs)
theorem OV.fl {d : D} {v : V} (s : Same B H) (r : RepD c B d v) : OV c B H (.fl d) v := by
  refine ⟨RepD.mono s r, fun d' e => ?_, fun k ds e => ?_⟩
  · rw [← W.fl.inj e]
    exact r
  · cases d with
    | nd k' cs =>
      have e' : (some (k', cs) : Option (Kd × List D)) = some (k, ds) := e
      injection e' with e'
      injection e' with e1 e2
      subst e1
      subst e2
      obtain ⟨a, vs, h1, h2, h3, h4⟩ := r
      exact ⟨a, vs, h1, h2, Kd.rd_mono s h3, h4⟩
    | _ => cases e
theorem fl_reps : ∀ {cs : List A}, okL c B cs → (cs.map A.er).all W.isFl = true → RepDs c B ((cs.map A.er).map W.unfl) (vals cs)
  | [], _, _ => rfl
  | x :: cs, ⟨h1, h2⟩, h => by
    have h' : (x.er.isFl && (cs.map A.er).all W.isFl) = true := h
    obtain ⟨a1, a2⟩ := Bool.and_eq_true_iff.mp h'
    cases x with
    | fl v d => exact ⟨v, vals cs, rfl, h1, fl_reps h2 a2⟩
    | nd a dx k ys =>
      rw [A.er_nd] at a1
      cases a1
theorem PAt.ov {q : Nat × List Nat} {v : V} {w : W} (g : G c n B H (live as ++ T)) (h : PAt c B as q v w) : OV c B H w v := by
  obtain ⟨x, h1, h2⟩ := h
  have hxm : x ∈ live as ++ T := List.mem_append_left _ (live_mem h1)
  cases w with
  | fl d => exact OV.fl g.sub (A.at_rep (g.lf x hxm) h2)
  | nd k ws =>
    obtain ⟨a, dx, cs, s1, s2, s3⟩ := A.at_sub h2
    have hno := A.sub_ok (g.lf x hxm) s1
    have hh : ∀ p ∈ (A.nd a dx k cs).objs c, H p.1 = some p.2 := fun p hp => (g.hold p (mem_objsL hxm (sub_objs s1 p hp))).1
    have vw := A.view (x := .nd a dx k cs) hno g.sub hh
    have e1 : (A.nd a dx k cs).er = .nd k ws := by rw [A.er_nd, s2]
    rw [e1] at vw
    have vw2 : RepD c H (W.nd k ws).dat v := by
      rw [s3]
      exact vw
    have nofl : ∀ d : D, W.nd k ws = W.fl d → RepD c B d v := fun d e => W.noConfusion e
    refine And.intro vw2 (And.intro nofl fun k' ds e => ?_)
    have e' : (if ws.all W.isFl then some (k, ws.map W.unfl) else none) = some (k', ds) := e
    by_cases ha : ws.all W.isFl = true
    · rw [if_pos ha] at e'
      injection e' with e'
      injection e' with e2 e3
      subst e2
      subst e3
      refine ⟨a, vals cs, s3, ?_, Kd.rd_of (dx := dx) (hh (a, k.ho c dx (vals cs)) List.mem_cons_self), ?_⟩
      · rw [← s2, List.length_map, List.length_map]
        exact hno.1
      · rw [← s2]
        exact fl_reps hno.2 (by rw [s2]; exact ha)
    · rw [if_neg ha] at e'
      cases e'
end
end Vx
end

section
set_option maxHeartbeats 4000000
/-! Vx 6: operators: what the rules of the hand layer give. -/
namespace Vx
open PySem L2 PyProof.Rows
def OVs (c : Gx) (B H : Hp) : List W → List V → Prop
  | [], vs => vs = []
  | w :: ws, vs => ∃ v vr, vs = v :: vr ∧ OV c B H w v ∧ OVs c B H ws vr
/-- what follows a result -/
def Fin (c : Gx) (B H : Hp) (w : W) (Q : VK) : Prop := match w with
  | .fl d => ∀ v, RepD c B d v → Q v H
  | .nd k cs => ∀ p vs, H p = none → (k = .lst ∨ k = .tup) → cs.all W.isFl = true → k.fits vs.length → RepDs c B (cs.map W.unfl) vs → Q (.ref p) (upd H p (k.ho c 0 vs))
/-- the reading of an operator -/
def rS (c : Gx) (o : Rop) : List V → Hp → VK → Prop := fun vs H Q => ∃ ws w B, Same B H ∧ OVs c B H ws vs ∧ o.run ws = some w ∧ Fin c B H w Q

section
variable {c : Gx} {B H : Hp} {vs : List V} {ws : List W} {w : W}
theorem OV.int {i : Int} {v : V} (h : OV c B H (.fl (.int i)) v) : v = .int i := h.1
theorem OV.str {i : Str} {v : V} (h : OV c B H (.fl (.str i)) v) : v = .str i := h.1
theorem OV.bl {i : Bool} {v : V} (h : OV c B H (.fl (.bl i)) v) : v = .bl i := h.1
theorem int?_inv {x : W} {i : Int} (h : x.int? = some i) : x = .fl (.int i) := by
  cases x with
  | fl d => cases d with
    | int j =>
      have e : j = i := Option.some.inj h
      rw [e]
    | _ => cases h
  | nd k cs => cases h
theorem str?_inv {x : W} {i : Str} (h : x.str? = some i) : x = .fl (.str i) := by
  cases x with
  | fl d => cases d with
    | str j =>
      have e : j = i := Option.some.inj h
      rw [e]
    | _ => cases h
  | nd k cs => cases h
theorem bl?_inv {x : W} {i : Bool} (h : x.bl? = some i) : x = .fl (.bl i) := by
  cases x with
  | fl d => cases d with
    | bl j =>
      have e : j = i := Option.some.inj h
      rw [e]
    | _ => cases h
  | nd k cs => cases h
theorem on1_inv {f : W → Option W} (h : on1 f ws = some w) : ∃ x, ws = [x] ∧ f x = some w := by
  match ws, h with
  | [x], h => exact ⟨x, rfl, h⟩
theorem on2_inv {f : W → W → Option W} (h : on2 f ws = some w) : ∃ x y, ws = [x, y] ∧ f x y = some w := by
  match ws, h with
  | [x, y], h => exact ⟨x, y, rfl, h⟩
theorem on3_inv {f : W → W → W → Option W} (h : on3 f ws = some w) : ∃ x y z, ws = [x, y, z] ∧ f x y z = some w := by
  match ws, h with
  | [x, y, z], h => exact ⟨x, y, z, rfl, h⟩
theorem on2I_inv {f : Int → Int → Option W} (h : on2I f ws = some w) : ∃ i j, ws = [.fl (.int i), .fl (.int j)] ∧ f i j = some w := by
  unfold on2I at h
  split at h
  · exact ⟨_, _, rfl, h⟩
  · cases h
theorem OVs.one {x : W} (h : OVs c B H [x] vs) : ∃ v, vs = [v] ∧ OV c B H x v := by
  obtain ⟨v, vr, e, h1, h2⟩ := h
  have e2 : vr = [] := h2
  subst e2
  exact ⟨v, e, h1⟩
theorem OVs.two {x y : W} (h : OVs c B H [x, y] vs) : ∃ v u, vs = [v, u] ∧ OV c B H x v ∧ OV c B H y u := by
  obtain ⟨v, vr, e, h1, h2⟩ := h
  obtain ⟨u, e2, h3⟩ := OVs.one h2
  subst e2
  exact ⟨v, u, e, h1, h3⟩
theorem OVs.three {x y z : W} (h : OVs c B H [x, y, z] vs) : ∃ v u t, vs = [v, u, t] ∧ OV c B H x v ∧ OV c B H y u ∧ OV c B H z t := by
  obtain ⟨v, vr, e, h1, h2⟩ := h
  obtain ⟨u, t, e2, h3, h4⟩ := OVs.two h2
  subst e2
  exact ⟨v, u, t, e, h1, h3, h4⟩
theorem pI_fin {i : Int} {Q : VK} (e : pI i = some w) (q : Fin c B H w Q) : Q (.int i) H := by
  have e' : W.fl (.int i) = w := Option.some.inj e
  subst e'
  exact q _ rfl
theorem pB_fin {i : Bool} {Q : VK} (e : pB i = some w) (q : Fin c B H w Q) : Q (.bl i) H := by
  have e' : W.fl (.bl i) = w := Option.some.inj e
  subst e'
  exact q _ rfl
theorem map_fl (ds : List D) : (ds.map W.fl).all W.isFl = true ∧ (ds.map W.fl).map W.unfl = ds := by
  constructor
  · simp [W.isFl]
  · rw [List.map_map]
    refine (List.map_congr_left (g := id) fun d _ => rfl).trans (List.map_id _)
theorem newL_fin {ds : List D} {us : List V} {Q : VK} (e : some (newL ds) = some w) (q : Fin c B H w Q) (r : RepDs c B ds us) {p : Addr} (hp : H p = none) : Q (.ref p) (upd H p (.lst us)) := by
  have e' : newL ds = w := Option.some.inj e
  subst e'
  have q' : ∀ p vs, H p = none → (Kd.lst = .lst ∨ Kd.lst = .tup) → (ds.map W.fl).all W.isFl = true → Kd.fits vs.length .lst → RepDs c B ((ds.map W.fl).map W.unfl) vs → Q (.ref p) (upd H p (.lst vs)) := q
  exact q' p us hp (.inl rfl) (map_fl ds).1 trivial (by rw [(map_fl ds).2]; exact r)
theorem newT_fin {ds : List D} {us : List V} {Q : VK} (e : some (newT ds) = some w) (q : Fin c B H w Q) (r : RepDs c B ds us) {p : Addr} (hp : H p = none) : Q (.ref p) (upd H p (.tup us)) := by
  have e' : newT ds = w := Option.some.inj e
  subst e'
  have q' : ∀ p vs, H p = none → (Kd.tup = .lst ∨ Kd.tup = .tup) → (ds.map W.fl).all W.isFl = true → Kd.fits vs.length .tup → RepDs c B ((ds.map W.fl).map W.unfl) vs → Q (.ref p) (upd H p (.tup vs)) := q
  exact q' p us hp (.inr rfl) (map_fl ds).1 trivial (by rw [(map_fl ds).2]; exact r)
theorem lstD_inv {x : W} {ds : List D} (h : x.lstD = some ds) : x.shal = some (.lst, ds) := by
  unfold W.lstD at h
  split at h
  · rename_i ds' e
    have : ds' = ds := Option.some.inj h
    rw [e, this]
  · cases h
theorem tupD_inv {x : W} {ds : List D} (h : x.tupD = some ds) : x.shal = some (.tup, ds) := by
  unfold W.tupD at h
  split at h
  · rename_i ds' e
    have : ds' = ds := Option.some.inj h
    rw [e, this]
  · cases h
theorem seqD_inv {x : W} {ds : List D} (h : x.seqD = some ds) : x.shal = some (.lst, ds) ∨ x.shal = some (.tup, ds) := by
  unfold W.seqD at h
  split at h
  · rename_i ds' e
    have : ds' = ds := Option.some.inj h
    rw [e, this]
    exact .inl rfl
  · rename_i ds' e
    have : ds' = ds := Option.some.inj h
    rw [e, this]
    exact .inr rfl
  · cases h
theorem OV.lst {x : W} {ds : List D} {v : V} (h : OV c B H x v) (e : x.lstD = some ds) : ∃ a us, v = .ref a ∧ H a = some (.lst us) ∧ RepDs c B ds us := by
  obtain ⟨a, us, e1, _, e2, e3⟩ := h.2.2 _ _ (lstD_inv e)
  exact ⟨a, us, e1, e2, e3⟩
theorem OV.tup {x : W} {ds : List D} {v : V} (h : OV c B H x v) (e : x.tupD = some ds) : ∃ a us, v = .ref a ∧ H a = some (.tup us) ∧ RepDs c B ds us := by
  obtain ⟨a, us, e1, _, e2, e3⟩ := h.2.2 _ _ (tupD_inv e)
  exact ⟨a, us, e1, e2, e3⟩
theorem OV.seq {x : W} {ds : List D} {v : V} (h : OV c B H x v) (e : x.seqD = some ds) : ∃ a us, v = .ref a ∧ (H a = some (.lst us) ∨ H a = some (.tup us)) ∧ RepDs c B ds us := by
  rcases seqD_inv e with e | e
  · obtain ⟨a, us, e1, _, e2, e3⟩ := h.2.2 _ _ e
    exact ⟨a, us, e1, .inl e2, e3⟩
  · obtain ⟨a, us, e1, _, e2, e3⟩ := h.2.2 _ _ e
    exact ⟨a, us, e1, .inr e2, e3⟩
theorem small_le {n : Nat} (h : small n = true) : n ≤ 100000 := of_decide_eq_true h
theorem small_sz {n : Nat} (h : small n = true) : n ≤ sizeLine := Nat.le_trans (small_le h) (by decide)
theorem small_lt {n : Nat} (h : small n = true) : n < sizeLine := Nat.lt_of_le_of_lt (small_le h) (by decide)
theorem bindI {α : Type} {x : Option α} {f : α → Option W} (h : x.bind f = some w) : ∃ a, x = some a ∧ f a = some w := Option.bind_eq_some_iff.mp h

/-! lists of ints, texts, bools -/
theorem reps_ints : ∀ {ds : List D} {ns : List Int} {us : List V}, dInts ds = some ns → RepDs c B ds us → us = ns.map V.int
  | [], ns, us, h, r => by
    have e : [] = ns := Option.some.inj h
    subst e
    exact r
  | .int i :: ds, ns, us, h, ⟨v, vr, e, r1, r2⟩ => by
    have h' : (dInts ds).map (i :: ·) = some ns := h
    obtain ⟨ms, e1, e2⟩ := Option.map_eq_some_iff.mp h'
    have e3 : v = .int i := r1
    rw [e, e3, ← e2, reps_ints e1 r2]
    rfl
  | .non :: _, _, _, h, _ => by cases h
  | .bl _ :: _, _, _, h, _ => by cases h
  | .str _ :: _, _, _, h, _ => by cases h
  | .nd _ _ :: _, _, _, h, _ => by cases h
theorem reps_strs : ∀ {ds : List D} {ns : List Str} {us : List V}, dStrs ds = some ns → RepDs c B ds us → us = ns.map V.str
  | [], ns, us, h, r => by
    have e : [] = ns := Option.some.inj h
    subst e
    exact r
  | .str i :: ds, ns, us, h, ⟨v, vr, e, r1, r2⟩ => by
    have h' : (dStrs ds).map (i :: ·) = some ns := h
    obtain ⟨ms, e1, e2⟩ := Option.map_eq_some_iff.mp h'
    have e3 : v = .str i := r1
    rw [e, e3, ← e2, reps_strs e1 r2]
    rfl
  | .non :: _, _, _, h, _ => by cases h
  | .bl _ :: _, _, _, h, _ => by cases h
  | .int _ :: _, _, _, h, _ => by cases h
  | .nd _ _ :: _, _, _, h, _ => by cases h
theorem reps_bls : ∀ {ds : List D} {ns : List Bool} {us : List V}, dBls ds = some ns → RepDs c B ds us → us = ns.map V.bl
  | [], ns, us, h, r => by
    have e : [] = ns := Option.some.inj h
    subst e
    exact r
  | .bl i :: ds, ns, us, h, ⟨v, vr, e, r1, r2⟩ => by
    have h' : (dBls ds).map (i :: ·) = some ns := h
    obtain ⟨ms, e1, e2⟩ := Option.map_eq_some_iff.mp h'
    have e3 : v = .bl i := r1
    rw [e, e3, ← e2, reps_bls e1 r2]
    rfl
  | .non :: _, _, _, h, _ => by cases h
  | .str _ :: _, _, _, h, _ => by cases h
  | .int _ :: _, _, _, h, _ => by cases h
  | .nd _ _ :: _, _, _, h, _ => by cases h
theorem foldl_min_le : ∀ (xs : List Int) (x : Int), xs.foldl min x ≤ x ∧ ∀ y ∈ xs, xs.foldl min x ≤ y
  | [], x => ⟨Int.le_refl _, fun y hy => by cases hy⟩
  | z :: xs, x => by
    obtain ⟨h1, h2⟩ := foldl_min_le xs (min x z)
    refine ⟨Int.le_trans h1 (Int.min_le_left _ _), fun y hy => ?_⟩
    rcases List.mem_cons.mp hy with e | hy
    · rw [e]
      exact Int.le_trans h1 (Int.min_le_right _ _)
    · exact h2 y hy
theorem foldl_min_mem : ∀ (xs : List Int) (x : Int), xs.foldl min x = x ∨ xs.foldl min x ∈ xs
  | [], x => .inl rfl
  | z :: xs, x => by
    rcases foldl_min_mem xs (min x z) with h | h
    · rcases (by omega : min x z = x ∨ min x z = z) with e | e
      · exact .inl (h.trans e)
      · exact .inr (List.mem_cons.mpr (.inl (h.trans e)))
    · exact .inr (List.mem_cons_of_mem _ h)
theorem foldl_max_le : ∀ (xs : List Int) (x : Int), x ≤ xs.foldl max x ∧ ∀ y ∈ xs, y ≤ xs.foldl max x
  | [], x => ⟨Int.le_refl _, fun y hy => by cases hy⟩
  | z :: xs, x => by
    obtain ⟨h1, h2⟩ := foldl_max_le xs (max x z)
    refine ⟨Int.le_trans (Int.le_max_left _ _) h1, fun y hy => ?_⟩
    rcases List.mem_cons.mp hy with e | hy
    · rw [e]
      exact Int.le_trans (Int.le_max_right _ _) h1
    · exact h2 y hy
theorem foldl_max_mem : ∀ (xs : List Int) (x : Int), xs.foldl max x = x ∨ xs.foldl max x ∈ xs
  | [], x => .inl rfl
  | z :: xs, x => by
    rcases foldl_max_mem xs (max x z) with h | h
    · rcases (by omega : max x z = x ∨ max x z = z) with e | e
      · exact .inl (h.trans e)
      · exact .inr (List.mem_cons.mpr (.inl (h.trans e)))
    · exact .inr (List.mem_cons_of_mem _ h)
theorem leastI_eq {ns : List Int} {n m : Int} (h : leastI ns = some n) (hm : m ∈ ns) (hl : ∀ y, y ∈ ns → m ≤ y) : m = n := by
  cases ns with
  | nil => cases h
  | cons x xs =>
    have e : xs.foldl min x = n := Option.some.inj h
    obtain ⟨h1, h2⟩ := foldl_min_le xs x
    have a : n ≤ m := by
      rcases List.mem_cons.mp hm with q | q
      · rw [q, ← e]
        exact h1
      · rw [← e]
        exact h2 m q
    have b : m ≤ n := by
      rcases foldl_min_mem xs x with q | q
      · rw [← e, q]
        exact hl x List.mem_cons_self
      · rw [← e]
        exact hl _ (List.mem_cons_of_mem _ q)
    omega
theorem mostI_eq {ns : List Int} {n m : Int} (h : mostI ns = some n) (hm : m ∈ ns) (hl : ∀ y, y ∈ ns → y ≤ m) : m = n := by
  cases ns with
  | nil => cases h
  | cons x xs =>
    have e : xs.foldl max x = n := Option.some.inj h
    obtain ⟨h1, h2⟩ := foldl_max_le xs x
    have a : m ≤ n := by
      rcases List.mem_cons.mp hm with q | q
      · rw [q, ← e]
        exact h1
      · rw [← e]
        exact h2 m q
    have b : n ≤ m := by
      rcases foldl_max_mem xs x with q | q
      · rw [← e, q]
        exact hl x List.mem_cons_self
      · rw [← e]
        exact hl _ (List.mem_cons_of_mem _ q)
    omega
/-! == of data -/
mutual
theorem RepD.dp : ∀ {d : D} {p : PyData} {v : V}, d.py = some p → RepD c H d v → Dp c.K H v p
  | .non, p, v, h, r => by
    have e : PyData.none = p := Option.some.inj h
    have e2 : v = .non := r
    rw [← e, e2]
    exact .non
  | .bl b, p, v, h, r => by
    have e : PyData.bool b = p := Option.some.inj h
    have e2 : v = .bl b := r
    rw [← e, e2]
    exact .bl b
  | .int b, p, v, h, r => by
    have e : PyData.int b = p := Option.some.inj h
    have e2 : v = .int b := r
    rw [← e, e2]
    exact .int b
  | .str b, p, v, h, r => by
    have e : PyData.str b = p := Option.some.inj h
    have e2 : v = .str b := r
    rw [← e, e2]
    exact .str b
  | .nd .lst cs, p, v, h, ⟨a, vs, e1, _, e2, e3⟩ => by
    have h' : (D.pys cs).map PyData.list = some p := h
    obtain ⟨ps, q1, q2⟩ := Option.map_eq_some_iff.mp h'
    rw [e1, ← q2]
    exact .lst (.inl (.inl e2)) (RepDs.dp q1 e3)
  | .nd .tup cs, p, v, h, ⟨a, vs, e1, _, e2, e3⟩ => by
    have h' : (D.pys cs).map PyData.tuple = some p := h
    obtain ⟨ps, q1, q2⟩ := Option.map_eq_some_iff.mp h'
    rw [e1, ← q2]
    exact .tup (.inl (.inl e2)) (RepDs.dp q1 e3)
  | .nd (.dK _) _, _, _, h, _ => by cases h
  | .nd (.dT _) _, _, _, h, _ => by cases h
  | .nd (.ins _ _) _, _, _, h, _ => by cases h
theorem RepDs.dp : ∀ {ds : List D} {ps : List PyData} {vs : List V}, D.pys ds = some ps → RepDs c H ds vs → DpAll c.K H vs ps
  | [], ps, vs, h, r => by
    have e : [] = ps := Option.some.inj h
    have e2 : vs = [] := r
    rw [← e, e2]
    exact .nil
  | d :: ds, ps, vs, h, ⟨v, vr, e, r1, r2⟩ => by
    have h' : (match d.py, D.pys ds with
      | some p, some q => some (p :: q)
      | _, _ => none) = some ps := h
    cases h1 : d.py with
    | none =>
      rw [h1] at h'
      cases h'
    | some p =>
      cases h2 : D.pys ds with
      | none =>
        rw [h1, h2] at h'
        cases h'
      | some q =>
        rw [h1, h2] at h'
        have e2 : p :: q = ps := Option.some.inj h'
        rw [e, ← e2]
        exact .cons (RepD.dp h1 r1) (RepDs.dp h2 r2)
end
theorem flat_rep {d : D} {v : V} (hf : d.flat = true) (r : RepD c H d v) : v = d.v := by
  cases d with
  | nd k cs => cases hf
  | _ => exact r
theorem flat?_inv {x : W} {d : D} (h : x.flat? = some d) : x = .fl d ∧ d.flat = true := by
  cases x with
  | fl e => cases e with
    | nd k cs => cases h
    | _ =>
      have e2 := Option.some.inj h
      subst e2
      exact ⟨rfl, rfl⟩
  | nd k cs => cases h
theorem OV.flat {x : W} {d : D} {v : V} (h : OV c B H x v) (e : x.flat? = some d) : v = d.v := by
  obtain ⟨e1, e2⟩ := flat?_inv e
  subst e1
  exact flat_rep e2 h.1
theorem OV.isNon {x : W} {v : V} (h : OV c B H x v) : decide (v = .non) = x.isNon := by
  cases x with
  | nd k cs =>
    obtain ⟨a, vs, e, _⟩ := h.1
    rw [e]
    rfl
  | fl d =>
    have r := h.1
    cases d with
    | non =>
      have e : v = .non := r
      rw [e]
      rfl
    | bl b =>
      have e : v = .bl b := r
      rw [e]
      rfl
    | int b =>
      have e : v = .int b := r
      rw [e]
      rfl
    | str b =>
      have e : v = .str b := r
      rw [e]
      rfl
    | nd k cs =>
      obtain ⟨a, vs, e, _⟩ := r
      rw [e]
      rfl
theorem reps_flat : ∀ {ds : List D} {us : List V}, (ds.all fun d => d.flat && flatV d.v) = true → RepDs c B ds us → us = ds.map D.v ∧ us.all flatV = true
  | [], us, _, r => by
    have e : us = [] := r
    rw [e]
    exact ⟨rfl, rfl⟩
  | d :: ds, us, h, ⟨v, vr, e, r1, r2⟩ => by
    have h' : ((d.flat && flatV d.v) && ds.all fun d => d.flat && flatV d.v) = true := h
    obtain ⟨a1, a2⟩ := Bool.and_eq_true_iff.mp h'
    obtain ⟨a3, a4⟩ := Bool.and_eq_true_iff.mp a1
    obtain ⟨q1, q2⟩ := reps_flat a2 r2
    have e2 := flat_rep a3 r1
    rw [e, e2]
    refine ⟨by rw [q1]; rfl, ?_⟩
    show (flatV d.v && vr.all flatV) = true
    rw [a4, q2]
    rfl
end
end Vx
end

section
set_option maxHeartbeats 4000000
/-! Vx 7: the operators' texts and their rules. -/
namespace Vx
open PySem L2 PyProof.Rows
/-- an expression of a form that may stand anywhere -/
def okE : Expr → Bool
  | .BoolOp _ _ _ => true
  | .BinOp _ _ _ _ => true
  | .UnaryOp _ _ _ => true
  | .IfExp _ _ _ _ => true
  | .Dict _ _ _ => true
  | .ListComp _ _ _ _ => true
  | .Compare _ _ _ _ => true
  | .Call _ _ _ _ => true
  | .Constant _ _ _ => true
  | .Attribute _ _ _ => true
  | .Subscript _ _ _ => true
  | .Name _ _ => true
  | .List _ _ => true
  | .Tuple _ _ _ => true
  | _ => false
/-- .. not a bare call f() (super()) -/
def okO : Expr → Bool
  | .Name _ _ => true
  | .Attribute _ _ _ => true
  | .Subscript _ _ _ => true
  | .Constant _ _ _ => true
  | _ => false
theorem star_ok {e : Expr} {es : List Expr} {env : PySem.Env} (h : okE e = true) : starEach (e :: es) env = (false, eval e env) :: starEach es env := by
  cases e <;> first | rfl | cases h
theorem star_any : ∀ {es : List Expr} {pos : Pos} {env : PySem.Env}, es.all okE = true → (backTo pos (starEach es env)).any (·.1) = false
  | [], _, _, _ => rfl
  | e :: es, pos, env, h => by
    have h' : (okE e && es.all okE) = true := h
    obtain ⟨h1, h2⟩ := Bool.and_eq_true_iff.mp h'
    rw [star_ok h1]
    show (false || (backTo pos (starEach es env)).any (·.1)) = false
    rw [star_any h2]
    rfl
theorem mark_ok {op : CmpOp} {e : Expr} (h : okE e = true) : behindInMarks op e = false := by
  cases e <;> first | rfl | cases h
theorem base_ok {o : Expr} {a : Str} {env : PySem.Env} (h : okO o = true) : attributeBase o a env (eval o env) = eval o env := by
  cases o <;> first | rfl | cases h
theorem fold_ok {e : Expr} {env : PySem.Env} (h : okE e = true) (x : Value) : foldedSetIterable e env x = pure x := by
  cases e <;> first | rfl | cases h
theorem ixT_ok {e : Expr} (h : okE e = true) : PlainIxT e := by
  cases e <;> first | (intro _ _; rfl) | cases h
theorem ix_ok {e : Expr} (h : okE e = true) : PlainIx e := by
  cases e <;> first | (intro _ _; rfl) | cases h
theorem noSl_ok {e : Expr} (h : okE e = true) : NoSl e := by
  cases e <;> first | (intro _ _; rfl) | cases h
/-- a plain value's test -/
def okT : Expr → Bool
  | .Call _ _ _ _ => true
  | .Constant _ _ _ => true
  | .Attribute _ _ _ => true
  | .Subscript _ _ _ => true
  | .Name _ _ => true
  | _ => false
theorem test_ok {e : Expr} {env : PySem.Env} (h : okT e = true) : ∀ whole, isTrue e env whole = (do let v ← whole; standAt e.pos; holding [v] (truthy v)) := by
  cases e <;> first | (intro _; rfl) | cases h
/-- no comprehension -/
def noLc : Expr → Bool
  | .ListComp _ _ _ _ => false
  | _ => true
theorem sw_ok {e : Expr} {t : Option Expr} {l : Nat} {env : PySem.Env} (h : okE e = true) (h2 : noLc e = true) : swapsWith e t l env = pure false := by
  cases e <;> first | rfl | (cases h; done) | (cases h2; done)
def noTup : Expr → Bool
  | .Tuple _ _ _ => false
  | _ => true
theorem sws_ok {e : Expr} {ts : List Expr} {env : PySem.Env} (h : noTup e = true) : swappedStores ts e env = pure none := by
  unfold swappedStores
  cases e <;> first | (cases h; done) | (cases ts with
    | nil => rfl
    | cons t r => cases r with
      | nil => cases t <;> rfl
      | cons t2 r2 => cases t <;> rfl)

/-- a global def: its name, its number, the places of its in-outs -/
structure Fn where
  name : Str
  id : Nat
  io : List Nat
  ar : Nat
/-- what stands of a def's text -/
structure Ck where
  N : List Str
  sc : Scope
  fns : List Fn
  /-- the module's constants -/
  cons : List (Str × D)
  /-- may cells be bound here -/
  cel : Bool := true
def Ck.bi (k : Ck) (x : Str) : Bool := decide (k.sc.names.lookup x = some .globalImplicit)

/-- built-in names that the text leaves alone -/
def bNames : List Str := ["len", "int", "min", "max", "sum", "all", "any", "list", "tuple", "sorted", "isinstance", "range", "zip", "enumerate", "str", "bool", "dict", "set"]

def call1 (k : Ck) (f : Str) : Expr → Option (List Expr)
  | .Call (.Name x _) [a] [] _ => if x = f ∧ k.bi f = true ∧ okE a = true then some [a] else none
  | _ => none
def call2 (k : Ck) (f : Str) : Expr → Option (List Expr)
  | .Call (.Name x _) [a, b] [] _ => if x = f ∧ k.bi f = true ∧ okE a = true ∧ okE b = true then some [a, b] else none
  | _ => none
def bin2 (o : Operator) : Expr → Option (List Expr)
  | .BinOp a p b _ => if p = o then some [a, b] else none
  | _ => none
def cmp2 (o : CmpOp) : Expr → Option (List Expr)
  | .Compare a [p] [b] _ => if p = o ∧ okE b = true then some [a, b] else none
  | _ => none
def sl1 (lo hi : Bool) : Expr → Option (List Expr)
  | .Subscript a (.Slice none none none _) _ => if lo = false ∧ hi = false then some [a] else none
  | .Subscript a (.Slice (some l) none none _) _ => if lo = true ∧ hi = false then some [a, l] else none
  | .Subscript a (.Slice none (some h) none _) _ => if lo = false ∧ hi = true then some [a, h] else none
  | _ => none
def neg1 : Expr → Option (List Expr)
  | .UnaryOp .USub a _ => some [a]
  | _ => none
def ix2 : Expr → Option (List Expr)
  | .Subscript a b _ => if okE b = true then some [a, b] else none
  | _ => none
def join1 (z : Str) : Expr → Option (List Expr)
  | .Call (.Attribute (.Constant (.str y) _ _) m apos) [a] [] pos => if y = z ∧ m = "join" ∧ okE a = true ∧ (apos.endLine == pos.line) = true then some [a] else none
  | _ => none
def isTy (t : String) : Bool := t == "int" || t == "bool" || t == "str" || t == "list" || t == "tuple" || t == "dict"
def isi1 (k : Ck) (t : String) : Expr → Option (List Expr)
  | .Call (.Name x _) [a, .Name y _] [] _ => if x = "isinstance" ∧ k.bi "isinstance" = true ∧ y = Str.ofString t ∧ k.bi y = true ∧ okE a = true ∧ isTy t = true then some [a] else none
  | _ => none
/-- the operands of an operator's text -/
def Rop.form (k : Ck) : Rop → Expr → Option (List Expr)
  | .add => bin2 .Add | .sub => bin2 .Sub | .mul => bin2 .Mult | .fdiv => bin2 .FloorDiv | .mod => bin2 .Mod | .pow => bin2 .Pow
  | .addS => bin2 .Add | .catL => bin2 .Add | .catT => bin2 .Add
  | .neg => neg1
  | .lt => cmp2 .Lt | .le => cmp2 .LtE | .gt => cmp2 .Gt | .ge => cmp2 .GtE | .eqF => cmp2 .Eq | .neF => cmp2 .NotEq | .eqD => cmp2 .Eq | .neD => cmp2 .NotEq
  | .isN => cmp2 .Is | .notN => cmp2 .IsNot | .ltD => fun _ => none
  | .inQ => cmp2 .In | .niQ => cmp2 .NotIn | .inS => cmp2 .In | .niS => cmp2 .NotIn | .inK => cmp2 .In | .niK => cmp2 .NotIn
  | .len => call1 k "len" | .intB => call1 k "int" | .min2 => call2 k "min" | .max2 => call2 k "max" | .sum => call1 k "sum" | .min1 => call1 k "min" | .max1 => call1 k "max"
  | .allB => call1 k "all" | .anyB => call1 k "any" | .listOf => call1 k "list" | .tupOf => call1 k "tuple" | .sorted => call1 k "sorted"
  | .slice lo hi => sl1 lo hi
  | .ixS => ix2
  | .join z => join1 z
  | .isI t => isi1 k t

/-- what a context must have -/
structure XOk (c : Gx) (k : Ck) (X : Cx) : Prop where
  hN : X.N = k.N
  nd : k.N.Nodup
  sc : X.env.scope = k.sc
  calm : X.calm = true
  K : X.K = c.K
  room : Room 0 X.A
  free : ∀ x ∈ bNames, X.mg x = none
  cel : k.cel = true → ∀ y, X.fn y = true
theorem XOk.gl {c : Gx} {k : Ck} {X : Cx} (x : XOk c k X) {f : Str} (h : k.bi f = true) : Gl X f := by
  show X.env.scope.names.lookup f = _
  rw [x.sc]
  exact of_decide_eq_true h

def PEs (X : Cx) : List Expr → List TE → Prop
  | [], ts => ts = []
  | e :: es, ts => ∃ t tr, ts = t :: tr ∧ PE X e t ∧ PEs X es tr
def tN : List TE → TA
  | [] => tNil
  | t :: ts => tCons t (tN ts)
theorem PEs.one {X : Cx} {a : Expr} {ts : List TE} (h : PEs X [a] ts) : ∃ t, ts = [t] ∧ PE X a t := by
  obtain ⟨t, tr, e, h1, h2⟩ := h
  have e2 : tr = [] := h2
  subst e2
  exact ⟨t, e, h1⟩
theorem PEs.two {X : Cx} {a b : Expr} {ts : List TE} (h : PEs X [a, b] ts) : ∃ t u, ts = [t, u] ∧ PE X a t ∧ PE X b u := by
  obtain ⟨t, tr, e, h1, h2⟩ := h
  obtain ⟨u, e2, h3⟩ := PEs.one h2
  subst e2
  exact ⟨t, u, e, h1, h3⟩
theorem PEs.three {X : Cx} {a b d : Expr} {ts : List TE} (h : PEs X [a, b, d] ts) : ∃ t u v, ts = [t, u, v] ∧ PE X a t ∧ PE X b u ∧ PE X d v := by
  obtain ⟨t, tr, e, h1, h2⟩ := h
  obtain ⟨u, v, e2, h3, h4⟩ := PEs.two h2
  subst e2
  exact ⟨t, u, v, e, h1, h3, h4⟩
theorem PEs.pa {X : Cx} : ∀ {es : List Expr} {ts : List TE}, es.all okE = true → PEs X es ts → PA X es (tN ts)
  | [], ts, _, h => by
    have e : ts = [] := h
    subst e
    exact pa_nil
  | e :: es, ts, ha, ⟨t, tr, e1, h1, h2⟩ => by
    have ha' : (okE e && es.all okE) = true := ha
    obtain ⟨a1, a2⟩ := Bool.and_eq_true_iff.mp ha'
    subst e1
    exact pa_cons h1 (PEs.pa a2 h2) (star_ok a1)

def isCmp : Expr → Bool
  | .Compare _ _ _ _ => true
  | _ => false
/-- an operator's rule -/
def RopOk (c : Gx) (X : Cx) (o : Rop) (e : Expr) (ts : List TE) : Prop :=
  ∃ (t : TE) (r : List V → Hp → VK → Prop), PE X e t ∧ (isCmp e = true → PT X e (tTest t)) ∧ (∀ σ H Q, tN ts σ H (fun vs H1 => r vs H1 Q) → t σ H Q) ∧ ∀ vs H Q, rS c o vs H Q → r vs H Q

section
variable {c : Gx} {k : Ck} {X : Cx} {e : Expr} {es : List Expr} {ts : List TE} {o : Rop}
theorem bin_ok {op : Operator} {r0 : R2} (ho : OpR X (binaryOp op) r0) (hf : bin2 op e = some es) (h : PEs X es ts) (k : ∀ x y H Q, rS c o [x, y] H Q → r0 x y H Q) (hl : ∀ ws w, o.run ws = some w → ∃ x y, ws = [x, y]) : RopOk c X o e ts := by
  unfold bin2 at hf
  split at hf
  · rename_i a p b pos
    split at hf
    · rename_i hp
      subst hp
      have e1 : [a, b] = es := Option.some.inj hf
      subst e1
      obtain ⟨t, u, e2, h1, h2⟩ := h.two
      subst e2
      refine ⟨tOp r0 t u, fun vs H Q => match vs with
        | [x, y] => r0 x y H Q
        | _ => False, pe_op ho h1 h2, (fun z => by cases z), fun σ H Q q => q, fun vs H Q q => ?_⟩
      obtain ⟨ws, w, B, s, ov, run, f⟩ := id q
      obtain ⟨x, y, ew⟩ := hl ws w run
      subst ew
      obtain ⟨v, u, ev, _, _⟩ := ov.two
      subst ev
      exact k v u H Q q
    · cases hf
  · cases hf
theorem cmp_ok {op : CmpOp} {r0 : R2} (ho : OpR X (compareOp op) r0) (hf : cmp2 op e = some es) (h : PEs X es ts) (k : ∀ x y H Q, rS c o [x, y] H Q → r0 x y H Q) (hl : ∀ ws w, o.run ws = some w → ∃ x y, ws = [x, y]) : RopOk c X o e ts := by
  unfold cmp2 at hf
  split at hf
  · rename_i a p b pos
    split at hf
    · rename_i hp
      obtain ⟨hp, ok⟩ := hp
      subst hp
      have e1 : [a, b] = es := Option.some.inj hf
      subst e1
      obtain ⟨t, u, e2, h1, h2⟩ := h.two
      subst e2
      refine ⟨tOp r0 t u, fun vs H Q => match vs with
        | [x, y] => r0 x y H Q
        | _ => False, pe_cmpR ho h1 h2 (mark_ok ok), (fun _ => pt_cmpR ho h1 h2 (mark_ok ok)), fun σ H Q q => q, fun vs H Q q => ?_⟩
      obtain ⟨ws, w, B, s, ov, run, f⟩ := id q
      obtain ⟨x, y, ew⟩ := hl ws w run
      subst ew
      obtain ⟨v, u, ev, _, _⟩ := ov.two
      subst ev
      exact k v u H Q q
    · cases hf
  · cases hf
theorem dict_ok {op : CmpOp} {q0 : Option V → Bool} (ho : ∀ {i d : Expr} {ty td : TE}, PE X i ty → PE X d td → PC X op i d (fun σ H Q => ty σ H fun y H1 => td σ H1 fun x H2 => ∃ a o, x = .ref a ∧ DGet H2 a y o ∧ Q (.bl (q0 o)) H2))
    (hf : cmp2 op e = some es) (h : PEs X es ts) (k : ∀ y x H Q, rS c o [y, x] H Q → ∃ a o, x = .ref a ∧ DGet H a y o ∧ Q (.bl (q0 o)) H) (hl : ∀ ws w, o.run ws = some w → ∃ x y, ws = [x, y]) : RopOk c X o e ts := by
  unfold cmp2 at hf
  split at hf
  · rename_i a p b pos
    split at hf
    · rename_i hp
      obtain ⟨hp, ok⟩ := hp
      subst hp
      have e1 : [a, b] = es := Option.some.inj hf
      subst e1
      obtain ⟨t, u, e2, h1, h2⟩ := h.two
      subst e2
      refine ⟨_, fun vs H Q => match vs with
        | [y, x] => ∃ a o, x = .ref a ∧ DGet H a y o ∧ Q (.bl (q0 o)) H
        | _ => False, pe_cmp (ho h1 h2) (mark_ok ok), (fun _ => pt_cmp (ho h1 h2) (mark_ok ok)), fun σ H Q q => q, fun vs H Q q => ?_⟩
      obtain ⟨ws, w, B, s, ov, run, f⟩ := id q
      obtain ⟨x, y, ew⟩ := hl ws w run
      subst ew
      obtain ⟨v, u, ev, _, _⟩ := ov.two
      subst ev
      exact k v u H Q q
    · cases hf
  · cases hf
theorem callB_ok {f : Str} {id : String} {r0 : List V → Hp → VK → Prop} (x : XOk c k X) (hc : CallR X (.builtin id) r0) (hb : f ∈ bNames) (hv : bootBuiltins f = some (.builtin id)) (hn : f ≠ "__name__") (hdb : (f == ("__debug__" : Str)) = false)
    (hf : call1 k f e = some es) (h : PEs X es ts) (kk : ∀ vs H Q, rS c o vs H Q → r0 vs H Q) : RopOk c X o e ts := by
  unfold call1 at hf
  split at hf
  · rename_i y p a pos
    split at hf
    · rename_i hp
      obtain ⟨hp, hg, ok⟩ := hp
      subst hp
      have e1 : [a] = es := Option.some.inj hf
      subst e1
      obtain ⟨t, e2, h1⟩ := h.one
      subst e2
      exact ⟨tCB r0 (tCons t tNil), r0, pe_callB hc (x.gl hg) (x.free _ hb) hv (pa_cons h1 pa_nil (star_ok ok)) hn hdb (star_ok ok) (star_any (es := []) rfl), (fun z => by cases z), fun σ H Q q => q, kk⟩
    · cases hf
  · cases hf
theorem callB2_ok {f : Str} {id : String} {r0 : List V → Hp → VK → Prop} (x : XOk c k X) (hc : CallR X (.builtin id) r0) (hb : f ∈ bNames) (hv : bootBuiltins f = some (.builtin id)) (hn : f ≠ "__name__") (hdb : (f == ("__debug__" : Str)) = false)
    (hf : call2 k f e = some es) (h : PEs X es ts) (kk : ∀ vs H Q, rS c o vs H Q → r0 vs H Q) : RopOk c X o e ts := by
  unfold call2 at hf
  split at hf
  · rename_i y p a b pos
    split at hf
    · rename_i hp
      obtain ⟨hp, hg, ok1, ok2⟩ := hp
      subst hp
      have e1 : [a, b] = es := Option.some.inj hf
      subst e1
      obtain ⟨t, u, e2, h1, h2⟩ := h.two
      subst e2
      exact ⟨tCB r0 (tCons t (tCons u tNil)), r0, pe_callB hc (x.gl hg) (x.free _ hb) hv (pa_cons h1 (pa_cons h2 pa_nil (star_ok ok2)) (star_ok ok1)) hn hdb (star_ok ok1) (star_any (es := [b]) (by simp [ok2])), (fun z => by cases z), fun σ H Q q => q, kk⟩
    · cases hf
  · cases hf
theorem callTy_ok {f : Str} {T : String} {r0 : List V → Hp → VK → Prop} (x : XOk c k X) (hc : CallR X (.type T) r0) (hb : f ∈ bNames) (hv : bootBuiltins f = some (.type T)) (hn : f ≠ "__name__") (hdb : (f == ("__debug__" : Str)) = false)
    (hf : call1 k f e = some es) (h : PEs X es ts) (kk : ∀ vs H Q, rS c o vs H Q → r0 vs H Q) : RopOk c X o e ts := by
  unfold call1 at hf
  split at hf
  · rename_i y p a pos
    split at hf
    · rename_i hp
      obtain ⟨hp, hg, ok⟩ := hp
      subst hp
      have e1 : [a] = es := Option.some.inj hf
      subst e1
      obtain ⟨t, e2, h1⟩ := h.one
      subst e2
      exact ⟨tCB r0 (tCons t tNil), r0, pe_callTy hc (x.gl hg) (x.free _ hb) hv (pa_cons h1 pa_nil (star_ok ok)) hn hdb (star_ok ok) (star_any (es := []) rfl), (fun z => by cases z), fun σ H Q q => q, kk⟩
    · cases hf
  · cases hf
end
end Vx
end

section
set_option maxHeartbeats 4000000
/-! Vx 8: each operator. -/
namespace Vx
open PySem L2
/-! ### sorted, of any data -/
theorem each_zip : ∀ {us : List Value} {vs : List V} {ds : List D}, Vals vs us → ds.length = vs.length → PySem.W.EachIs (fun (u : Value) (b : D × V) => RelV b.2 u) us (ds.zip vs)
  | [], [], [], .nil, _ => .nil
  | u :: us, v :: vs, d :: ds, .cons r t, l => .cons r (each_zip t (by simpa using l))
theorem each_reads {c : Gx} {X : Cx} {pins : List (Addr × Obj)} {σ : St} {H : Hp} {s : Shared} (hK : X.K = c.K) (I : Inv X pins σ H s) : ∀ {us : List Value} {vs : List V} {ds : List D}, Vals vs us → RepDs c H ds vs → (∀ d ∈ ds, d.py.isSome = true) →
    PySem.W.EachIs (fun (u : Value) (b : D × V) => ∃ as, Reads s.heap u (py0 b.1) as) us (ds.zip vs)
  | [], _, [], .nil, _, _ => .nil
  | [], _, _ :: _, .nil, ⟨_, _, e, _⟩, _ => by cases e
  | u :: us, v :: vs, [], _, r, _ => by
    have e : v :: vs = [] := r
    cases e
  | u :: us, v :: vs, d :: ds, .cons r t, ⟨v', vr, e, r1, r2⟩, h => by
    injection e with e1 e2
    subst e1
    subst e2
    obtain ⟨p, hp⟩ := Option.isSome_iff_exists.mp (h d List.mem_cons_self)
    have dp := RepD.dp hp r1
    rw [← hK] at dp
    have e3 : py0 d = p := by
      unfold py0
      rw [hp]
      rfl
    refine .cons ?_ (each_reads hK I t r2 fun d hd => h d (List.mem_cons_of_mem _ hd))
    show ∃ as, Reads s.heap u (py0 d) as
    rw [e3]
    exact dp.reads I _ _ _ r
theorem each_vals : ∀ {us : List Value} {bs : List (D × V)}, PySem.W.EachIs (fun (u : Value) (b : D × V) => RelV b.2 u) us bs → Vals (bs.map (·.2)) us
  | _, _, .nil => .nil
  | _, _, .cons r t => .cons r (each_vals t)
theorem zip_reps {c : Gx} {B : Hp} : ∀ {ds : List D} {vs : List V}, RepDs c B ds vs → ∀ b ∈ ds.zip vs, RepD c B b.1 b.2
  | [], vs, _, b, hb => by simp at hb
  | d :: ds, _, ⟨v, vr, e, r1, r2⟩, b, hb => by
    subst e
    rcases List.mem_cons.mp (show b ∈ (d, v) :: ds.zip vr from hb) with q | q
    · subst q
      exact r1
    · exact zip_reps r2 b q
theorem reps_of_zip {c : Gx} {B : Hp} : ∀ {bs : List (D × V)}, (∀ b ∈ bs, RepD c B b.1 b.2) → RepDs c B (bs.map (·.1)) (bs.map (·.2))
  | [], _ => rfl
  | b :: bs, h => ⟨b.2, _, rfl, h b List.mem_cons_self, reps_of_zip fun x hx => h x (List.mem_cons_of_mem _ hx)⟩
theorem zip_fst : ∀ {ds : List D} {vs : List V}, ds.length = vs.length → (ds.zip vs).map (·.1) = ds
  | [], [], _ => rfl
  | d :: ds, v :: vs, h => by
    show d :: (ds.zip vs).map (·.1) = d :: ds
    rw [zip_fst (by simpa using h)]
/-- sorted(xs): xs a list of ds that can be compared -/
def rSortD (c : Gx) : List V → Hp → VK → Prop := fun vs H Q => ∃ (a : Addr) (us : List V) (ds : List D) (B : Hp), vs = [.ref a] ∧ H a = some (.lst us) ∧ Same B H ∧ RepDs c B ds us ∧ canSort ds = true ∧
  ∀ p us', H p = none → RepDs c B (ds.mergeSort leD) us' → Q (.ref p) (upd H p (.lst us'))
theorem canSort_facts {ds : List D} (h : canSort ds = true) : (∀ d ∈ ds, d.py.isSome = true) ∧ (∀ d ∈ ds, (py0 d).depth ≤ 60) ∧ PySem.W.AllAlike (ds.map py0) ∧ PySem.W.Sortable (ds.map py0) := by
  unfold canSort at h
  obtain ⟨h12, h3⟩ := Bool.and_eq_true_iff.mp h
  obtain ⟨h1, h2⟩ := Bool.and_eq_true_iff.mp h12
  have a1 : ∀ d ∈ ds, d.py.isSome = true ∧ (py0 d).depth ≤ 60 := fun d hd => by
    have q := List.all_eq_true.mp h1 d hd
    obtain ⟨q1, q2⟩ := Bool.and_eq_true_iff.mp q
    exact ⟨q1, of_decide_eq_true q2⟩
  refine ⟨fun d hd => (a1 d hd).1, fun d hd => (a1 d hd).2, fun p hp q hq => ?_, ?_⟩
  · obtain ⟨d, hd, rfl⟩ := List.mem_map.mp hp
    obtain ⟨e, he, rfl⟩ := List.mem_map.mp hq
    exact List.all_eq_true.mp (List.all_eq_true.mp h2 d hd) e he
  · rcases Bool.or_eq_true_iff.mp h3 with h3 | h3
    · refine .inl fun p hp => ?_
      obtain ⟨d, hd, rfl⟩ := List.mem_map.mp hp
      have q := List.all_eq_true.mp h3 d hd
      obtain ⟨z, hz⟩ := Option.isSome_iff_exists.mp (a1 d hd).1
      have e0 : py0 d = z := by
        unfold py0
        rw [hz]
        rfl
      match d, q, hz with
      | .nd .tup (x :: r), _, hz =>
        have hz' : (D.pys (x :: r)).map PyData.tuple = some z := hz
        obtain ⟨ps, p1, p2⟩ := Option.map_eq_some_iff.mp hz'
        have p1' : (match x.py, D.pys r with
          | some p, some q => some (p :: q)
          | _, _ => none) = some ps := p1
        split at p1'
        · rename_i p q _ _
          have e1 : p :: q = ps := Option.some.inj p1'
          exact ⟨p, q, by rw [e0, ← p2, e1]⟩
        · cases p1'
    · refine .inr fun p hp => ?_
      obtain ⟨d, hd, rfl⟩ := List.mem_map.mp hp
      have q := List.all_eq_true.mp h3 d hd
      have s := (a1 d hd).1
      match d, q, s with
      | .bl b, _, _ => exact ⟨fun z => (by cases z), fun xs z => by cases z⟩
      | .int b, _, _ => exact ⟨fun z => (by cases z), fun xs z => by cases z⟩
      | .str b, _, _ => exact ⟨fun z => (by cases z), fun xs z => by cases z⟩
      | .nd .lst cs, _, s =>
        have s' : ((D.pys cs).map PyData.list).isSome = true := s
        obtain ⟨z, hz⟩ := Option.isSome_iff_exists.mp s'
        obtain ⟨ps, p1, p2⟩ := Option.map_eq_some_iff.mp hz
        have e0 : py0 (.nd .lst cs) = .list ps := by
          show (((D.pys cs).map PyData.list).getD PyData.none) = _
          rw [p1]
          rfl
        rw [e0]
        exact ⟨fun z => (by cases z), fun xs z => by cases z⟩
theorem call_sortD {c : Gx} {X : Cx} (hK : X.K = c.K) (hr : Room 0 X.A) : CallR X (.builtin "sorted") (rSortD c) := by
  intro pins s σ H xs us Q I r h
  obtain ⟨a, ys, ds, B, rfl, ha, sm, rp, cs, q⟩ := h
  obtain rfl := Vals.ref1 r
  obtain ⟨f1, f2, f3, f4⟩ := canSort_facts cs
  obtain ⟨hz, its, n, rv, ho⟩ : ys.length ≤ sizeLine ∧ ∃ (its : List Value) (n : Nat), Vals ys its ∧ s.heap.get? a = some { cls := .type "list", data := .seq its.toArray n } := I.hok a _ ha
  have ll : ds.length = ys.length := rp.len
  have e1 := each_zip rv ll
  have e2 := each_reads hK I rv (RepDs.mono sm rp) f1
  have em : (ds.zip ys).map (fun b : D × V => py0 b.1) = ds.map py0 := by
    rw [← zip_fst ll, List.map_map]
    rw [zip_fst ll]
    rfl
  refine PySem.W.sorted_data (vs := its) (bs := ds.zip ys) (enc := fun b : D × V => py0 b.1) (R := fun (u : Value) (b : D × V) => RelV b.2 u) ⟨_, ho, rfl, n, rfl⟩ e1 e2 (by rw [em]; exact f3) (by rw [em]; exact f4) (by rw [List.length_zip]; omega) (fun b hb => ?_) fun out hl ho2 => ?_
  · have hb1 : b.1 ∈ ds := (List.of_mem_zip (a := b.1) (b := b.2) hb).1
    have := f2 _ hb1
    have := hr.units
    show X.A.units + 2 + (py0 b.1).depth < cLine
    omega
  · have hv := each_vals ho2
    have hf := I.hok.fresh (Nat.le_succ s.heap.objs.size)
    have em2 : ((ds.zip ys).mergeSort (PySem.W.dataLe false fun b : D × V => py0 b.1)).map (·.1) = ds.mergeSort leD := by
      rw [PySem.W.sort_maps (r := PySem.W.dataLe false fun b : D × V => py0 b.1) (s := leD) (fun b : D × V => b.1) fun a _ b _ => rfl]
      rw [zip_fst ll]
    have rp2 : RepDs c B (ds.mergeSort leD) (((ds.zip ys).mergeSort (PySem.W.dataLe false fun b : D × V => py0 b.1)).map (·.2)) := by
      rw [← em2]
      exact reps_of_zip fun b hb => zip_reps rp b ((List.mergeSort_perm _ _).mem_iff.mp hb)
    refine ⟨.ref (s.heap.objs.size + 1), _, I.laid (t' := s.toks) (a := s.heap.objs.size + 1) (o := .lst (((ds.zip ys).mergeSort (PySem.W.dataLe false fun b : D × V => py0 b.1)).map (·.2))) (fun b u e => PyProof.Rows.sortedAll_old e) (Nat.le_succ _) ?_, rfl, q _ _ hf rp2⟩
    obtain ⟨e, he⟩ := PyProof.Rows.sortedAll_at s.heap its (List.toArray out)
    refine ⟨?_, out, e, hv, he⟩
    rw [List.length_map, List.length_mergeSort, List.length_zip]
    omega
end Vx
end

section
set_option maxHeartbeats 4000000
/-! Vx 9: each operator's rule. -/
namespace Vx
open PySem L2
section
variable {c : Gx} {k : Ck} {X : Cx} {e : Expr} {es : List Expr} {ts : List TE} {o : Rop}
theorem two_of2I {f : Int → Int → Option W} : ∀ ws w, on2I f ws = some w → ∃ x y, ws = [x, y] := fun ws w h => by
  obtain ⟨i, j, e, _⟩ := on2I_inv h
  exact ⟨_, _, e⟩
theorem two_of2 {f : W → W → Option W} : ∀ ws w, on2 f ws = some w → ∃ x y, ws = [x, y] := fun ws w h => by
  obtain ⟨i, j, e, _⟩ := on2_inv h
  exact ⟨_, _, e⟩
/-- two ints in -/
theorem rS_2I {f : Int → Int → Option W} {x y : V} {H : Hp} {Q : VK} (hr : o.run = on2I f) (h : rS c o [x, y] H Q) : ∃ i j w B, x = .int i ∧ y = .int j ∧ f i j = some w ∧ Fin c B H w Q := by
  obtain ⟨ws, w, B, s, ov, run, fin⟩ := h
  rw [hr] at run
  obtain ⟨i, j, e, hf⟩ := on2I_inv run
  subst e
  obtain ⟨v, u, ev, h1, h2⟩ := ov.two
  injection ev with e1 e2
  injection e2 with e2 _
  exact ⟨i, j, w, B, e1.trans h1.int, e2.trans h2.int, hf, fin⟩
theorem rS_1 {f : W → Option W} {vs : List V} {H : Hp} {Q : VK} (hr : o.run = on1 f) (h : rS c o vs H Q) : ∃ x v w B, vs = [v] ∧ Same B H ∧ OV c B H x v ∧ f x = some w ∧ Fin c B H w Q := by
  obtain ⟨ws, w, B, s, ov, run, fin⟩ := h
  rw [hr] at run
  obtain ⟨x, e, hf⟩ := on1_inv run
  subst e
  obtain ⟨v, ev, h1⟩ := ov.one
  exact ⟨x, v, w, B, ev, s, h1, hf, fin⟩
theorem rS_2 {f : W → W → Option W} {vs : List V} {H : Hp} {Q : VK} (hr : o.run = on2 f) (h : rS c o vs H Q) : ∃ x y v u w B, vs = [v, u] ∧ Same B H ∧ OV c B H x v ∧ OV c B H y u ∧ f x y = some w ∧ Fin c B H w Q := by
  obtain ⟨ws, w, B, s, ov, run, fin⟩ := h
  rw [hr] at run
  obtain ⟨x, y, e, hf⟩ := on2_inv run
  subst e
  obtain ⟨v, u, ev, h1, h2⟩ := ov.two
  exact ⟨x, y, v, u, w, B, ev, s, h1, h2, hf, fin⟩
theorem rS_3 {f : W → W → W → Option W} {vs : List V} {H : Hp} {Q : VK} (hr : o.run = on3 f) (h : rS c o vs H Q) : ∃ x y z v u t w B, vs = [v, u, t] ∧ Same B H ∧ OV c B H x v ∧ OV c B H y u ∧ OV c B H z t ∧ f x y z = some w ∧ Fin c B H w Q := by
  obtain ⟨ws, w, B, s, ov, run, fin⟩ := h
  rw [hr] at run
  obtain ⟨x, y, z, e, hf⟩ := on3_inv run
  subst e
  obtain ⟨v, u, t, ev, h1, h2, h3⟩ := ov.three
  exact ⟨x, y, z, v, u, t, w, B, ev, s, h1, h2, h3, hf, fin⟩
theorem r2_of {v u x y : V} (ev : [x, y] = [v, u]) : x = v ∧ y = u := by
  injection ev with e1 e2
  injection e2 with e2 _
  exact ⟨e1, e2⟩

theorem i0_ok {g : Int → Int → Int} {x y : V} {H : Hp} {Q : VK} (hr : o.run = on2I fun i j => pI (g i j)) (h : rS c o [x, y] H Q) : rI0 (fun i j => .int (g i j)) x y H Q := by
  obtain ⟨i, j, w, B, e1, e2, hf, fin⟩ := rS_2I hr h
  exact ⟨i, j, e1, e2, pI_fin hf fin⟩
theorem b0_ok {g : Int → Int → Bool} {x y : V} {H : Hp} {Q : VK} (hr : o.run = on2I fun i j => pB (g i j)) (h : rS c o [x, y] H Q) : rI0 (fun i j => .bl (g i j)) x y H Q := by
  obtain ⟨i, j, w, B, e1, e2, hf, fin⟩ := rS_2I hr h
  exact ⟨i, j, e1, e2, pB_fin hf fin⟩
theorem ic_ok {C C' : Int → Int → Prop} [∀ i j, Decidable (C' i j)] (hC : ∀ i j, C' i j → C i j) {g : Int → Int → Int} {x y : V} {H : Hp} {Q : VK} (hr : o.run = on2I fun i j => if C' i j then pI (g i j) else none) (h : rS c o [x, y] H Q) : rI C (fun i j => .int (g i j)) x y H Q := by
  obtain ⟨i, j, w, B, e1, e2, hf, fin⟩ := rS_2I hr h
  by_cases hc : C' i j
  · rw [if_pos hc] at hf
    exact ⟨i, j, e1, e2, hC i j hc, pI_fin hf fin⟩
  · rw [if_neg hc] at hf
    cases hf

theorem lstE {α : Type} {x : Option α} {f : α → Option W} {w : W} (h : x.bind f = some w) : ∃ a, x = some a ∧ f a = some w := Option.bind_eq_some_iff.mp h

theorem lenD_inv {x : W} {n : Int} (h : x.lenD = some n) : (∃ z : Str, x = .fl (.str z) ∧ z.length ≤ 100000 ∧ (z.length : Int) = n) ∨ (∃ ds : List D, x.dat = .nd .lst ds ∧ (ds.length : Int) = n) ∨ (∃ ds : List D, x.dat = .nd .tup ds ∧ (ds.length : Int) = n) ∨ ∃ (ks : List Key) (ds : List D), x.dat = .nd (.dK ks) ds ∧ (ds.length : Int) = n := by
  cases x with
  | fl d => cases d with
    | str z =>
      have h' : (if z.length ≤ 100000 then some (z.length : Int) else none) = some n := h
      split at h'
      · rename_i hz
        exact .inl ⟨z, rfl, hz, Option.some.inj h'⟩
      · cases h'
    | nd k ds => cases k with
      | lst => exact .inr (.inl ⟨ds, rfl, Option.some.inj h⟩)
      | tup => exact .inr (.inr (.inl ⟨ds, rfl, Option.some.inj h⟩))
      | dK ks => exact .inr (.inr (.inr ⟨ks, ds, rfl, Option.some.inj h⟩))
      | dT ks => cases h
      | ins i fs => cases h
    | _ => cases h
  | nd k cs => cases k with
    | lst => exact .inr (.inl ⟨cs.map W.dat, W.dat_nd _ _, by rw [List.length_map]; exact Option.some.inj h⟩)
    | tup => exact .inr (.inr (.inl ⟨cs.map W.dat, W.dat_nd _ _, by rw [List.length_map]; exact Option.some.inj h⟩))
    | dK ks => exact .inr (.inr (.inr ⟨ks, cs.map W.dat, W.dat_nd _ _, by rw [List.length_map]; exact Option.some.inj h⟩))
    | dT ks => cases h
    | ins i fs => cases h
theorem call_lenR : CallR X (.builtin "len") (fun xs H Q => ∃ a kvs, xs = [V.ref a] ∧ Rd H a (.dK kvs) ∧ Q (.int kvs.length) H) := by
  intro pins s σ H xs us Q I r h
  obtain ⟨a, kvs, rfl, hd, q⟩ := h
  obtain rfl := Vals.ref1 r
  exact d_len I hd fun t s' I' => ⟨.int kvs.length, H, I', ⟨t, rfl⟩, q⟩
theorem look_zip {α : Type} [DecidableEq α] {k : α} : ∀ {ks : List α} {us : List V}, ks.length = us.length → (valV (ks.zip us) k).isSome = (atZ ks k).isSome
  | [], [], _ => rfl
  | a :: ks, u :: us, h => by
    have ih := look_zip (k := k) (ks := ks) (us := us) (by simpa using h)
    by_cases e : a = k
    · have e1 : valV ((a :: ks).zip (u :: us)) k = some u := valV_pos (p := (a, u)) e
      rw [e1]
      show _ = (if a = k then some 0 else (atZ ks k).map (· + 1)).isSome
      rw [if_pos e]
      rfl
    · have e1 : valV ((a :: ks).zip (u :: us)) k = valV (ks.zip us) k := valV_neg (p := (a, u)) e
      rw [e1, ih]
      show _ = (if a = k then some 0 else (atZ ks k).map (· + 1)).isSome
      rw [if_neg e]
      cases atZ ks k <;> rfl
theorem key_rep {B H : Hp} {d : D} {x : Key} {v : V} (h : d.key = some x) (r : RepD c H d v) : v = kV x := by
  cases d with
  | int i =>
    have e : Sum.inl i = x := Option.some.inj h
    rw [← e]
    exact r
  | str i =>
    have e : Sum.inr i = x := Option.some.inj h
    rw [← e]
    exact r
  | _ => cases h
theorem keys_rep {H : Hp} : ∀ {ds : List D} {xs : List Key} {vs : List V}, ds.mapM D.key = some xs → RepDs c H ds vs → vs = xs.map kV
  | [], xs, vs, h, r => by
    have e : [] = xs := by simpa using h
    rw [← e]
    exact r
  | d :: ds, xs, vs, h, ⟨v, vr, e, r1, r2⟩ => by
    rw [List.mapM_cons] at h
    cases h1 : d.key with
    | none =>
      rw [h1] at h
      cases h
    | some k1 =>
      cases h2 : ds.mapM D.key with
      | none =>
        rw [h1, h2] at h
        cases h
      | some k2 =>
        rw [h1, h2] at h
        have e2 : k1 :: k2 = xs := Option.some.inj h
        rw [e, ← e2, key_rep (B := H) h1 r1, keys_rep h2 r2]
        rfl
theorem keyT_rep {H : Hp} {d : D} {x : List Key} {v : V} (h : d.keyT = some x) (r : RepD c H d v) : ∃ b, v = .ref b ∧ H b = some (.tup (x.map kV)) := by
  cases d with
  | nd k ds => cases k with
    | tup =>
      obtain ⟨a, vs, e1, _, e2, e3⟩ := r
      have e4 := keys_rep (show ds.mapM D.key = some x from h) e3
      have e5 : H a = some (.tup vs) := e2
      exact ⟨a, e1, by rw [← e4]; exact e5⟩
    | _ => cases h
  | _ => cases h
theorem inK_rep {H : Hp} {d : D} {w : W} {y x : V} {b : Bool} (h : inK? d w = some b) (ry : RepD c H d y) (rx : RepD c H w.dat x) : ∃ a o, x = .ref a ∧ DGet H a y o ∧ o.isSome = b := by
  have main : ∀ {k : Kd} {n : List D}, w.dat = .nd k n → (match k with
      | .dK ks => d.key.map fun k => (atZ ks k).isSome
      | .dT ks => d.keyT.map fun k => (atZ ks k).isSome
      | _ => none) = some b → ∃ a o, x = .ref a ∧ DGet H a y o ∧ o.isSome = b := by
    intro k n e hh
    rw [e] at rx
    obtain ⟨a, us, e1, f, e2, e3⟩ := rx
    cases k with
    | dK ks =>
      obtain ⟨k1, q1, q2⟩ := Option.map_eq_some_iff.mp hh
      have f' : ks.length = n.length := f
      exact ⟨a, valV (ks.zip us) k1, e1, .inl ⟨ks.zip us, k1, e2, key_rep (B := H) q1 ry, rfl⟩, (look_zip (by rw [f', e3.len])).trans q2⟩
    | dT ks =>
      obtain ⟨k1, q1, q2⟩ := Option.map_eq_some_iff.mp hh
      have f' : ks.length = n.length := f
      obtain ⟨t, t1, t2⟩ := keyT_rep q1 ry
      exact ⟨a, valV (ks.zip us) k1, e1, .inr ⟨ks.zip us, k1, t, e2, t1, t2, rfl⟩, (look_zip (by rw [f', e3.len])).trans q2⟩
    | _ => cases hh
  cases w with
  | fl d2 => cases d2 with
    | nd k n => cases k with
      | dK ks => exact main rfl h
      | dT ks => exact main rfl h
      | _ => cases h
    | _ => cases h
  | nd k n => cases k with
    | dK ks => exact main (W.dat_nd _ _) h
    | dT ks => exact main (W.dat_nd _ _) h
    | _ => cases h
theorem cut_reps {B : Hp} {ds : List D} {us : List V} (lo hi : Option Int) (r : RepDs c B ds us) : RepDs c B (cutD ds lo hi) (cutV us lo hi) := by
  have l := r.len
  refine RepDs.of_get ?_ fun i d v h1 h2 => ?_
  · unfold cutD cutV
    rw [List.length_take, List.length_take, List.length_drop, List.length_drop, l]
  · unfold cutD at h1
    unfold cutV at h2
    rw [List.getElem?_take] at h1 h2
    split at h1
    · rw [List.getElem?_drop] at h1
      split at h2
      · rw [List.getElem?_drop, ← l] at h2
        exact RepDs.at r h1 h2
      · cases h2
    · cases h1
abbrev rSl (K : PySem.W.Frag) : V → Option Int → Option Int → Hp → VK → Prop := fun x lo hi H Q => rSlL K x lo hi H Q ∨ rSlT K x lo hi H Q
theorem slice_rep {B H : Hp} {x : W} {v : V} {lo hi : Option Int} {w : W} {Q : VK} (h : slice? x lo hi = some w) (o : OV c B H x v) (fin : Fin c B H w Q) : rSl c.K v lo hi H Q := by
  unfold slice? at h
  split at h
  · rename_i ds es
    obtain ⟨a, us, e1, _, e2, e3⟩ := o.2.2 _ _ es
    exact .inl ⟨a, us, e1, .inl (.inl e2), fun p hp => newL_fin h fin (cut_reps lo hi e3) hp⟩
  · rename_i ds es
    obtain ⟨a, us, e1, _, e2, e3⟩ := o.2.2 _ _ es
    split at h
    · cases h
    · rename_i hn
      rw [e3.len] at hn
      exact .inr ⟨a, us, e1, .inl (.inl e2), hn, fun p hp => newT_fin h fin (cut_reps lo hi e3) hp⟩
  · cases h
theorem isOf_rep {H : Hp} {d : D} {v : V} {t : String} {b : Bool} (ht : isTy t = true) (h : isOf t d = some b) (r : RepD c H d v) : ∃ u, TyX c.K H v u ∧ PySem.W.kitOne c.K u (.type t) = some b := by
  have t6 : t = "int" ∨ t = "bool" ∨ t = "str" ∨ t = "list" ∨ t = "tuple" ∨ t = "dict" := by
    unfold isTy at ht
    simp only [Bool.or_eq_true, beq_iff_eq] at ht
    rcases ht with ((((h | h) | h) | h) | h) | h
    · exact .inl h
    · exact .inr (.inl h)
    · exact .inr (.inr (.inl h))
    · exact .inr (.inr (.inr (.inl h)))
    · exact .inr (.inr (.inr (.inr (.inl h))))
    · exact .inr (.inr (.inr (.inr (.inr h))))
  have kit : ∀ (a : String) (b' : Bool), isOf t d = some b' → (∀ b', isOf t d = some b' → kitB a t = some b') → PySem.W.kitOne c.K (.type a) (.type t) = some b' := fun a b' q k => kit_ty (k b' q)
  have go : ∀ (a : String), TyX c.K H v (.type a) → kitB a t = isOf t d → ∃ u, TyX c.K H v u ∧ PySem.W.kitOne c.K u (.type t) = some b := fun a ty k => ⟨.type a, ty, kit_ty (k.trans h)⟩
  cases d with
  | non =>
    have e : v = .non := r
    subst e
    refine go "NoneType" (.base .non) ?_
    rcases t6 with rfl | rfl | rfl | rfl | rfl | rfl <;> decide +kernel
  | bl x =>
    have e : v = .bl x := r
    subst e
    refine go "bool" (.base (.bl x)) ?_
    show kitB "bool" t = some (t == "bool" || t == "int")
    rcases t6 with rfl | rfl | rfl | rfl | rfl | rfl <;> decide +kernel
  | int x =>
    have e : v = .int x := r
    subst e
    refine go "int" (.base (.int x)) ?_
    show kitB "int" t = some (t == "int")
    rcases t6 with rfl | rfl | rfl | rfl | rfl | rfl <;> decide +kernel
  | str x =>
    have e : v = .str x := r
    subst e
    refine go "str" (.base (.str x)) ?_
    show kitB "str" t = some (t == "str")
    rcases t6 with rfl | rfl | rfl | rfl | rfl | rfl <;> decide +kernel
  | nd k cs =>
    obtain ⟨a, us, e1, _, e2, e3⟩ := r
    subst e1
    cases k with
    | lst =>
      refine go "list" (.base (.lst e2)) ?_
      show kitB "list" t = some (t == "list")
      rcases t6 with rfl | rfl | rfl | rfl | rfl | rfl <;> decide +kernel
    | tup =>
      refine go "tuple" (.base (.tup e2)) ?_
      show kitB "tuple" t = some (t == "tuple")
      rcases t6 with rfl | rfl | rfl | rfl | rfl | rfl <;> decide +kernel
    | dK ks =>
      have e4 : kitB "dict" t = isOf t (.nd (.dK ks) cs) := by
        show kitB "dict" t = some (t == "dict")
        rcases t6 with rfl | rfl | rfl | rfl | rfl | rfl <;> decide +kernel
      rcases e2 with e2 | ⟨o, e2⟩
      · exact go "dict" (.base (.dK e2)) e4
      · exact go "dict" (.fDict e2) e4
    | _ => cases h

/-- EVERY OPERATOR -/
theorem rop_ok (x : XOk c k X) (hf : o.form k e = some es) (h : PEs X es ts) : RopOk c X o e ts := by
  have hu : X.A.units + 1 < cLine := hu_of x.room
  cases o with
  | add => exact bin_ok op_add hf h (fun _ _ _ _ q => i0_ok rfl q) two_of2I
  | sub => exact bin_ok op_sub hf h (fun _ _ _ _ q => i0_ok rfl q) two_of2I
  | mul => exact bin_ok op_mul hf h (fun _ _ _ _ q => ic_ok (C' := fun i j => (small64 i || small64 j) = true) (fun i j hc => by
      rcases Bool.or_eq_true_iff.mp hc with z | z
      · exact .inl (of_decide_eq_true z)
      · exact .inr (of_decide_eq_true z)) rfl q) two_of2I
  | fdiv => exact bin_ok op_fdiv hf h (fun _ _ _ _ q => ic_ok (C' := fun i j => 0 < j ∧ j < 1073741824) (fun i j hc => hc) rfl q) two_of2I
  | mod => exact bin_ok op_mod hf h (fun _ _ _ _ q => ic_ok (C' := fun i j => 0 < j) (fun i j hc => hc) rfl q) two_of2I
  | pow => exact bin_ok op_pow hf h (fun _ _ _ _ q => ic_ok (C' := fun i j => 0 ≤ j ∧ j ≤ 1000000 ∧ i.natAbs < 2 ^ 64) (fun i j hc => hc) rfl q) two_of2I
  | neg =>
    have hf' : neg1 e = some es := hf
    unfold neg1 at hf'
    split at hf'
    · rename_i a pos
      have e1 : [a] = es := Option.some.inj hf'
      subst e1
      obtain ⟨t, e2, h1⟩ := h.one
      subst e2
      refine ⟨tUn (rU fun i => .int (-i)) t, fun vs H Q => match vs with
        | [x] => rU (fun i => .int (-i)) x H Q
        | _ => False, pe_un un_neg h1, (fun z => by cases z), fun σ H Q q => q, fun vs H Q q => ?_⟩
      obtain ⟨y, v, w, B, ev, _, ov, hf2, fin⟩ := rS_1 rfl q
      subst ev
      obtain ⟨i, hi, hw⟩ := lstE hf2
      rw [int?_inv hi] at ov
      exact ⟨i, ov.int, pI_fin hw fin⟩
    · cases hf'
  | lt => exact cmp_ok op_lt hf h (fun _ _ _ _ q => b0_ok rfl q) two_of2I
  | le => exact cmp_ok op_le hf h (fun _ _ _ _ q => b0_ok rfl q) two_of2I
  | gt => exact cmp_ok op_gt hf h (fun _ _ _ _ q => b0_ok rfl q) two_of2I
  | ge => exact cmp_ok op_ge hf h (fun _ _ _ _ q => b0_ok rfl q) two_of2I
  | eqF =>
    refine cmp_ok op_eq hf h (fun a b H Q q => ?_) two_of2
    obtain ⟨x1, y1, v, u, w, B, ev, _, o1, o2, hf2, fin⟩ := rS_2 rfl q
    obtain ⟨rfl, rfl⟩ := r2_of ev
    unfold eqF? at hf2
    split at hf2
    · rename_i d1 d2 g1 g2
      split at hf2
      · rename_i hs
        rw [o1.flat g1, o2.flat g2]
        refine ⟨hs, ?_⟩
        have := pB_fin hf2 fin
        rwa [Bool.false_bne] at this
      · cases hf2
    · cases hf2
  | neF =>
    refine cmp_ok op_ne hf h (fun a b H Q q => ?_) two_of2
    obtain ⟨x1, y1, v, u, w, B, ev, _, o1, o2, hf2, fin⟩ := rS_2 rfl q
    obtain ⟨rfl, rfl⟩ := r2_of ev
    unfold eqF? at hf2
    split at hf2
    · rename_i d1 d2 g1 g2
      split at hf2
      · rename_i hs
        rw [o1.flat g1, o2.flat g2]
        refine ⟨hs, ?_⟩
        have := pB_fin hf2 fin
        rwa [Bool.true_bne] at this
      · cases hf2
    · cases hf2
  | eqD =>
    refine cmp_ok (op_eqD x.room.units) hf h (fun a b H Q q => ?_) two_of2
    obtain ⟨x1, y1, v, u, w, B, ev, _, o1, o2, hf2, fin⟩ := rS_2 rfl q
    obtain ⟨rfl, rfl⟩ := r2_of ev
    obtain ⟨bb, g1, g2⟩ := lstE hf2
    unfold eqD? at g1
    split at g1
    · rename_i p1 p2 e1 e2
      split at g1
      · rename_i hs
        obtain ⟨s1, s2⟩ := Bool.and_eq_true_iff.mp hs
        have e3 : PyData.eqv p1 p2 = bb := Option.some.inj g1
        have q1 := RepD.dp e1 o1.1
        have q2 := RepD.dp e2 o2.1
        rw [← x.K] at q1 q2
        exact ⟨p1, p2, q1, q2, s1, s2, by rw [e3]; exact pB_fin g2 fin⟩
      · cases g1
    · cases g1
  | neD =>
    refine cmp_ok (op_neD x.room.units) hf h (fun a b H Q q => ?_) two_of2
    obtain ⟨x1, y1, v, u, w, B, ev, _, o1, o2, hf2, fin⟩ := rS_2 rfl q
    obtain ⟨rfl, rfl⟩ := r2_of ev
    obtain ⟨bb, g1, g2⟩ := lstE hf2
    unfold eqD? at g1
    split at g1
    · rename_i p1 p2 e1 e2
      split at g1
      · rename_i hs
        obtain ⟨s1, s2⟩ := Bool.and_eq_true_iff.mp hs
        have e3 : PyData.eqv p1 p2 = bb := Option.some.inj g1
        have q1 := RepD.dp e1 o1.1
        have q2 := RepD.dp e2 o2.1
        rw [← x.K] at q1 q2
        exact ⟨p1, p2, q1, q2, s1, s2, by rw [e3]; exact pB_fin g2 fin⟩
      · cases g1
    · cases g1
  | isN =>
    refine cmp_ok op_isN hf h (fun a b H Q q => ?_) two_of2
    obtain ⟨x1, y1, v, u, w, B, ev, _, o1, o2, hf2, fin⟩ := rS_2 rfl q
    obtain ⟨rfl, rfl⟩ := r2_of ev
    split at hf2
    · rename_i hn
      have h2 := o2.isNon
      rw [hn] at h2
      exact ⟨of_decide_eq_true h2, by rw [o1.isNon]; exact pB_fin hf2 fin⟩
    · cases hf2
  | notN =>
    refine cmp_ok op_notN hf h (fun a b H Q q => ?_) two_of2
    obtain ⟨x1, y1, v, u, w, B, ev, _, o1, o2, hf2, fin⟩ := rS_2 rfl q
    obtain ⟨rfl, rfl⟩ := r2_of ev
    split at hf2
    · rename_i hn
      have h2 := o2.isNon
      rw [hn] at h2
      exact ⟨of_decide_eq_true h2, by rw [o1.isNon]; exact pB_fin hf2 fin⟩
    · cases hf2
  | ltD => cases hf
  | inQ =>
    refine cmp_ok op_in_seq hf h (fun a b H Q q => ?_) two_of2
    obtain ⟨x1, y1, v, u, w, B, ev, _, o1, o2, hf2, fin⟩ := rS_2 rfl q
    obtain ⟨rfl, rfl⟩ := r2_of ev
    obtain ⟨d, g1, g2⟩ := lstE hf2
    obtain ⟨bb, g3, g4⟩ := lstE g2
    unfold inQ? at g3
    split at g3
    · rename_i ds es
      split at g3
      · rename_i hc
        obtain ⟨c12, c3⟩ := Bool.and_eq_true_iff.mp hc
        obtain ⟨c1, c2⟩ := Bool.and_eq_true_iff.mp c12
        have e3 := Option.some.inj g3
        obtain ⟨p, us, e4, sq, rp⟩ := o2.seq es
        obtain ⟨r1, r2⟩ := reps_flat c3 rp
        refine ⟨p, us, e4, sq.imp (fun z => .inl (.inl z)) (fun z => .inl (.inl z)), by rw [o1.flat g1]; exact c1, r2, ?_⟩
        have := pB_fin g4 fin
        rw [← e3] at this
        rw [o1.flat g1, r1]
        exact this
      · cases g3
    · cases g3
  | niQ =>
    refine cmp_ok op_notIn_seq hf h (fun a b H Q q => ?_) two_of2
    obtain ⟨x1, y1, v, u, w, B, ev, _, o1, o2, hf2, fin⟩ := rS_2 rfl q
    obtain ⟨rfl, rfl⟩ := r2_of ev
    obtain ⟨d, g1, g2⟩ := lstE hf2
    obtain ⟨bb, g3, g4⟩ := lstE g2
    unfold inQ? at g3
    split at g3
    · rename_i ds es
      split at g3
      · rename_i hc
        obtain ⟨c12, c3⟩ := Bool.and_eq_true_iff.mp hc
        obtain ⟨c1, c2⟩ := Bool.and_eq_true_iff.mp c12
        have e3 := Option.some.inj g3
        obtain ⟨p, us, e4, sq, rp⟩ := o2.seq es
        obtain ⟨r1, r2⟩ := reps_flat c3 rp
        refine ⟨p, us, e4, sq.imp (fun z => .inl (.inl z)) (fun z => .inl (.inl z)), by rw [o1.flat g1]; exact c1, r2, ?_⟩
        have := pB_fin g4 fin
        rw [← e3] at this
        rw [o1.flat g1, r1]
        exact this
      · cases g3
    · cases g3
  | inS =>
    refine cmp_ok op_in_str hf h (fun a b H Q q => ?_) two_of2
    obtain ⟨x1, y1, v, u, w, B, ev, _, o1, o2, hf2, fin⟩ := rS_2 rfl q
    obtain ⟨rfl, rfl⟩ := r2_of ev
    obtain ⟨s1, g1, g2⟩ := lstE hf2
    obtain ⟨s2, g3, g4⟩ := lstE g2
    rw [str?_inv g1] at o1
    rw [str?_inv g3] at o2
    exact ⟨s1, s2, o1.str, o2.str, pB_fin g4 fin⟩
  | niS =>
    refine cmp_ok L2.op_notin_str hf h (fun a b H Q q => ?_) two_of2
    obtain ⟨x1, y1, v, u, w, B, ev, _, o1, o2, hf2, fin⟩ := rS_2 rfl q
    obtain ⟨rfl, rfl⟩ := r2_of ev
    obtain ⟨s1, g1, g2⟩ := lstE hf2
    obtain ⟨s2, g3, g4⟩ := lstE g2
    rw [str?_inv g1] at o1
    rw [str?_inv g3] at o2
    exact ⟨s1, s2, o1.str, o2.str, pB_fin g4 fin⟩
  | inK =>
    refine dict_ok (q0 := fun o => o.isSome) (fun hi hd => pc_din hu hi hd) hf h (fun a b H Q q => ?_) two_of2
    obtain ⟨x1, y1, v, u, w, B, ev, _, o1, o2, hf2, fin⟩ := rS_2 rfl q
    obtain ⟨rfl, rfl⟩ := r2_of ev
    obtain ⟨bb, g1, g2⟩ := lstE hf2
    obtain ⟨p, o, e1, e2, e3⟩ := inK_rep g1 o1.1 o2.1
    exact ⟨p, o, e1, e2, by rw [e3]; exact pB_fin g2 fin⟩
  | niK =>
    refine dict_ok (q0 := fun o => !o.isSome) (fun hi hd => pc_dnotin hu hi hd) hf h (fun a b H Q q => ?_) two_of2
    obtain ⟨x1, y1, v, u, w, B, ev, _, o1, o2, hf2, fin⟩ := rS_2 rfl q
    obtain ⟨rfl, rfl⟩ := r2_of ev
    obtain ⟨bb, g1, g2⟩ := lstE hf2
    obtain ⟨p, o, e1, e2, e3⟩ := inK_rep g1 o1.1 o2.1
    exact ⟨p, o, e1, e2, by rw [e3]; exact pB_fin g2 fin⟩
  | addS =>
    refine bin_ok op_add_str hf h (fun a b H Q q => ?_) two_of2
    obtain ⟨x1, y1, v, u, w, B, ev, _, o1, o2, hf2, fin⟩ := rS_2 rfl q
    obtain ⟨rfl, rfl⟩ := r2_of ev
    obtain ⟨s1, g1, g2⟩ := lstE hf2
    obtain ⟨s2, g3, g4⟩ := lstE g2
    rw [str?_inv g1] at o1
    rw [str?_inv g3] at o2
    split at g4
    · rename_i hs
      have e3 := Option.some.inj g4
      subst e3
      exact ⟨s1, s2, o1.str, o2.str, small_sz hs, fin _ rfl⟩
    · cases g4
  | catL =>
    refine bin_ok op_cat hf h (fun a b H Q q => ?_) two_of2
    obtain ⟨x1, y1, v, u, w, B, ev, _, o1, o2, hf2, fin⟩ := rS_2 rfl q
    obtain ⟨rfl, rfl⟩ := r2_of ev
    obtain ⟨d1, g1, g2⟩ := lstE hf2
    obtain ⟨d2, g3, g4⟩ := lstE g2
    split at g4
    · rename_i hs
      obtain ⟨p1, u1, e1, h1, r1⟩ := o1.lst g1
      obtain ⟨p2, u2, e2, h2, r2⟩ := o2.lst g3
      exact ⟨p1, p2, u1, u2, e1, e2, h1, h2, by rw [← r1.len, ← r2.len]; exact small_sz hs, fun p hp => newL_fin g4 fin (r1.append r2) hp⟩
    · cases g4
  | catT =>
    refine bin_ok op_catT hf h (fun a b H Q q => ?_) two_of2
    obtain ⟨x1, y1, v, u, w, B, ev, _, o1, o2, hf2, fin⟩ := rS_2 rfl q
    obtain ⟨rfl, rfl⟩ := r2_of ev
    obtain ⟨d1, g1, g2⟩ := lstE hf2
    obtain ⟨d2, g3, g4⟩ := lstE g2
    split at g4
    · rename_i hs
      obtain ⟨c12, c3⟩ := Bool.and_eq_true_iff.mp hs
      obtain ⟨c1, c2⟩ := Bool.and_eq_true_iff.mp c12
      obtain ⟨p1, u1, e1, h1, r1⟩ := o1.tup g1
      obtain ⟨p2, u2, e2, h2, r2⟩ := o2.tup g3
      have n1 : u1 ≠ [] := fun z => by
        have := r1.len
        rw [z] at this
        cases d1 with
        | nil => cases c2
        | cons _ _ => cases this
      have n2 : u2 ≠ [] := fun z => by
        have := r2.len
        rw [z] at this
        cases d2 with
        | nil => cases c3
        | cons _ _ => cases this
      refine ⟨p1, p2, u1, u2, e1, e2, .inl (.inl h1), .inl (.inl h2), n1, by rw [← r1.len, ← r2.len]; exact small_sz c1, ?_⟩
      exact ⟨fun z => absurd z n2, fun _ p hp => newT_fin g4 fin (r1.append r2) hp⟩
    · cases g4
  | len =>
    refine callB_ok x (CallR.or call_len_seq (CallR.or call_len_str call_lenR)) (by decide) (by decide +kernel) (by decide) (by decide) hf h fun vs H Q q => ?_
    obtain ⟨y, v, w, B, ev, _, ov, hf2, fin⟩ := rS_1 rfl q
    subst ev
    obtain ⟨n, h1, h2⟩ := lstE hf2
    have q2 := pI_fin h2 fin
    rcases lenD_inv h1 with ⟨z, e1, e2, e3⟩ | ⟨ds, e1, e2⟩ | ⟨ds, e1, e2⟩ | ⟨ks, ds, e1, e2⟩
    · rw [e1] at ov
      exact .inr (.inl ⟨z, by rw [ov.str], Nat.le_trans e2 (by decide), by rw [e3]; exact q2⟩)
    · have r := ov.1
      rw [e1] at r
      obtain ⟨a, us, r1, _, r2, r3⟩ := r
      exact .inl ⟨a, us, by rw [r1], .inl (.inl (.inl r2)), by rw [← r3.len, e2]; exact q2⟩
    · have r := ov.1
      rw [e1] at r
      obtain ⟨a, us, r1, _, r2, r3⟩ := r
      exact .inl ⟨a, us, by rw [r1], .inr (.inl (.inl r2)), by rw [← r3.len, e2]; exact q2⟩
    · have r := ov.1
      rw [e1] at r
      obtain ⟨a, us, r1, rf, r2, r3⟩ := r
      refine .inr (.inr ⟨a, ks.zip us, by rw [r1], r2, ?_⟩)
      have el : (ks.zip us).length = ds.length := by
        have rf' : ks.length = ds.length := rf
        rw [List.length_zip, ← r3.len, rf', Nat.min_self]
      rw [el, e2]
      exact q2
  | intB =>
    refine callTy_ok x call_int1 (by decide) (by decide +kernel) (by decide) (by decide) hf h fun vs H Q q => ?_
    obtain ⟨y, v, w, B, ev, _, ov, hf2, fin⟩ := rS_1 rfl q
    subst ev
    split at hf2
    · rename_i b hb
      rw [bl?_inv hb] at ov
      exact .inr ⟨b, by rw [ov.bl], pI_fin hf2 fin⟩
    · obtain ⟨i, hi, hw⟩ := lstE hf2
      rw [int?_inv hi] at ov
      exact .inl ⟨i, by rw [ov.int], pI_fin hw fin⟩
  | min2 =>
    refine callB2_ok x (call_min2 x.calm) (by decide) (by decide +kernel) (by decide) (by decide) hf h fun vs H Q q => ?_
    obtain ⟨ws, w, B, s, ov, run, fin⟩ := q
    obtain ⟨i, j, e1, hf2⟩ := on2I_inv run
    subst e1
    obtain ⟨v, u, ev, o1, o2⟩ := ov.two
    subst ev
    exact ⟨i, j, by rw [o1.int, o2.int], pI_fin hf2 fin⟩
  | max2 =>
    refine callB2_ok x (call_max2 x.calm) (by decide) (by decide +kernel) (by decide) (by decide) hf h fun vs H Q q => ?_
    obtain ⟨ws, w, B, s, ov, run, fin⟩ := q
    obtain ⟨i, j, e1, hf2⟩ := on2I_inv run
    subst e1
    obtain ⟨v, u, ev, o1, o2⟩ := ov.two
    subst ev
    exact ⟨i, j, by rw [o1.int, o2.int], pI_fin hf2 fin⟩
  | sum =>
    refine callB_ok x (cr_sum x.calm) (by decide) (by decide +kernel) (by decide) (by decide) hf h fun vs H Q q => ?_
    obtain ⟨y, v, w, B, ev, _, ov, hf2, fin⟩ := rS_1 rfl q
    subst ev
    obtain ⟨ns, h1, h2⟩ := lstE hf2
    obtain ⟨ds, h3, h4⟩ := Option.bind_eq_some_iff.mp h1
    obtain ⟨p, us, e1, hp, rp⟩ := ov.lst h3
    rw [reps_ints h4 rp] at hp
    exact ⟨p, ns, by rw [e1], .inl (.inl hp), pI_fin h2 fin⟩
  | min1 =>
    refine callB_ok x (cr_min x.calm) (by decide) (by decide +kernel) (by decide) (by decide) hf h fun vs H Q q => ?_
    obtain ⟨y, v, w, B, ev, _, ov, hf2, fin⟩ := rS_1 rfl q
    subst ev
    obtain ⟨n, h1, h2⟩ := lstE hf2
    obtain ⟨ns, h5, h6⟩ := Option.bind_eq_some_iff.mp h1
    obtain ⟨ds, h3, h4⟩ := Option.bind_eq_some_iff.mp h5
    obtain ⟨p, us, e1, hp, rp⟩ := ov.lst h3
    rw [reps_ints h4 rp] at hp
    refine ⟨p, ns, by rw [e1], .inl (.inl hp), ?_, fun m hm hl => ?_⟩
    · cases ns with
      | nil => cases h6
      | cons _ _ => exact Nat.succ_pos _
    · rw [leastI_eq h6 hm hl]
      exact pI_fin h2 fin
  | max1 =>
    refine callB_ok x (cr_max x.calm) (by decide) (by decide +kernel) (by decide) (by decide) hf h fun vs H Q q => ?_
    obtain ⟨y, v, w, B, ev, _, ov, hf2, fin⟩ := rS_1 rfl q
    subst ev
    obtain ⟨n, h1, h2⟩ := lstE hf2
    obtain ⟨ns, h5, h6⟩ := Option.bind_eq_some_iff.mp h1
    obtain ⟨ds, h3, h4⟩ := Option.bind_eq_some_iff.mp h5
    obtain ⟨p, us, e1, hp, rp⟩ := ov.lst h3
    rw [reps_ints h4 rp] at hp
    refine ⟨p, ns, by rw [e1], .inl (.inl hp), ?_, fun m hm hl => ?_⟩
    · cases ns with
      | nil => cases h6
      | cons _ _ => exact Nat.succ_pos _
    · rw [mostI_eq h6 hm hl]
      exact pI_fin h2 fin
  | allB =>
    refine callB_ok x (cr_all x.calm) (by decide) (by decide +kernel) (by decide) (by decide) hf h fun vs H Q q => ?_
    obtain ⟨y, v, w, B, ev, _, ov, hf2, fin⟩ := rS_1 rfl q
    subst ev
    obtain ⟨ns, h1, h2⟩ := lstE hf2
    obtain ⟨ds, h3, h4⟩ := Option.bind_eq_some_iff.mp h1
    obtain ⟨p, us, e1, hp, rp⟩ := ov.lst h3
    rw [reps_bls h4 rp] at hp
    exact ⟨p, ns, by rw [e1], .inl (.inl hp), pB_fin h2 fin⟩
  | anyB =>
    refine callB_ok x (cr_any x.calm) (by decide) (by decide +kernel) (by decide) (by decide) hf h fun vs H Q q => ?_
    obtain ⟨y, v, w, B, ev, _, ov, hf2, fin⟩ := rS_1 rfl q
    subst ev
    obtain ⟨ns, h1, h2⟩ := lstE hf2
    obtain ⟨ds, h3, h4⟩ := Option.bind_eq_some_iff.mp h1
    obtain ⟨p, us, e1, hp, rp⟩ := ov.lst h3
    rw [reps_bls h4 rp] at hp
    exact ⟨p, ns, by rw [e1], .inl (.inl hp), pB_fin h2 fin⟩
  | listOf =>
    refine callTy_ok x call_list_of (by decide) (by decide +kernel) (by decide) (by decide) hf h fun vs H Q q => ?_
    obtain ⟨y, v, w, B, ev, _, ov, hf2, fin⟩ := rS_1 rfl q
    subst ev
    obtain ⟨ds, h1, h2⟩ := lstE hf2
    obtain ⟨p, us, e1, hp, rp⟩ := ov.seq h1
    exact ⟨p, us, by rw [e1], hp.imp (fun z => .inl (.inl z)) (fun z => .inl (.inl z)), fun l hl => newL_fin h2 fin rp hl⟩
  | tupOf =>
    refine callTy_ok x call_tuple_of (by decide) (by decide +kernel) (by decide) (by decide) hf h fun vs H Q q => ?_
    obtain ⟨y, v, w, B, ev, _, ov, hf2, fin⟩ := rS_1 rfl q
    subst ev
    obtain ⟨ds, h1, h2⟩ := lstE hf2
    obtain ⟨p, us, e1, hp, rp⟩ := ov.lst h1
    exact ⟨p, us, by rw [e1], .inl ⟨.inl (.inl hp), fun l hl => newT_fin h2 fin rp hl⟩⟩
  | sorted =>
    refine callB_ok x (call_sortD x.K x.room) (by decide) (by decide +kernel) (by decide) (by decide) hf h fun vs H Q q => ?_
    obtain ⟨y, v, w, B, ev, sm, ov, hf2, fin⟩ := rS_1 rfl q
    subst ev
    obtain ⟨ds, h1, h2⟩ := lstE hf2
    obtain ⟨p, us, e1, hp, rp⟩ := ov.lst h1
    split at h2
    · rename_i hc
      exact ⟨p, us, ds, B, by rw [e1], hp, sm, rp, hc, fun l us' hl r' => newL_fin h2 fin r' hl⟩
    · cases h2
  | slice lo hi =>
    have sl : SlR X (rSl X.K) := SlR.or sl_list sl_tup
    have hf' : sl1 lo hi e = some es := hf
    unfold sl1 at hf'
    split at hf'
    · rename_i a p1 p2
      split at hf'
      · rename_i hp
        obtain ⟨rfl, rfl⟩ := hp
        have e3 : [a] = es := Option.some.inj hf'
        subst e3
        obtain ⟨t, e4, h1⟩ := h.one
        subst e4
        refine ⟨_, fun vs H Q => match vs with
          | [x] => rSl X.K x none none H Q
          | _ => False, pe_slice sl h1 po_none po_none, (fun z => by cases z), fun σ H Q q => q, fun vs H Q q => ?_⟩
        obtain ⟨x1, v, w, B, ev, _, o1, hf2, fin⟩ := rS_1 rfl q
        subst ev
        rw [x.K]
        exact slice_rep hf2 o1 fin
      · cases hf'
    · rename_i a l p1 p2
      split at hf'
      · rename_i hp
        obtain ⟨rfl, rfl⟩ := hp
        have e3 : [a, l] = es := Option.some.inj hf'
        subst e3
        obtain ⟨t, u, e4, h1, h2⟩ := h.two
        subst e4
        refine ⟨_, fun vs H Q => match vs with
          | [x, y] => ∃ i, y = .int i ∧ rSl X.K x (some i) none H Q
          | _ => False, pe_slice sl h1 (po_some h2) po_none, (fun z => by cases z), fun σ H Q q => q, fun vs H Q q => ?_⟩
        obtain ⟨x1, y1, v, u, w, B, ev, _, o1, o2, hf2, fin⟩ := rS_2 rfl q
        subst ev
        obtain ⟨i, g1, g2⟩ := lstE hf2
        rw [int?_inv g1] at o2
        rw [x.K]
        exact ⟨i, o2.int, slice_rep g2 o1 fin⟩
      · cases hf'
    · rename_i a l p1 p2
      split at hf'
      · rename_i hp
        obtain ⟨rfl, rfl⟩ := hp
        have e3 : [a, l] = es := Option.some.inj hf'
        subst e3
        obtain ⟨t, u, e4, h1, h2⟩ := h.two
        subst e4
        refine ⟨_, fun vs H Q => match vs with
          | [x, y] => ∃ i, y = .int i ∧ rSl X.K x none (some i) H Q
          | _ => False, pe_slice sl h1 po_none (po_some h2), (fun z => by cases z), fun σ H Q q => q, fun vs H Q q => ?_⟩
        obtain ⟨x1, y1, v, u, w, B, ev, _, o1, o2, hf2, fin⟩ := rS_2 rfl q
        subst ev
        obtain ⟨i, g1, g2⟩ := lstE hf2
        rw [int?_inv g1] at o2
        rw [x.K]
        exact ⟨i, o2.int, slice_rep g2 o1 fin⟩
      · cases hf'
    · cases hf'
  | ixS =>
    have hf' : ix2 e = some es := hf
    unfold ix2 at hf'
    split at hf'
    · rename_i a b pos
      split at hf'
      · rename_i ok
        have e1 : [a, b] = es := Option.some.inj hf'
        subst e1
        obtain ⟨t, u, e2, h1, h2⟩ := h.two
        subst e2
        refine ⟨tOp rIxS t u, fun vs H Q => match vs with
          | [x, y] => rIxS x y H Q
          | _ => False, pe_ix ix_str h1 h2 (ix_ok ok), (fun z => by cases z), fun σ H Q q => q, fun vs H Q q => ?_⟩
        obtain ⟨x1, y1, v, u, w, B, ev, _, o1, o2, hf2, fin⟩ := rS_2 rfl q
        subst ev
        obtain ⟨z, g1, g2⟩ := lstE hf2
        obtain ⟨i, g3, g4⟩ := lstE g2
        rw [str?_inv g1] at o1
        rw [int?_inv g3] at o2
        split at g4
        · rename_i hz
          obtain ⟨cc, g5, g6⟩ := lstE g4
          have e3 := Option.some.inj g6
          subst e3
          exact ⟨z, i, cc, o1.str, o2.int, Nat.le_trans hz (by decide), g5, fin _ rfl⟩
        · cases g4
      · cases hf'
    · cases hf'
  | join z =>
    have hf' : join1 z e = some es := hf
    unfold join1 at hf'
    split at hf'
    · rename_i y j p m apos a pos
      split at hf'
      · rename_i hp
        obtain ⟨e1, e2, ok, hl⟩ := hp
        subst e1
        subst e2
        have e3 : [a] = es := Option.some.inj hf'
        subst e3
        obtain ⟨t, e4, h1⟩ := h.one
        subst e4
        refine ⟨_, fun vs H Q => ∃ a p, ∃ ys : List Str, V.str y = .str a ∧ vs = [.ref p] ∧ (SqL X.K H p (ys.map V.str) ∨ SqT X.K H p (ys.map V.str)) ∧ (ys.map (·.length)).sum + ys.length * a.length ≤ 16777216 ∧ Q (.str (Txt.join a ys)) H, pe_join pe_str h1 (star_ok ok) (base_ok rfl) hl, (fun z => by cases z), fun σ H Q q => ⟨⟨_, rfl⟩, q⟩, fun vs H Q q => ?_⟩
        obtain ⟨y1, v, w, B, ev, _, ov, hf2, fin⟩ := rS_1 rfl q
        subst ev
        obtain ⟨ys, h1, h2⟩ := lstE hf2
        obtain ⟨ds, h3, h4⟩ := Option.bind_eq_some_iff.mp h1
        obtain ⟨p, us, e1, hp, rp⟩ := ov.lst h3
        rw [reps_strs h4 rp] at hp
        split at h2
        · rename_i hz
          have e5 := Option.some.inj h2
          subst e5
          exact ⟨y, p, ys, rfl, by rw [e1], .inl (.inl (.inl hp)), hz, fin _ rfl⟩
        · cases h2
      · cases hf'
    · cases hf'
  | isI t =>
    have hf' : isi1 k t e = some es := hf
    unfold isi1 at hf'
    split at hf'
    · rename_i f p a y p2 pos
      split at hf'
      · rename_i hp
        obtain ⟨e1, hg, e2, hg2, ok, ht⟩ := hp
        subst e1
        subst e2
        have e3 : [a] = es := Option.some.inj hf'
        subst e3
        obtain ⟨te, e4, h1⟩ := h.one
        subst e4
        have t6 : t = "int" ∨ t = "bool" ∨ t = "str" ∨ t = "list" ∨ t = "tuple" ∨ t = "dict" := by
          unfold isTy at ht
          simp only [Bool.or_eq_true, beq_iff_eq] at ht
          rcases ht with ((((h | h) | h) | h) | h) | h
          · exact .inl h
          · exact .inr (.inl h)
          · exact .inr (.inr (.inl h))
          · exact .inr (.inr (.inr (.inl h)))
          · exact .inr (.inr (.inr (.inr (.inl h))))
          · exact .inr (.inr (.inr (.inr (.inr h))))
        have hbn : Str.ofString t ∈ bNames := by
          rcases t6 with rfl | rfl | rfl | rfl | rfl | rfl <;> decide
        have hbt : bootBuiltins (Str.ofString t) = some (.type t) := by
          rcases t6 with rfl | rfl | rfl | rfl | rfl | rfl <;> decide +kernel
        have hnm : Str.ofString t ≠ "__name__" := by
          rcases t6 with rfl | rfl | rfl | rfl | rfl | rfl <;> decide
        have hnd : (Str.ofString t == ("__debug__" : Str)) = false := by
          rcases t6 with rfl | rfl | rfl | rfl | rfl | rfl <;> decide
        have h2 : PE X (.Name (Str.ofString t) p2) (tC (.ty t)) := pe_bltn (x.gl hg2) (x.free _ hbn) hbt rfl hnm hnd
        refine ⟨_, fun vs H Q => match vs with
          | [v] => rIsi X.K [v, .ty t] H Q
          | _ => False, pe_callB call_isi (x.gl hg) (x.free _ (by decide)) (by decide +kernel) (pa_cons h1 (pa_cons h2 pa_nil (star_ok rfl)) (star_ok ok)) (by decide) (by decide) (star_ok ok) (star_any (es := [.Name (Str.ofString t) p2]) rfl), (fun z => by cases z), fun σ H Q q => q, fun vs H Q q => ?_⟩
        obtain ⟨y1, v, w, B, ev, _, ov, hf2, fin⟩ := rS_1 rfl q
        subst ev
        obtain ⟨bb, g1, g2⟩ := lstE hf2
        obtain ⟨u, ty, kt⟩ := isOf_rep ht g1 ov.1
        rw [← x.K] at ty kt
        exact ⟨v, .ty t, u, .type t, bb, rfl, .ty t, ty, kt, pB_fin g2 fin⟩
      · cases hf'
    · cases hf'
end
end Vx
end

section
set_option maxHeartbeats 4000000
/-! Vx 10: expressions, form by form. -/
namespace Vx
open PySem L2
/-- what a result leads to -/
def Kn {α : Type} (x : Res α) (ko : α → Prop) (kx : Nat → Env → Prop) : Prop := match x with
  | .ok a => ko a
  | .ex c _ r => kx c r
  | .bad => False
theorem Kn.bind {α β : Type} {x : Res α} {f : α → Res β} {ko : β → Prop} {kx : Nat → Env → Prop} (h : Kn (x.bind f) ko kx) : Kn x (fun a => Kn (f a) ko kx) kx := by
  cases x <;> exact h
theorem Kn.mono {α : Type} {x : Res α} {ko ko' : α → Prop} {kx kx' : Nat → Env → Prop} (h : Kn x ko kx) (h1 : ∀ a, x = .ok a → ko a → ko' a) (h2 : ∀ c r, kx c r → kx' c r) : Kn x ko' kx' := by
  cases x with
  | ok a => exact h1 a rfl h
  | ex c p r => exact h2 c r h
  | bad => exact h
theorem Kn.of {α : Type} {x : Option α} {ko : α → Prop} {kx : Nat → Env → Prop} (h : Kn (Res.of x) ko kx) : ∃ a, x = some a ∧ ko a := by
  cases x with
  | some a => exact ⟨a, rfl, h⟩
  | none => exact h.elim

/-- the promise of a def -/
def ioVals (io : List Nat) (xs : List A) : List V := io.filterMap fun i => (xs[i]?).map A.val
def spOf (c : Gx) (io : List Nat) (den : List W → Rf) (m : Nat) : Sp := fun vs H Q E => ∃ (B : Hp) (xs : List A), vs = vals xs ∧ xs.length = m ∧ G c ⟨H, B, ads (objsL c xs)⟩ B H xs ∧
  match den (xs.map A.er) with
  | .ok w us => ∀ B' H' x ys, Same B B' → G c ⟨H, B, ads (objsL c xs)⟩ B' H' (x :: ys) → x.er = w → ys.map A.er = us → vals ys = ioVals io xs → Q x.val H'
  | .ex cl _ us => ∀ B' H' ys, Same B B' → G c ⟨H, B, ads (objsL c xs)⟩ B' H' ys → ys.map A.er = us → vals ys = ioVals io xs → E (.ref (c.cls cl)) none H'
  | .bad => False
/-- a def that stands and keeps its promise -/
def FOk (c : Gx) (Γ : Den) (X : Cx) (f : Fn) : Prop := ∃ (a : Addr) (fd : FuncData) (ps : List Str) (lv : Nat), FnOk X.prog X.w X.K X.mg X.base (CX X.prog X.w) lv a fd ps (spOf c f.io (Γ f.id) f.ar) ∧ ps.length = f.ar ∧ Room lv X.A ∧ X.mg f.name = some (.ref a) ∧
  PySem.W.keepIn X.K (.ref a) = true ∧ Binds X.K fd ps []
structure XS (c : Gx) (Γ : Den) (k : Ck) (X : Cx) (W : WX) : Prop where
  ok : XOk c k X
  tk : Takes X W
  fns : ∀ f ∈ k.fns, FOk c Γ X f
  cons : ∀ p ∈ k.cons, ∃ u, X.mg p.1 = some u ∧ RelV p.2.v u

/-- an exception leaves -/
def KX (c : Gx) (n : En) (σ : St) (as : Sl) (B : Hp) (W : WX) (cl : Nat) (r : Env) : Prop := ∀ as1 B1 H1 T1 M1, Nx c n σ M1 as B as1 T1 B1 H1 → ers as1 = r → W (.ref (c.cls cl)) none σ H1
theorem KX.trans {c : Gx} {n : En} {σ : St} {as as1 : Sl} {B B1 H1 : Hp} {W : WX} {M : List Nat} {T1 : List A} (a : Nx c n σ M as B as1 T1 B1 H1) : ∀ cl r, KX c n σ as B W cl r → KX c n σ as1 B1 W cl r :=
  fun _ _ h as2 B2 H2 T2 M2 b e => h as2 B2 H2 T2 (M ++ M2) (a.trans b) e
/-- a text that may be tested as it is -/
def plT (e : Expr) : Bool := okT e || isCmp e
/-- EXPRESSIONS: e computes sem, touching the slots M at most -/
def ESnd (c : Gx) (X : Cx) (W : WX) (e : Expr) (M : List Nat) (sem : Env → Res (Vx.W × Env)) : Prop :=
  ∃ t, PE X e t ∧ (plT e = true → PT X e (tTest t)) ∧ ∀ (n : En) (σ : St) (as : Sl) (B H : Hp) (T : List A) (Q : VK), G c n B H (live as ++ T) → SR σ as →
    Kn (sem (ers as)) (fun a => ∀ as1 x B1 H1, Nx c n σ M as B as1 (x :: T) B1 H1 → x.er = a.1 → ers as1 = a.2 → Q x.val H1) (KX c n σ as B W) → t σ H Q
/-- .. as a test -/
def TSnd (c : Gx) (X : Cx) (W : WX) (e : Expr) (M : List Nat) (sem : Env → Res (Bool × Env)) : Prop :=
  ∃ t, PT X e t ∧ ∀ (n : En) (σ : St) (as : Sl) (B H : Hp) (T : List A) (Q : Bool → Hp → Prop), G c n B H (live as ++ T) → SR σ as →
    Kn (sem (ers as)) (fun a => ∀ as1 B1 H1, Nx c n σ M as B as1 T B1 H1 → ers as1 = a.2 → Q a.1 H1) (KX c n σ as B W) → t σ H Q
/-- a place -/
def PSnd (c : Gx) (X : Cx) (W : WX) (e : Expr) (M : List Nat) (sem : Env → Res ((Nat × List Nat) × Env)) : Prop :=
  ∃ t, PE X e t ∧ ∀ (n : En) (σ : St) (as : Sl) (B H : Hp) (T : List A) (Q : VK), G c n B H (live as ++ T) → SR σ as →
    Kn (sem (ers as)) (fun a => ∀ as1 v w B1 H1, Nx c n σ M as B as1 T B1 H1 → ers as1 = a.2 → PAt c B1 as1 a.1 v w → Q v H1) (KX c n σ as B W) → t σ H Q

section
variable {c : Gx} {Γ : Den} {k : Ck} {X : Cx} {W : WX} {n : En} {σ : St} {as as1 as2 : Sl} {B H B1 H1 B2 H2 : Hp} {T T1 T2 : List A} {M N : List Nat}
theorem Nx.dropT {x : A} (h : Nx c n σ M as B as1 (x :: T) B1 H1) : Nx c n σ M as B as1 T B1 H1 :=
  ⟨h.sb, Gd.drop1 (x := x) (Gd.perm h.gd List.perm_middle), h.sr, h.fr⟩
theorem Nx.drop2 {x y : A} (h : Nx c n σ M as B as1 (y :: x :: T) B1 H1) : Nx c n σ M as B as1 (y :: T) B1 H1 :=
  ⟨h.sb, by
    have g := h.gd
    have p : (live as1 ++ y :: x :: T).Perm (x :: (live as1 ++ y :: T)) := by
      refine (List.Perm.append_left _ (List.Perm.swap x y T)).trans ?_
      exact List.perm_middle
    exact Gd.drop1 (Gd.perm g p), h.sr, h.fr⟩
theorem Nx.hd {x : A} (h : Nx c n σ M as B as1 (x :: T) B1 H1) : x ∈ live as1 ++ x :: T := List.mem_append_right _ List.mem_cons_self
/-- a flat temporary -/
theorem Nx.int {x : A} {i : Int} (h : Nx c n σ M as B as1 (x :: T) B1 H1) (e : x.er = .fl (.int i)) : x.val = .int i := by
  have r := h.gd.lf x h.hd
  cases x with
  | fl v d =>
    have e2 : d = .int i := W.fl.inj e
    subst e2
    exact r
  | nd a dx k cs =>
    rw [A.er_nd] at e
    cases e
theorem Nx.bl {x : A} {i : Bool} (h : Nx c n σ M as B as1 (x :: T) B1 H1) (e : x.er = .fl (.bl i)) : x.val = .bl i := by
  have r := h.gd.lf x h.hd
  cases x with
  | fl v d =>
    have e2 : d = .bl i := W.fl.inj e
    subst e2
    exact r
  | nd a dx k cs =>
    rw [A.er_nd] at e
    cases e
/-- a place found earlier -/
theorem PAt.stab {q : Nat × List Nat} {v : V} {w w2 : Vx.W} (h : PAt c B1 as1 q v w) (x : Nx c n σ M as1 B1 as2 T2 B2 H2) (s1 : SR σ as1) (hq : q.2 = [] ∨ q.1 ∉ M) (e : eget (ers as2) q = some w2) : PAt c B2 as2 q v w2 := by
  rcases hq with hq | hq
  · obtain ⟨y, h1, h2⟩ := h
    rw [hq] at h2
    obtain ⟨e1, e2⟩ := h2
    unfold eget at e
    rw [ers_get] at e
    cases e3 : as2[q.1]? with
    | none =>
      rw [e3] at e
      cases e
    | some z =>
      cases z with
      | none =>
        rw [e3] at e
        cases e
      | some z =>
        rw [e3] at e
        have e4 : z.er.get q.2 = some w2 := e
        rw [hq, W.get_nil] at e4
        refine ⟨z, e3, ?_⟩
        rw [hq]
        have a1 := s1.2 _ _ h1
        have a2 := x.sr.2 _ _ e3
        rw [a1] at a2
        have a3 : y.val = z.val := Option.some.inj (Option.some.inj a2)
        exact ⟨e1.trans a3, (Option.some.inj e4).symm⟩
  · have h2 := h.mono x.sb (x.fr _ hq)
    have := h2.get
    rw [e] at this
    rw [Option.some.inj this]
    exact h2

/-! ### names -/
def visB (k : Ck) (i : Nat) (x : Str) : Bool := decide (k.N[i]? = some x) && (decide (k.sc.names.lookup x = some .local) || decide (k.sc.names.lookup x = some .cell) || decide (k.sc.names.lookup x = some .free)) && !(x == ("__debug__" : Str)) && !(x == ("__classdict__" : Str))
theorem vis_pe (x : XOk c k X) {i : Nat} {y : Str} {pos : Pos} (h : visB k i y = true) : PE X (.Name y pos) (tVar i) := by
  unfold visB at h
  obtain ⟨h123, h4⟩ := Bool.and_eq_true_iff.mp h
  obtain ⟨h12, h3⟩ := Bool.and_eq_true_iff.mp h123
  obtain ⟨h1, h2⟩ := Bool.and_eq_true_iff.mp h12
  refine pe_var (by rw [x.hN]; exact of_decide_eq_true h1) ?_ (by simpa using h3) (by simpa using h4)
  show _ ∨ _ ∨ _
  rw [x.sc]
  rcases Bool.or_eq_true_iff.mp h2 with h2 | h2
  · rcases Bool.or_eq_true_iff.mp h2 with h2 | h2
    · exact .inl (of_decide_eq_true h2)
    · exact .inr (.inl (of_decide_eq_true h2))
  · exact .inr (.inr (of_decide_eq_true h2))
theorem pl_of_ok {e : Expr} {t : TE} (h : PE X e t) (ho : okT e = true) : PT X e (tTest t) := pt_val h (test_ok ho)
theorem plN {e : Expr} {t : TE} (h : PE X e t) (hc : isCmp e = false) : plT e = true → PT X e (tTest t) := fun z => by
  unfold plT at z
  rw [hc, Bool.or_false] at z
  exact pl_of_ok h z
theorem psnd_sl (x : XOk c k X) {i : Nat} {y : Str} {pos : Pos} (h : visB k i y = true) : PSnd c X W (.Name y pos) [] (fun r => match r[i]? with
    | some (some _) => .ok ((i, []), r)
    | _ => .bad) := by
  refine ⟨tVar i, vis_pe x h, fun n σ as B H T Q g s hk => ?_⟩
  have e0 := ers_get (as := as) (i := i)
  dsimp only at hk
  cases e : as[i]? with
  | none =>
    rw [e0, e] at hk
    exact hk.elim
  | some z =>
    cases z with
    | none =>
      rw [e0, e] at hk
      exact hk.elim
    | some z =>
      rw [e0, e] at hk
      have hk' : ∀ as1 v w B1 H1, Nx c n σ [] as B as1 T B1 H1 → ers as1 = ers as → PAt c B1 as1 (i, []) v w → Q v H1 := hk
      exact ⟨z.val, s.2 i z e, hk' as z.val z.er B H (Nx.refl g s) rfl ⟨z, e, rfl, rfl⟩⟩

/-! ### places further in -/
theorem atI_of {vs : List V} {i : Int} {j : Nat} {u : V} (h : ixN vs.length i = some j) (e : vs[j]? = some u) : atI vs i = some u := by
  unfold atI
  rw [h]
  exact e
theorem ixN_lt {m : Nat} {i : Int} {j : Nat} (h : ixN m i = some j) : j < m := (ixN_seq h).2.1
theorem psnd_ix {p i : Expr} {Mp Mi : List Nat} {sp : Env → Res ((Nat × List Nat) × Env)} {si : Env → Res (Vx.W × Env)} {pos : Pos} (hp : PSnd c X W p Mp sp) (hi : ESnd c X W i Mi si) (hK : X.K = c.K) (ok : okE i = true)
    (st : ∀ r q r1, sp r = .ok (q, r1) → q.2 = [] ∨ q.1 ∉ Mi) :
    PSnd c X W (.Subscript p i pos) (Mp ++ Mi) (fun r => (sp r).bind fun (q, r1) => (si r1).bind fun (i, r2) => Res.of (((eget r2 q).bind fun w => stepIx w i).map fun j => ((q.1, q.2 ++ [j]), r2))) := by
  obtain ⟨tp, pp, kp⟩ := hp
  obtain ⟨ti, pi, _, ki⟩ := hi
  refine ⟨tOp (rIx X.K) tp ti, pe_ix ix_seq pp pi (ix_ok ok), fun n σ as B H T Q g s hk => ?_⟩
  refine kp n σ as B H T _ g s (hk.bind.mono ?_ fun _ _ z => z)
  rintro ⟨q, r1⟩ ea h as1 v w B1 H1 x1 (rfl : ers as1 = r1) pa
  refine ki n σ as1 B1 H1 T _ x1.gd x1.sr ((Kn.bind h).mono ?_ fun _ _ z => KX.trans x1 _ _ z)
  rintro ⟨b, r2⟩ eb h2 as2 y B2 H2 x2 e2 (rfl : ers as2 = r2)
  obtain ⟨⟨q', r'⟩, e4, h3⟩ := Kn.of h2
  obtain ⟨j, e5, e6⟩ := Option.map_eq_some_iff.mp e4
  obtain ⟨w2, e7, e8⟩ := Option.bind_eq_some_iff.mp e5
  have pa2 := pa.stab x2 x1.sr (st _ _ _ ea) e7
  unfold stepIx at e8
  injection e6 with e61 e62
  have fin : ∀ (u : V) (z : Vx.W), PAt c B2 as2 (q.1, q.2 ++ [j]) u z → Q u H2 := fun u z pz => by
    refine h3 as2 u z B2 H2 (x1.trans x2.dropT) e62 ?_
    have e61' : (q.1, q.2 ++ [j]) = q' := e61
    show PAt c B2 as2 q' u z
    rw [← e61']
    exact pz
  split at e8
  · rename_i m i' ek
    obtain ⟨a', vs, g1, g2, g3, g4, g5⟩ := PAt.kids x2.gd pa2 ek
    obtain ⟨u, z, g6, g7⟩ := g5 j (ixN_lt e8)
    have hy : y.val = .int i' := x2.int e2
    refine .inl ⟨a', vs, i', u, g1, hy, .inl (.inl g2), atI_of (by rw [g3]; exact e8) g6, fin u z g7⟩
  · rename_i m i' ek
    obtain ⟨a', vs, g1, g2, g3, g4, g5⟩ := PAt.kids x2.gd pa2 ek
    obtain ⟨u, z, g6, g7⟩ := g5 j (ixN_lt e8)
    have hy : y.val = .int i' := x2.int e2
    refine .inr (.inl ⟨a', vs, i', u, g1, hy, .inl (.inl g2), atI_of (by rw [g3]; exact e8) g6, fin u z g7⟩)
  · cases e8
theorem look_at {α : Type} [DecidableEq α] {k : α} : ∀ {ks : List α} {us : List V} {j : Nat} {u : V}, atZ ks k = some j → us[j]? = some u → valV (ks.zip us) k = some u
  | [], _, _, _, h, _ => by cases h
  | a :: ks, [], j, u, h, h2 => by simp at h2
  | a :: ks, v :: us, j, u, h, h2 => by
    have h' : (if a = k then some 0 else (atZ ks k).map (· + 1)) = some j := h
    by_cases e : a = k
    · rw [if_pos e] at h'
      have e2 := Option.some.inj h'
      subst e2
      have e3 : v = u := by simpa using h2
      rw [← e3]
      exact valV_pos (p := (a, v)) e
    · rw [if_neg e] at h'
      obtain ⟨i, q1, q2⟩ := Option.map_eq_some_iff.mp h'
      subst q2
      have : valV ((a :: ks).zip (v :: us)) k = valV (ks.zip us) k := valV_neg (p := (a, v)) e
      rw [this]
      exact look_at q1 (by simpa using h2)
theorem atZ_lt {α : Type} [DecidableEq α] {k : α} : ∀ {ks : List α} {j : Nat}, atZ ks k = some j → j < ks.length
  | [], _, h => by cases h
  | a :: ks, j, h => by
    have h' : (if a = k then some 0 else (atZ ks k).map (· + 1)) = some j := h
    by_cases e : a = k
    · rw [if_pos e] at h'
      have e2 := Option.some.inj h'
      subst e2
      exact Nat.succ_pos _
    · rw [if_neg e] at h'
      obtain ⟨i, q1, q2⟩ := Option.map_eq_some_iff.mp h'
      subst q2
      exact Nat.succ_lt_succ (atZ_lt q1)
theorem psnd_ky {p i : Expr} {Mp Mi : List Nat} {sp : Env → Res ((Nat × List Nat) × Env)} {si : Env → Res (Vx.W × Env)} {pos : Pos} (hp : PSnd c X W p Mp sp) (hi : ESnd c X W i Mi si) (x : XOk c k X) (ok : okE i = true)
    (st : ∀ r q r1, sp r = .ok (q, r1) → q.2 = [] ∨ q.1 ∉ Mi) :
    PSnd c X W (.Subscript p i pos) (Mp ++ Mi) (fun r => (sp r).bind fun (q, r1) => (si r1).bind fun (i, r2) => Res.of (((eget r2 q).bind fun w => stepKy w i).map fun j => ((q.1, q.2 ++ [j]), r2))) := by
  obtain ⟨tp, pp, kp⟩ := hp
  obtain ⟨ti, pi, _, ki⟩ := hi
  have hu : X.A.units + 1 < cLine := hu_of x.room
  refine ⟨tDGet tp ti, pe_dget hu pp pi (noSl_ok ok), fun n σ as B H T Q g s hk => ?_⟩
  refine kp n σ as B H T _ g s (hk.bind.mono ?_ fun _ _ z => z)
  rintro ⟨q, r1⟩ ea h as1 v w B1 H1 x1 (rfl : ers as1 = r1) pa
  refine ki n σ as1 B1 H1 T _ x1.gd x1.sr ((Kn.bind h).mono ?_ fun _ _ z => KX.trans x1 _ _ z)
  rintro ⟨b, r2⟩ eb h2 as2 y B2 H2 x2 e2 (rfl : ers as2 = r2)
  obtain ⟨⟨q', r'⟩, e4, h3⟩ := Kn.of h2
  obtain ⟨j, e5, e6⟩ := Option.map_eq_some_iff.mp e4
  obtain ⟨w2, e7, e8⟩ := Option.bind_eq_some_iff.mp e5
  have pa2 := pa.stab x2 x1.sr (st _ _ _ ea) e7
  unfold stepKy at e8
  injection e6 with e61 e62
  have fin : ∀ (u : V) (z : Vx.W), PAt c B2 as2 (q.1, q.2 ++ [j]) u z → Q u H2 := fun u z pz => by
    refine h3 as2 u z B2 H2 (x1.trans x2.dropT) e62 ?_
    have e61' : (q.1, q.2 ++ [j]) = q' := e61
    show PAt c B2 as2 q' u z
    rw [← e61']
    exact pz
  have vw : RepD c H2 b.dat y.val := by
    rw [show b = y.er from e2.symm]
    exact Gd.view x2.gd x2.hd
  split at e8
  · rename_i ks m ek
    obtain ⟨kk, q1, q2⟩ := Option.bind_eq_some_iff.mp e8
    obtain ⟨a', vs, g1, g2, g3, g4, g5⟩ := PAt.kids x2.gd pa2 ek
    have hj : j < m := Nat.lt_of_lt_of_eq (atZ_lt q2) g4
    obtain ⟨u, z, g6, g7⟩ := g5 j hj
    exact ⟨a', u, g1, .inl ⟨ks.zip vs, kk, g2, key_rep (B := H2) q1 vw, (look_at q2 g6).symm⟩, fin u z g7⟩
  · rename_i ks m ek
    obtain ⟨kk, q1, q2⟩ := Option.bind_eq_some_iff.mp e8
    obtain ⟨a', vs, g1, g2, g3, g4, g5⟩ := PAt.kids x2.gd pa2 ek
    have hj : j < m := Nat.lt_of_lt_of_eq (atZ_lt q2) g4
    obtain ⟨u, z, g6, g7⟩ := g5 j hj
    obtain ⟨t, t1, t2⟩ := keyT_rep q1 vw
    exact ⟨a', u, g1, .inr ⟨ks.zip vs, kk, t, g2, t1, t2, (look_at q2 g6).symm⟩, fin u z g7⟩
  · cases e8
end
end Vx
end

section
set_option maxHeartbeats 4000000
/-! Vx 11: expressions, form by form (2). -/
namespace Vx
open PySem L2
section
variable {c : Gx} {Γ : Den} {k : Ck} {X : Cx} {Y : WX} {n : En} {σ : St} {as as1 as2 : Sl} {B H B1 H1 B2 H2 : Hp} {T T1 T2 : List A} {M N : List Nat}
abbrev Sm (α : Type) := Env → Res (α × Env)
/-- a value known for good is handed out -/
theorem Nx.add {v : V} {d : D} (h : Nx c n σ M as B as1 T B1 H1) (r : RepD c B1 d v) : Nx c n σ M as B as1 (.fl v d :: T) B1 H1 :=
  ⟨h.sb, Gd.perm (Gd.add h.gd r) (List.perm_middle (a := A.fl v d)).symm, h.sr, h.fr⟩
theorem W.sub_nil {w : W} : w.sub [] = some w := by
  cases w <;> rfl
theorem snd_gt {e : Expr} {Mp : List Nat} {sp : Sm (Nat × List Nat)} (hp : PSnd c X Y e Mp sp) (ho : okT e = true) : ESnd c X Y e Mp (fun r => (sp r).bind fun (q, r1) => match eget r1 q with
    | some (.fl d) => .ok (.fl d, r1)
    | _ => .bad) := by
  obtain ⟨t, pe, kp⟩ := hp
  refine ⟨t, pe, fun _ => pl_of_ok pe ho, fun n σ as B H T Q g s hk => kp n σ as B H T Q g s (hk.bind.mono ?_ fun _ _ z => z)⟩
  rintro ⟨q, r1⟩ ea h as1 v w B1 H1 x1 (rfl : ers as1 = r1) pa
  have e1 := pa.get
  dsimp only at h e1
  rw [e1] at h
  cases w with
  | nd k cs => exact h.elim
  | fl d =>
    have h' : ∀ as2 x B2 H2, Nx c n σ Mp as B as2 (x :: T) B2 H2 → x.er = .fl d → ers as2 = ers as1 → Q x.val H2 := h
    obtain ⟨y, y1, y2⟩ := id pa
    exact h' as1 (.fl v d) B1 H1 (x1.add (A.at_rep (x1.gd.lf y (List.mem_append_left _ (live_mem y1))) y2)) rfl rfl
theorem snd_rd {e : Expr} {Mp : List Nat} {root : Nat} {sp : Sm (Nat × List Nat)} (hp : PSnd c X Y e Mp sp) (ho : okT e = true) (hroot : ∀ r q r1, sp r = .ok (q, r1) → q.1 = root) :
    ESnd c X Y e (root :: Mp) (fun r => (sp r).bind fun (q, r1) => Res.of (readAt r1 q)) := by
  obtain ⟨t, pe, kp⟩ := hp
  refine ⟨t, pe, fun _ => pl_of_ok pe ho, fun n σ as B H T Q g s hk => kp n σ as B H T Q g s (hk.bind.mono ?_ fun _ _ z => z)⟩
  rintro ⟨q, r1⟩ ea h as1 v w B1 H1 x1 (rfl : ers as1 = r1) pa
  obtain ⟨⟨w', r2⟩, e1, h2⟩ := Kn.of h
  have e2 := pa.get
  unfold readAt at e1
  dsimp only at e2
  rw [e2] at e1
  obtain ⟨y, y1, y2⟩ := id pa
  have hq : q.1 = root := hroot _ _ _ ea
  cases w with
  | fl d =>
    have e3 : (W.fl d, ers as1) = (w', r2) := Option.some.inj e1
    injection e3 with e3 e4
    subst e3
    subst e4
    exact h2 as1 (.fl v d) B1 H1 ((x1.add (A.at_rep (x1.gd.lf y (List.mem_append_left _ (live_mem y1))) y2)).mono fun i hi => List.mem_cons_of_mem _ hi) rfl rfl
  | nd k cs =>
    have e3 : (W.fl (W.nd k cs).dat, W.setAt (ers as1) q.1 q.2 (.fl (W.nd k cs).dat)) = (w', r2) := Option.some.inj e1
    injection e3 with e3 e4
    obtain ⟨a, dx, xs, z1, z2, z3⟩ := A.at_sub y2
    obtain ⟨B2, s2, g2, r2'⟩ := G.freezeAt x1.gd y1 z1
    have ed : (A.nd a dx k xs).er = .nd k cs := by rw [A.er_nd, z2]
    rw [ed] at g2 r2'
    have hv : (A.nd a dx k xs).val = v := z3.symm
    rw [hv] at g2 r2'
    obtain ⟨R, p1, p2⟩ := A.put_at (c := c) z1
    have pv := (p2 (.fl v (W.nd k cs).dat) hv.symm).1
    refine h2 (as1.set q.1 (some (y.put q.2 (.fl v (W.nd k cs).dat)))) (.fl v (W.nd k cs).dat) B2 H1 ⟨x1.sb.trans s2, g2, x1.sr.chg y1 pv, fun i hi => ?_⟩ (by rw [← e3]; rfl) ?_
    · rw [List.getElem?_set_ne (by rw [hq]; exact fun z => hi (by rw [z]; exact List.mem_cons_self))]
      exact x1.fr i fun z => hi (List.mem_cons_of_mem _ z)
    · rw [← e4, ers_set]
      unfold W.setAt
      rw [ers_get, y1]
      show (ers as1).set q.1 (some (y.put q.2 (.fl v (W.nd k cs).dat)).er) = _
      rw [A.er_put]
      rfl
theorem snd_mv (x : XOk c k X) {i : Nat} {y : Str} {pos : Pos} (h : visB k i y = true) : ESnd c X Y (.Name y pos) [i] (fun r => match r[i]? with
    | some (some w) => .ok (w, r.set i none)
    | _ => .bad) := by
  refine ⟨tVar i, vis_pe x h, fun _ => pl_of_ok (vis_pe x h) rfl, fun n σ as B H T Q g s hk => ?_⟩
  have e0 := ers_get (as := as) (i := i)
  dsimp only at hk
  cases e : as[i]? with
  | none =>
    rw [e0, e] at hk
    exact hk.elim
  | some z =>
    cases z with
    | none =>
      rw [e0, e] at hk
      exact hk.elim
    | some z =>
      rw [e0, e] at hk
      have hk' : ∀ as1 x B1 H1, Nx c n σ [i] as B as1 (x :: T) B1 H1 → x.er = z.er → ers as1 = (ers as).set i none → Q x.val H1 := hk
      refine ⟨z.val, s.2 i z e, hk' (as.set i none) z B H ⟨Same.refl _, g.take e, s.take, fun j hj => List.getElem?_set_ne fun z => hj (by rw [z]; exact List.mem_singleton.mpr rfl)⟩ rfl (by rw [ers_set]; rfl)⟩
/-- constants -/
theorem snd_flat {e : Expr} {d : D} {v : V} (pe : PE X e (tC v)) (ho : okT e = true) (hf : d.flat = true) (hv : d.v = v) : ESnd c X Y e [] (fun r => if d.flat then .ok (.fl d, r) else .bad) := by
  refine ⟨tC v, pe, fun _ => pl_of_ok pe ho, fun n σ as B H T Q g s hk => ?_⟩
  dsimp only at hk
  rw [if_pos hf] at hk
  have r : RepD c B d v := by
    cases d with
    | nd k cs => cases hf
    | _ => exact hv.symm
  exact hk as (.fl v d) B H ((Nx.refl g s).add r) rfl rfl
/-- a child of a temporary -/
theorem snd_ixT {a b : Expr} {Ma Mb : List Nat} {sa sb : Sm Vx.W} {pos : Pos} (ha : ESnd c X Y a Ma sa) (hb : ESnd c X Y b Mb sb) (ok : okE b = true) :
    ESnd c X Y (.Subscript a b pos) (Ma ++ Mb) (fun r => (sa r).bind fun (x, r1) => (sb r1).bind fun (i, r2) => Res.of ((kids1 x i).map fun w => (w, r2))) := by
  obtain ⟨ta, pa, _, ka⟩ := ha
  obtain ⟨tb, pb, _, kb⟩ := hb
  have pe := pe_ix (X := X) (pos := pos) ix_seq pa pb (ix_ok ok)
  refine ⟨_, pe, fun _ => pl_of_ok pe rfl, fun n σ as B H T Q g s hk => ?_⟩
  refine ka n σ as B H T _ g s (hk.bind.mono ?_ fun _ _ z => z)
  rintro ⟨wa, r1⟩ ea h as1 x B1 H1 x1 (ex : x.er = wa) (rfl : ers as1 = r1)
  refine kb n σ as1 B1 H1 (x :: T) _ x1.gd x1.sr ((Kn.bind h).mono ?_ fun _ _ z => KX.trans x1 _ _ z)
  rintro ⟨wb, r2⟩ eb h2 as2 y B2 H2 x2 (ey : y.er = wb) (rfl : ers as2 = r2)
  obtain ⟨⟨w', r'⟩, e4, h3⟩ := Kn.of h2
  obtain ⟨wc, e5, e6⟩ := Option.map_eq_some_iff.mp e4
  injection e6 with e61 e62
  subst e61
  subst e62
  obtain ⟨j, e7, e8⟩ := Option.bind_eq_some_iff.mp e5
  subst ex
  subst ey
  -- the index
  have hx : ∃ kd m i', x.er.kids = some (kd, m) ∧ (kd = .lst ∨ kd = .tup) ∧ y.er = .fl (.int i') ∧ ixN m i' = some j := by
    unfold stepIx at e7
    split at e7
    · rename_i m i' h1 h2
      exact ⟨.lst, m, i', h1, .inl rfl, h2, e7⟩
    · rename_i m i' h1 h2
      exact ⟨.tup, m, i', h1, .inr rfl, h2, e7⟩
    · cases e7
  obtain ⟨kd, m, i', k1, k2, k3, k4⟩ := hx
  have hy : y.val = .int i' := x2.int k3
  have xt := x1.trans x2.dropT
  cases x with
  | fl v0 d0 =>
    have rp : RepD c B2 d0 v0 := x2.gd.lf (.fl v0 d0) (List.mem_append_right _ (List.mem_cons_of_mem _ List.mem_cons_self))
    cases d0 with
    | nd kd' ds =>
      have k1' : (some (kd', ds.length) : Option (Kd × Nat)) = some (kd, m) := k1
      injection k1' with k1'
      injection k1' with q1 q2
      subst q1
      subst q2
      obtain ⟨a', vs, g1, g2, g3, g4⟩ := rp
      have hj := ixN_lt k4
      have hj2 : j < vs.length := by rw [← g4.len]; exact hj
      have e9 : (D.get (.nd kd' ds) [j]).map W.fl = some wc := e8
      have e10 : D.get (.nd kd' ds) [j] = some ds[j] := by
        show (ds[j]?).bind _ = _
        rw [List.getElem?_eq_getElem hj]
        exact D.get_nil
      rw [e10] at e9
      have e11 := Option.some.inj e9
      have rj : RepD c B2 ds[j] vs[j] := RepDs.at g4 (List.getElem?_eq_getElem hj) (List.getElem?_eq_getElem hj2)
      have fin : Q vs[j] H2 := h3 as2 (.fl vs[j] ds[j]) B2 H2 (xt.dropT.add rj) e11 rfl
      have at' : atI vs i' = some vs[j] := atI_of (by rw [← g4.len]; exact k4) (List.getElem?_eq_getElem hj2)
      rcases k2 with rfl | rfl
      · exact .inl ⟨a', vs, i', vs[j], g1, hy, .inl (.inl (x2.gd.sub _ _ g3)), at', fin⟩
      · exact .inr (.inl ⟨a', vs, i', vs[j], g1, hy, .inl (.inl (x2.gd.sub _ _ g3)), at', fin⟩)
    | _ => cases k1
  | nd a' dx kd' xs =>
    rw [A.er_nd] at k1 e8
    have k1' : (some (kd', (xs.map A.er).length) : Option (Kd × Nat)) = some (kd, m) := k1
    injection k1' with k1'
    injection k1' with q1 q2
    subst q1
    rw [List.length_map] at q2
    subst q2
    have hj := ixN_lt k4
    have e9 : ((xs.map A.er)[j]?).bind (fun y => y.get []) = some wc := e8
    rw [List.getElem?_map, List.getElem?_eq_getElem hj] at e9
    have e10 : (xs[j].er).get [] = some wc := e9
    rw [W.get_nil] at e10
    have hx0 : H2 a' = some (kd'.ho c dx (vals xs)) := (x2.gd.hold (a', kd'.ho c dx (vals xs)) (mem_objsL (x := .nd a' dx kd' xs) (List.mem_append_right _ (List.mem_cons_of_mem _ List.mem_cons_self)) List.mem_cons_self)).1
    -- the child is taken out, the rest is let go
    have gd2 : G c n B2 H2 (live as2 ++ xs[j] :: T) := by
      obtain ⟨R, r1, _⟩ := objsL_set (c := c) (List.getElem?_eq_getElem hj)
      have g0 := x2.dropT.gd
      have lfx := g0.lf (.nd a' dx kd' xs) (List.mem_append_right _ List.mem_cons_self)
      have p0 : (objsL c (live as2 ++ A.nd a' dx kd' xs :: T)).Perm (((a', kd'.ho c dx (vals xs)) :: (kd'.xtr a' dx ++ R)) ++ objsL c (live as2 ++ xs[j] :: T)) := by
        rw [objsL_append, objsL_append]
        show (objsL c (live as2) ++ (((a', kd'.ho c dx (vals xs)) :: (kd'.xtr a' dx ++ objsL c xs)) ++ objsL c T)).Perm (((a', kd'.ho c dx (vals xs)) :: (kd'.xtr a' dx ++ R)) ++ (objsL c (live as2) ++ (xs[j].objs c ++ objsL c T)))
        refine List.Perm.trans (List.Perm.append_left _ (List.Perm.append_right _ (List.Perm.cons _ (List.Perm.append_left _ (r1.trans List.perm_append_comm))))) ?_
        simp only [List.cons_append, List.append_assoc]
        refine List.perm_middle.trans (List.Perm.cons _ ?_)
        have sw : ∀ u v w : List (Addr × HO), (u ++ (v ++ w)).Perm (v ++ (u ++ w)) := fun u v w => by
          rw [← List.append_assoc, ← List.append_assoc]
          exact List.Perm.append_right _ List.perm_append_comm
        refine (sw _ _ _).trans (List.Perm.append_left _ ?_)
        exact (sw _ _ _)
      exact {
        b0 := g0.b0
        sub := g0.sub
        hold := fun q hq => g0.hold q (p0.mem_iff.mpr (List.mem_append_right _ hq))
        nd := by
          have h := (p0.map Prod.fst).nodup_iff.mp g0.nd
          rw [List.map_append] at h
          exact (List.nodup_append.mp h).2.1
        lf := fun z hz => by
          rcases List.mem_append.mp hz with hz | hz
          · exact g0.lf z (List.mem_append_left _ hz)
          · rcases List.mem_cons.mp hz with e | hz
            · rw [e]
              exact okL_get lfx.2 (List.getElem?_eq_getElem hj)
            · exact g0.lf z (List.mem_append_right _ (List.mem_cons_of_mem _ hz))
        fr := g0.fr
        nw := fun b hb => g0.nw b (hb.imp id fun z => by
          refine ((p0.map Prod.fst).mem_iff).mpr ?_
          rw [List.map_append]
          exact List.mem_append_right _ z) }
    have fin : Q xs[j].val H2 := h3 as2 xs[j] B2 H2 ⟨xt.sb, gd2, xt.sr, xt.fr⟩ (Option.some.inj e10) rfl
    have at' : atI (vals xs) i' = some xs[j].val := atI_of (by simpa using k4) (by simp [List.getElem?_eq_getElem hj])
    rcases k2 with rfl | rfl
    · exact .inl ⟨a', vals xs, i', xs[j].val, rfl, hy, .inl (.inl hx0), at', fin⟩
    · exact .inr (.inl ⟨a', vals xs, i', xs[j].val, rfl, hy, .inl (.inl hx0), at', fin⟩)
end
end Vx
end

section
set_option maxHeartbeats 4000000
/-! Vx 12: expressions, form by form (3). -/
namespace Vx
open PySem L2
section
variable {c : Gx} {Γ : Den} {k : Ck} {X : Cx} {Y : WX} {n : En} {σ : St} {as as1 as2 : Sl} {B H B1 H1 B2 H2 : Hp} {T T1 T2 : List A} {M N : List Nat}
theorem Nx.permT (h : Nx c n σ M as B as1 T1 B1 H1) (p : T1.Perm T2) : Nx c n σ M as B as1 T2 B1 H1 := ⟨h.sb, Gd.perm h.gd (List.Perm.append_left _ p), h.sr, h.fr⟩
theorem Nx.dropL : ∀ {xs : List A}, Nx c n σ M as B as1 (xs ++ T) B1 H1 → Nx c n σ M as B as1 T B1 H1
  | [], h => h
  | x :: xs, h => Nx.dropL (xs := xs) (Nx.dropT h)
/-- a list of temporaries -/
def LSnd (c : Gx) (X : Cx) (Y : WX) (es : List Expr) (M : List Nat) (sems : Sm (List W)) : Prop :=
  ∃ ts, PEs X es ts ∧ ∀ (n : En) (σ : St) (as : Sl) (B H : Hp) (T : List A) (Q : List V → Hp → Prop), G c n B H (live as ++ T) → SR σ as →
    Kn (sems (ers as)) (fun a => ∀ as1 xs B1 H1, Nx c n σ M as B as1 (xs ++ T) B1 H1 → xs.map A.er = a.1 → ers as1 = a.2 → Q (vals xs) H1) (KX c n σ as B Y) → tN ts σ H Q
theorem lsnd_nil : LSnd c X Y [] [] (fun r => .ok ([], r)) := ⟨[], rfl, fun n σ as B H T Q g s hk => by
  have hk' : ∀ as1 xs B1 H1, Nx c n σ [] as B as1 (xs ++ T) B1 H1 → xs.map A.er = [] → ers as1 = ers as → Q (vals xs) H1 := hk
  exact hk' as [] B H (Nx.refl g s) rfl rfl⟩
theorem lsnd_cons {e : Expr} {es : List Expr} {Me Ms : List Nat} {se : Sm W} {ss : Sm (List W)} (he : ESnd c X Y e Me se) (hs : LSnd c X Y es Ms ss) :
    LSnd c X Y (e :: es) (Me ++ Ms) (fun r => (se r).bind fun (w, r1) => (ss r1).bind fun (ws, r2) => .ok (w :: ws, r2)) := by
  obtain ⟨t, pe, _, ke⟩ := he
  obtain ⟨ts, ps, ks⟩ := hs
  refine ⟨t :: ts, ⟨t, ts, rfl, pe, ps⟩, fun n σ as B H T Q g s hk => ?_⟩
  refine ke n σ as B H T _ g s (hk.bind.mono ?_ fun _ _ z => z)
  rintro ⟨w, r1⟩ ea h as1 x B1 H1 x1 (ex : x.er = w) (rfl : ers as1 = r1)
  refine ks n σ as1 B1 H1 (x :: T) _ x1.gd x1.sr ((Kn.bind h).mono ?_ fun _ _ z => KX.trans x1 _ _ z)
  rintro ⟨ws, r2⟩ eb h2 as2 xs B2 H2 x2 (exs : xs.map A.er = ws) (rfl : ers as2 = r2)
  have h2' : ∀ as3 ys B3 H3, Nx c n σ (Me ++ Ms) as B as3 (ys ++ T) B3 H3 → ys.map A.er = w :: ws → ers as3 = ers as2 → Q (vals ys) H3 := h2
  refine h2' as2 (x :: xs) B2 H2 ((x1.trans x2).permT ?_) ?_ rfl
  · exact List.perm_middle
  · rw [List.map_cons, ex, exs]

theorem Nx.alloc {xs : List A} {kd : Kd} {p : Addr} (h : Nx c n σ M as B as1 (xs ++ T) B1 H1) (hp : H1 p = none) (hk : kd.xtr p 0 = []) (hf : kd.fits xs.length) : Nx c n σ M as B as1 (.nd p 0 kd xs :: T) B1 (upd H1 p (kd.ho c 0 (vals xs))) := by
  have g1 : G c n B1 H1 (xs ++ (live as1 ++ T)) := Gd.perm h.gd (by
    rw [← List.append_assoc, ← List.append_assoc]
    exact List.Perm.append_right _ List.perm_append_comm)
  exact ⟨h.sb, Gd.perm (Gd.alloc g1 hp hk hf) (List.perm_middle (a := A.nd p 0 kd xs)).symm, h.sr, h.fr⟩
theorem Nx.freeze {x : A} (h : Nx c n σ M as B as1 (x :: T) B1 H1) : ∃ B2, Nx c n σ M as B as1 (.fl x.val x.er.dat :: T) B2 H1 ∧ Same B1 B2 := by
  obtain ⟨B2, s, g⟩ := Gd.freeze (Gd.perm h.gd (List.perm_middle (a := x)))
  exact ⟨B2, ⟨h.sb.trans s, Gd.perm g (List.perm_middle (a := A.fl x.val x.er.dat)).symm, h.sr, h.fr⟩, s⟩
theorem snd_fz {e : Expr} {Me : List Nat} {se : Sm W} (he : ESnd c X Y e Me se) : ESnd c X Y e Me (fun r => (se r).bind fun (w, r1) => .ok (.fl w.dat, r1)) := by
  obtain ⟨t, pe, pt, ke⟩ := he
  refine ⟨t, pe, pt, fun n σ as B H T Q g s hk => ke n σ as B H T Q g s (hk.bind.mono ?_ fun _ _ z => z)⟩
  rintro ⟨w, r1⟩ ea h as1 x B1 H1 x1 (ex : x.er = w) (rfl : ers as1 = r1)
  have h' : ∀ as2 y B2 H2, Nx c n σ Me as B as2 (y :: T) B2 H2 → y.er = .fl w.dat → ers as2 = ers as1 → Q y.val H2 := h
  obtain ⟨B2, x2, _⟩ := x1.freeze
  exact h' as1 (.fl x.val x.er.dat) B2 H1 x2 (by rw [← ex]; rfl) rfl
theorem snd_lst {es : List Expr} {Ms : List Nat} {ss : Sm (List W)} {pos : Pos} (hs : LSnd c X Y es Ms ss) (ok : es.all okE = true) :
    ESnd c X Y (.List es pos) Ms (fun r => (ss r).bind fun (ws, r1) => if small ws.length then .ok (.nd .lst ws, r1) else .bad) := by
  obtain ⟨ts, ps, ks⟩ := hs
  have pe := pe_lst (X := X) (pos := pos) (PEs.pa ok ps)
  refine ⟨_, pe, plN pe rfl, fun n σ as B H T Q g s hk => ?_⟩
  refine ks n σ as B H T _ g s (hk.bind.mono ?_ fun _ _ z => z)
  rintro ⟨ws, r1⟩ ea h as1 xs B1 H1 x1 (exs : xs.map A.er = ws) (rfl : ers as1 = r1)
  dsimp only at h
  by_cases hz : small ws.length = true
  · rw [if_pos hz] at h
    have h' : ∀ as2 y B2 H2, Nx c n σ Ms as B as2 (y :: T) B2 H2 → y.er = .nd .lst ws → ers as2 = ers as1 → Q y.val H2 := h
    refine ⟨by rw [List.length_map]; rw [← exs, List.length_map] at hz; exact small_sz hz, fun p hp => ?_⟩
    exact h' as1 (.nd p 0 .lst xs) B1 _ (x1.alloc hp rfl trivial) (by rw [A.er_nd, exs]) rfl
  · rw [if_neg hz] at h
    exact h.elim
theorem mk_er {xs : List A} {p : Addr} : (if (xs.map A.er).all W.isFl = true then W.fl (A.nd p 0 .tup xs).er.dat else (A.nd p 0 .tup xs).er) = mkT (xs.map A.er) := by
  unfold mkT
  split
  · rename_i h
    rw [A.er_nd, W.dat_nd]
    congr 2
    refine List.map_congr_left fun w hw => ?_
    have := List.all_eq_true.mp h w hw
    cases w with
    | fl d => rfl
    | nd k cs => cases this
  · rw [A.er_nd]
theorem snd_tup {es : List Expr} {Ms : List Nat} {ss : Sm (List W)} {kk : Nat} {pos : Pos} (hs : LSnd c X Y es Ms ss) (ok : es.all okE = true) :
    ESnd c X Y (.Tuple es kk pos) Ms (fun r => (ss r).bind fun (ws, r1) => if small ws.length then .ok (mkT ws, r1) else .bad) := by
  obtain ⟨ts, ps, ks⟩ := hs
  have pe := pe_tup (X := X) (pos := pos) (x1 := kk) (PEs.pa ok ps)
  refine ⟨_, pe, plN pe rfl, fun n σ as B H T Q g s hk => ?_⟩
  refine ks n σ as B H T _ g s (hk.bind.mono ?_ fun _ _ z => z)
  rintro ⟨ws, r1⟩ ea h as1 xs B1 H1 x1 (exs : xs.map A.er = ws) (rfl : ers as1 = r1)
  dsimp only at h
  by_cases hz : small ws.length = true
  · rw [if_pos hz] at h
    have h' : ∀ as2 y B2 H2, Nx c n σ Ms as B as2 (y :: T) B2 H2 → y.er = mkT ws → ers as2 = ers as1 → Q y.val H2 := h
    refine ⟨by rw [List.length_map]; rw [← exs, List.length_map] at hz; exact small_sz hz, fun p hp => ?_⟩
    have x2 := x1.alloc (kd := .tup) hp rfl trivial
    rw [← exs, ← mk_er (p := p)] at h'
    by_cases ha : (xs.map A.er).all W.isFl = true
    · rw [if_pos ha] at h'
      obtain ⟨B2, x3, _⟩ := x2.freeze
      exact h' as1 _ B2 _ x3 rfl rfl
    · rw [if_neg ha] at h'
      exact h' as1 _ B1 _ x2 rfl rfl
  · rw [if_neg hz] at h
    exact h.elim
theorem snd_dnK {pos : Pos} : ESnd c X Y (.Dict [] [] pos) [] (fun r => .ok (.nd (.dK []) [], r)) :=
  ⟨tDNewK, pe_dnewK, plN pe_dnewK rfl, fun n σ as B H T Q g s hk p hp => by
    have hk' : ∀ as1 x B1 H1, Nx c n σ [] as B as1 (x :: T) B1 H1 → x.er = .nd (.dK []) [] → ers as1 = ers as → Q x.val H1 := hk
    exact hk' as (.nd p 0 (.dK []) []) B _ (Nx.alloc (xs := []) (kd := .dK []) (Nx.refl g s) hp rfl rfl) (A.er_nd _ _ _ _) rfl⟩
theorem snd_dnT {pos : Pos} : ESnd c X Y (.Dict [] [] pos) [] (fun r => .ok (.nd (.dT []) [], r)) :=
  ⟨tDNewT, pe_dnewT, plN pe_dnewT rfl, fun n σ as B H T Q g s hk p hp => by
    have hk' : ∀ as1 x B1 H1, Nx c n σ [] as B as1 (x :: T) B1 H1 → x.er = .nd (.dT []) [] → ers as1 = ers as → Q x.val H1 := hk
    exact hk' as (.nd p 0 (.dT []) []) B _ (Nx.alloc (xs := []) (kd := .dT []) (Nx.refl g s) hp rfl rfl) (A.er_nd _ _ _ _) rfl⟩

/-! ### operands -/
inductive Ov where
  | t (x : A) | p (q : Nat × List Nat) (v : V)
def Ov.rv : Ov → Rv
  | .t x => .t x.er
  | .p q _ => .p q
def Ov.v : Ov → V
  | .t x => x.val
  | .p _ v => v
def temps : List Ov → List A
  | [] => []
  | .t x :: us => x :: temps us
  | .p _ _ :: us => temps us
/-- the places are where they were found -/
def POk (c : Gx) (B : Hp) (as : Sl) (us : List Ov) : Prop := ∀ q v, Ov.p q v ∈ us → ∀ w, eget (ers as) q = some w → PAt c B as q v w
def OLSnd (c : Gx) (X : Cx) (Y : WX) (es : List Expr) (M : List Nat) (sems : Sm (List Rv)) : Prop :=
  ∃ ts, PEs X es ts ∧ ∀ (n : En) (σ : St) (as : Sl) (B H : Hp) (T : List A) (Q : List V → Hp → Prop), G c n B H (live as ++ T) → SR σ as →
    Kn (sems (ers as)) (fun a => ∀ as1 us B1 H1, Nx c n σ M as B as1 (temps us ++ T) B1 H1 → us.map Ov.rv = a.1 → ers as1 = a.2 → POk c B1 as1 us → Q (us.map Ov.v) H1) (KX c n σ as B Y) → tN ts σ H Q
theorem olsnd_nil : OLSnd c X Y [] [] (fun r => .ok ([], r)) := ⟨[], rfl, fun n σ as B H T Q g s hk => by
  have hk' : ∀ as1 us B1 H1, Nx c n σ [] as B as1 (temps us ++ T) B1 H1 → us.map Ov.rv = [] → ers as1 = ers as → POk c B1 as1 us → Q (us.map Ov.v) H1 := hk
  exact hk' as [] B H (Nx.refl g s) rfl rfl fun q v h => by cases h⟩
theorem olsnd_t {e : Expr} {es : List Expr} {Me Ms : List Nat} {se : Sm W} {ss : Sm (List Rv)} (he : ESnd c X Y e Me se) (hs : OLSnd c X Y es Ms ss) :
    OLSnd c X Y (e :: es) (Me ++ Ms) (fun r => ((se r).bind fun (w, r1) => .ok (Rv.t w, r1)).bind fun (v, r1) => (ss r1).bind fun (vs, r2) => .ok (v :: vs, r2)) := by
  obtain ⟨t, pe, _, ke⟩ := he
  obtain ⟨ts, ps, ks⟩ := hs
  refine ⟨t :: ts, ⟨t, ts, rfl, pe, ps⟩, fun n σ as B H T Q g s hk => ?_⟩
  refine ke n σ as B H T _ g s (hk.bind.bind.mono ?_ fun _ _ z => z)
  rintro ⟨w, r1⟩ ea h as1 x B1 H1 x1 (ex : x.er = w) (rfl : ers as1 = r1)
  refine ks n σ as1 B1 H1 (x :: T) _ x1.gd x1.sr ((Kn.bind h).mono ?_ fun _ _ z => KX.trans x1 _ _ z)
  rintro ⟨ws, r2⟩ eb h2 as2 us B2 H2 x2 (exs : us.map Ov.rv = ws) (rfl : ers as2 = r2) po
  have h2' : ∀ as3 ys B3 H3, Nx c n σ (Me ++ Ms) as B as3 (temps ys ++ T) B3 H3 → ys.map Ov.rv = Rv.t w :: ws → ers as3 = ers as2 → POk c B3 as3 ys → Q (ys.map Ov.v) H3 := h2
  refine h2' as2 (.t x :: us) B2 H2 ((x1.trans x2).permT List.perm_middle) ?_ rfl fun q v h w' e => ?_
  · rw [List.map_cons, exs]
    show Rv.t x.er :: ws = _
    rw [ex]
  · rcases List.mem_cons.mp h with z | z
    · cases z
    · exact po q v z w' e
theorem olsnd_p {e : Expr} {es : List Expr} {Me Ms : List Nat} {se : Sm (Nat × List Nat)} {ss : Sm (List Rv)} (he : PSnd c X Y e Me se) (hs : OLSnd c X Y es Ms ss) (st : ∀ r q r1, se r = .ok (q, r1) → q.2 = [] ∨ q.1 ∉ Ms) :
    OLSnd c X Y (e :: es) (Me ++ Ms) (fun r => ((se r).bind fun (q, r1) => .ok (Rv.p q, r1)).bind fun (v, r1) => (ss r1).bind fun (vs, r2) => .ok (v :: vs, r2)) := by
  obtain ⟨t, pe, ke⟩ := he
  obtain ⟨ts, ps, ks⟩ := hs
  refine ⟨t :: ts, ⟨t, ts, rfl, pe, ps⟩, fun n σ as B H T Q g s hk => ?_⟩
  refine ke n σ as B H T _ g s (hk.bind.bind.mono ?_ fun _ _ z => z)
  rintro ⟨q0, r1⟩ ea h as1 v0 w0 B1 H1 x1 (rfl : ers as1 = r1) pa
  refine ks n σ as1 B1 H1 T _ x1.gd x1.sr ((Kn.bind h).mono ?_ fun _ _ z => KX.trans x1 _ _ z)
  rintro ⟨ws, r2⟩ eb h2 as2 us B2 H2 x2 (exs : us.map Ov.rv = ws) (rfl : ers as2 = r2) po
  have h2' : ∀ as3 ys B3 H3, Nx c n σ (Me ++ Ms) as B as3 (temps ys ++ T) B3 H3 → ys.map Ov.rv = Rv.p q0 :: ws → ers as3 = ers as2 → POk c B3 as3 ys → Q (ys.map Ov.v) H3 := h2
  refine h2' as2 (.p q0 v0 :: us) B2 H2 (x1.trans x2) ?_ rfl fun q v h w' e => ?_
  · rw [List.map_cons, exs]
    rfl
  · rcases List.mem_cons.mp h with z | z
    · injection z with z1 z2
      subst z1
      subst z2
      exact pa.stab x2 x1.sr (st _ _ _ ea) e
    · exact po q v z w' e
/-- all temporaries are frozen -/
theorem Nx.freezeL : ∀ {xs : List A} {T : List A} {B1 : Hp}, Nx c n σ M as B as1 (xs ++ T) B1 H1 → ∃ B2, Nx c n σ M as B as1 T B2 H1 ∧ Same B1 B2 ∧ ∀ x ∈ xs, RepD c B2 x.er.dat x.val
  | [], T, B1, h => ⟨B1, h, Same.refl _, fun x hx => by cases hx⟩
  | x :: xs, T, B1, h => by
    obtain ⟨B2, h2, s2⟩ := Nx.freeze (T := xs ++ T) h
    have r2 : RepD c B2 x.er.dat x.val := h2.gd.lf (.fl x.val x.er.dat) h2.hd
    obtain ⟨B3, h3, s3, r3⟩ := Nx.freezeL (xs := xs) h2.dropT
    refine ⟨B3, h3, s2.trans s3, fun y hy => ?_⟩
    rcases List.mem_cons.mp hy with e | hy
    · rw [e]
      exact RepD.mono s3 r2
    · exact r3 y hy
theorem mem_temps : ∀ {us : List Ov} {x : A}, Ov.t x ∈ us → x ∈ temps us
  | .t y :: us, x, h => by
    rcases List.mem_cons.mp h with e | h
    · injection e with e
      rw [e]
      exact List.mem_cons_self
    · exact List.mem_cons_of_mem _ (mem_temps h)
  | .p q v :: us, x, h => by
    rcases List.mem_cons.mp h with e | h
    · cases e
    · exact mem_temps (us := us) h
theorem ovs_of {r : Env} (hr : ers as1 = r) (g : G c n B2 H1 (live as1 ++ T)) : ∀ {us : List Ov} {ws : List W}, (∀ x, Ov.t x ∈ us → RepD c B2 x.er.dat x.val) → POk c B2 as1 us → (us.map Ov.rv).mapM (Rv.val r) = some ws → OVs c B2 H1 ws (us.map Ov.v)
  | [], ws, _, _, h => by
    have e : [] = ws := by simpa using h
    rw [← e]
    rfl
  | u :: us, ws, hf, hp, h => by
    rw [List.map_cons, List.mapM_cons] at h
    cases e1 : Rv.val r u.rv with
    | none =>
      rw [e1] at h
      cases h
    | some w1 =>
      cases e2 : (us.map Ov.rv).mapM (Rv.val r) with
      | none =>
        rw [e1, e2] at h
        cases h
      | some w2 =>
        rw [e1, e2] at h
        have e3 : w1 :: w2 = ws := Option.some.inj h
        rw [← e3]
        refine ⟨u.v, us.map Ov.v, rfl, ?_, ovs_of hr g (fun x hx => hf x (List.mem_cons_of_mem _ hx)) (fun q v hq => hp q v (List.mem_cons_of_mem _ hq)) e2⟩
        cases u with
        | t x =>
          have e4 : W.fl x.er.dat = w1 := Option.some.inj e1
          rw [← e4]
          exact OV.fl g.sub (hf x List.mem_cons_self)
        | p q v =>
          have e4 : eget r q = some w1 := e1
          rw [← hr] at e4
          exact PAt.ov g (hp q v List.mem_cons_self w1 e4)
theorem POk.mono {us : List Ov} (h : POk c B1 as us) (s : Same B1 B2) : POk c B2 as us := fun q v hq w e => (h q v hq w e).mono s rfl
/-- items known for good, as trees -/
def flz : List D → List V → List A
  | d :: ds, v :: vs => .fl v d :: flz ds vs
  | _, _ => []
theorem flz_facts : ∀ {ds : List D} {vs : List V}, RepDs c B ds vs → vals (flz ds vs) = vs ∧ (flz ds vs).map A.er = ds.map W.fl ∧ (flz ds vs).length = ds.length
  | [], vs, r => by
    have e : vs = [] := r
    subst e
    exact ⟨rfl, rfl, rfl⟩
  | d :: ds, _, ⟨v, vr, e, r1, r2⟩ => by
    subst e
    obtain ⟨a1, a2, a3⟩ := flz_facts r2
    exact ⟨by show v :: vals (flz ds vr) = _; rw [a1], by show W.fl d :: (flz ds vr).map A.er = _; rw [a2]; rfl, by show (flz ds vr).length + 1 = _; rw [a3]; rfl⟩
theorem Nx.adds : ∀ {ds : List D} {vs : List V}, Nx c n σ M as B as1 T B1 H1 → RepDs c B1 ds vs → Nx c n σ M as B as1 (flz ds vs ++ T) B1 H1
  | [], vs, h, r => by
    have e : vs = [] := r
    subst e
    exact h
  | d :: ds, _, h, ⟨v, vr, e, r1, r2⟩ => by
    subst e
    exact Nx.add (Nx.adds h r2) r1
theorem all_unfl : ∀ {cs : List W}, cs.all W.isFl = true → (cs.map W.unfl).map W.fl = cs
  | [], _ => rfl
  | w :: cs, h => by
    have h' : (w.isFl && cs.all W.isFl) = true := h
    obtain ⟨h1, h2⟩ := Bool.and_eq_true_iff.mp h'
    cases w with
    | fl d =>
      show W.fl d :: (cs.map W.unfl).map W.fl = _
      rw [all_unfl h2]
    | nd k cs => cases h1
/-- what an operator's result leads to -/
theorem fin_of {w : W} {Q : VK} (h : Nx c n σ M as B as1 T B1 H1) (hk : ∀ y B2 H2, Nx c n σ M as B as1 (y :: T) B2 H2 → y.er = w.fzT → Q y.val H2) : Fin c B1 H1 w Q := by
  cases w with
  | fl d => exact fun v r => hk (.fl v d) B1 H1 (h.add r) rfl
  | nd kd cs =>
    intro p vs hp hkd hall hfit r
    obtain ⟨f1, f2, f3⟩ := flz_facts r
    have hx : kd.xtr p 0 = [] := by
      rcases hkd with e | e <;> rw [e] <;> rfl
    have hl : (flz (cs.map W.unfl) vs).length = vs.length := by
      have := congrArg List.length f1
      simpa using this
    have x2 := (h.adds r).alloc hp hx (by rw [hl]; exact hfit)
    rw [f1] at x2
    have er2 : (A.nd p 0 kd (flz (cs.map W.unfl) vs)).er = .nd kd cs := by rw [A.er_nd, f2, all_unfl hall]
    by_cases ht : kd = .tup
    · subst ht
      obtain ⟨B2, x3, _⟩ := x2.freeze
      refine hk _ B2 _ x3 ?_
      show W.fl (A.nd p 0 .tup (flz (cs.map W.unfl) vs)).er.dat = W.fl (.nd .tup (cs.map W.unfl))
      rw [er2, W.dat_nd]
      congr 2
      refine List.map_congr_left fun w hw => ?_
      have := List.all_eq_true.mp hall w hw
      cases w with
      | fl d => rfl
      | nd k cs => cases this
    · refine hk _ B1 _ x2 ?_
      rw [er2]
      cases kd <;> first | rfl | exact (ht rfl).elim
end
end Vx
end

section
set_option maxHeartbeats 4000000
/-! Vx 13: operators, tests, calls. -/
namespace Vx
open PySem L2
section
variable {c : Gx} {Γ : Den} {k : Ck} {X : Cx} {Y : WX} {n : En} {σ : St} {as as1 as2 : Sl} {B H B1 H1 B2 H2 : Hp} {T T1 T2 : List A} {M N : List Nat}
theorem tt_mono {tt : TE} {e : Expr} (h1 : isCmp e = true → PT X e (tTest tt)) (pe : PE X e tt) : plT e = true → PT X e (tTest tt) := fun z => by
  by_cases hc : isCmp e = true
  · exact h1 hc
  · have hc' : isCmp e = false := by simpa using hc
    exact plN pe hc' z
theorem snd_op {o : Rop} {e : Expr} {es : List Expr} {Ms : List Nat} {ss : Sm (List Rv)} (x : XOk c k X) (hf : o.form k e = some es) (hs : OLSnd c X Y es Ms ss) :
    ESnd c X Y e Ms (fun r => (ss r).bind fun (vs, r1) => Res.of (((vs.mapM (Rv.val r1)).bind o.run).map fun w => (w.fzT, r1))) := by
  obtain ⟨ts, ps, ks⟩ := hs
  obtain ⟨t, rr, pe, pt, up, dn⟩ := rop_ok x hf ps
  refine ⟨t, pe, tt_mono pt pe, fun n σ as B H T Q g s hk => up _ _ _ ?_⟩
  refine ks n σ as B H T _ g s (hk.bind.mono ?_ fun _ _ z => z)
  rintro ⟨vs, r1⟩ ea h as1 us B1 H1 x1 (exs : us.map Ov.rv = vs) (rfl : ers as1 = r1) po
  obtain ⟨⟨w', r'⟩, e4, h3⟩ := Kn.of h
  obtain ⟨w, e5, e6⟩ := Option.map_eq_some_iff.mp e4
  injection e6 with e61 e62
  subst e61
  subst e62
  obtain ⟨ws, e7, e8⟩ := Option.bind_eq_some_iff.mp e5
  rw [← exs] at e7
  obtain ⟨B2, x2, s2, r2⟩ := x1.freezeL
  have ov := ovs_of rfl x2.gd (us := us) (fun y hy => r2 y (mem_temps hy)) (po.mono s2) e7
  refine dn _ _ _ ⟨ws, w, B2, x2.gd.sub, ov, e8, fin_of x2 fun y B3 H3 x3 e9 => h3 as1 y B3 H3 x3 e9 rfl⟩

/-! ### tests -/
theorem tsnd_of {e : Expr} {Me : List Nat} {se : Sm W} (he : ESnd c X Y e Me se) (ho : plT e = true) : TSnd c X Y e Me (fun r => (se r).bind bool?) := by
  obtain ⟨t, pe, pt, ke⟩ := he
  refine ⟨tTest t, pt ho, fun n σ as B H T Q g s hk => ke n σ as B H T _ g s (hk.bind.mono ?_ fun _ _ z => z)⟩
  rintro ⟨w, r1⟩ ea h as1 x B1 H1 x1 (ex : x.er = w) (rfl : ers as1 = r1)
  match w, ex, h with
  | .fl (.bl b), ex, h =>
    have h' : ∀ as2 B2 H2, Nx c n σ Me as B as2 T B2 H2 → ers as2 = ers as1 → Q b H2 := h
    exact ⟨b, x1.bl ex, h' as1 B1 H1 x1.dropT rfl⟩
/-- a test of and, or: whatever its whole is -/
def WSnd (c : Gx) (X : Cx) (Y : WX) (e : Expr) (M : List Nat) (sem : Sm Bool) : Prop :=
  ∃ t, PW X e t ∧ ∀ (n : En) (σ : St) (as : Sl) (B H : Hp) (T : List A) (Q : Bool → Hp → Prop), G c n B H (live as ++ T) → SR σ as →
    Kn (sem (ers as)) (fun a => ∀ as1 B1 H1, Nx c n σ M as B as1 T B1 H1 → ers as1 = a.2 → Q a.1 H1) (KX c n σ as B Y) → t σ H Q
theorem WSnd.t {e : Expr} {sem : Sm Bool} (h : WSnd c X Y e M sem) : TSnd c X Y e M sem := by
  obtain ⟨t, p, q⟩ := h
  exact ⟨t, p.pt, q⟩
/-- the sem of a test as a value's -/
def bv (x : Res (Bool × Env)) : Res (W × Env) := x.bind fun (b, r) => .ok (.fl (.bl b), r)
theorem wsnd_one {op : BoolOp} {a : Expr} {sa : Sm Bool} {pos : Pos} (ho : op = .And ∨ op = .Or) (ha : TSnd c X Y a M sa) : WSnd c X Y (.BoolOp op [a] pos) M sa := by
  obtain ⟨t, p, q⟩ := ha
  rcases ho with rfl | rfl
  · exact ⟨t, pw_and1 p, q⟩
  · exact ⟨t, pw_or1 p, q⟩
theorem wsnd_and {a b : Expr} {rest : List Expr} {Ma Mb : List Nat} {sa sb : Sm Bool} {pos : Pos} (ha : TSnd c X Y a Ma sa) (hb : WSnd c X Y (.BoolOp .And (b :: rest) pos) Mb sb) :
    WSnd c X Y (.BoolOp .And (a :: b :: rest) pos) (Ma ++ Mb) (fun r => (sa r).bind fun (x, r1) => if x then sb r1 else .ok (false, r1)) := by
  obtain ⟨ta, pa, ka⟩ := ha
  obtain ⟨tb, pb, kb⟩ := hb
  refine ⟨tAnd ta tb, pw_and pa pb, fun n σ as B H T Q g s hk => ka n σ as B H T _ g s (hk.bind.mono ?_ fun _ _ z => z)⟩
  rintro ⟨x, r1⟩ ea h as1 B1 H1 x1 (rfl : ers as1 = r1)
  cases x with
  | true =>
    refine iteT (kb n σ as1 B1 H1 T Q x1.gd x1.sr (Kn.mono (show Kn (sb (ers as1)) _ _ from h) (fun a _ k as2 B2 H2 x2 e2 => k as2 B2 H2 (x1.trans x2) e2) fun _ _ z => KX.trans x1 _ _ z))
  | false =>
    have h' : ∀ as2 B2 H2, Nx c n σ (Ma ++ Mb) as B as2 T B2 H2 → ers as2 = ers as1 → Q false H2 := h
    exact iteF (h' as1 B1 H1 (x1.mono fun i hi => List.mem_append_left _ hi) rfl)
theorem wsnd_or {a b : Expr} {rest : List Expr} {Ma Mb : List Nat} {sa sb : Sm Bool} {pos : Pos} (ha : TSnd c X Y a Ma sa) (hb : WSnd c X Y (.BoolOp .Or (b :: rest) pos) Mb sb) :
    WSnd c X Y (.BoolOp .Or (a :: b :: rest) pos) (Ma ++ Mb) (fun r => (sa r).bind fun (x, r1) => if x then .ok (true, r1) else sb r1) := by
  obtain ⟨ta, pa, ka⟩ := ha
  obtain ⟨tb, pb, kb⟩ := hb
  refine ⟨tOr ta tb, pw_or pa pb, fun n σ as B H T Q g s hk => ka n σ as B H T _ g s (hk.bind.mono ?_ fun _ _ z => z)⟩
  rintro ⟨x, r1⟩ ea h as1 B1 H1 x1 (rfl : ers as1 = r1)
  cases x with
  | false =>
    refine iteF (kb n σ as1 B1 H1 T Q x1.gd x1.sr (Kn.mono (show Kn (sb (ers as1)) _ _ from h) (fun a _ k as2 B2 H2 x2 e2 => k as2 B2 H2 (x1.trans x2) e2) fun _ _ z => KX.trans x1 _ _ z))
  | true =>
    have h' : ∀ as2 B2 H2, Nx c n σ (Ma ++ Mb) as B as2 T B2 H2 → ers as2 = ers as1 → Q true H2 := h
    exact iteT (h' as1 B1 H1 (x1.mono fun i hi => List.mem_append_left _ hi) rfl)
theorem tsnd_not {a : Expr} {sa : Sm Bool} {pos : Pos} (ha : TSnd c X Y a M sa) : TSnd c X Y (.UnaryOp .Not a pos) M (fun r => (sa r).bind fun (x, r1) => .ok (!x, r1)) := by
  obtain ⟨ta, pa, ka⟩ := ha
  refine ⟨tNot ta, pt_not pa, fun n σ as B H T Q g s hk => ka n σ as B H T _ g s (hk.bind.mono ?_ fun _ _ z => z)⟩
  rintro ⟨x, r1⟩ ea h as1 B1 H1 x1 (rfl : ers as1 = r1)
  have h' : ∀ as2 B2 H2, Nx c n σ M as B as2 T B2 H2 → ers as2 = ers as1 → Q (!x) H2 := h
  exact h' as1 B1 H1 x1 rfl
/-! .. as values -/
theorem snd_ite {a b d : Expr} {Mc Ma Mb : List Nat} {sc : Sm Bool} {sa sb : Sm W} {pos : Pos} (hc : TSnd c X Y d Mc sc) (ha : ESnd c X Y a Ma sa) (hb : ESnd c X Y b Mb sb) :
    ESnd c X Y (.IfExp d a b pos) (Mc ++ (Ma ++ Mb)) (fun r => (sc r).bind fun (x, r1) => if x then sa r1 else sb r1) := by
  obtain ⟨tc, pc, kc⟩ := hc
  obtain ⟨ta, pa, _, ka⟩ := ha
  obtain ⟨tb, pb, _, kb⟩ := hb
  have pe := pe_ifExp (X := X) (pos := pos) pc pa pb
  refine ⟨_, pe, plN pe rfl, fun n σ as B H T Q g s hk => kc n σ as B H T _ g s (hk.bind.mono ?_ fun _ _ z => z)⟩
  rintro ⟨x, r1⟩ ea h as1 B1 H1 x1 (rfl : ers as1 = r1)
  cases x with
  | true => exact iteT (ka n σ as1 B1 H1 T Q x1.gd x1.sr (Kn.mono (show Kn (sa (ers as1)) _ _ from h) (fun a _ k as2 y B2 H2 x2 e1 e2 => k as2 y B2 H2 ((x1.trans x2).mono fun i hi => by
      rcases List.mem_append.mp hi with z | z
      · exact List.mem_append_left _ z
      · exact List.mem_append_right _ (List.mem_append_left _ z)) e1 e2) fun _ _ z => KX.trans x1 _ _ z))
  | false => exact iteF (kb n σ as1 B1 H1 T Q x1.gd x1.sr (Kn.mono (show Kn (sb (ers as1)) _ _ from h) (fun a _ k as2 y B2 H2 x2 e1 e2 => k as2 y B2 H2 ((x1.trans x2).mono fun i hi => by
      rcases List.mem_append.mp hi with z | z
      · exact List.mem_append_left _ z
      · exact List.mem_append_right _ (List.mem_append_right _ z)) e1 e2) fun _ _ z => KX.trans x1 _ _ z))
theorem snd_and {a b : Expr} {rest : List Expr} {Ma Mb : List Nat} {sa sb : Sm W} {pos : Pos} (ha : ESnd c X Y a Ma sa) (hb : ESnd c X Y (.BoolOp .And (b :: rest) pos) Mb sb) :
    ESnd c X Y (.BoolOp .And (a :: b :: rest) pos) (Ma ++ Mb) (fun r => ((sa r).bind bool?).bind fun (x, r1) => if x then sb r1 else .ok (.fl (.bl false), r1)) := by
  obtain ⟨ta, pa, _, ka⟩ := ha
  obtain ⟨tb, pb, _, kb⟩ := hb
  have pe := pe_and (X := X) (pos := pos) pa pb
  refine ⟨_, pe, plN pe rfl, fun n σ as B H T Q g s hk => ka n σ as B H T _ g s (hk.bind.bind.mono ?_ fun _ _ z => z)⟩
  rintro ⟨w, r1⟩ ea h as1 x B1 H1 x1 (ex : x.er = w) (rfl : ers as1 = r1)
  match w, ex, h with
  | .fl (.bl true), ex, h => exact ⟨true, x1.bl ex, iteT (kb n σ as1 B1 H1 T Q x1.dropT.gd x1.sr (Kn.mono (show Kn (sb (ers as1)) _ _ from h) (fun a _ k as2 y B2 H2 x2 e1 e2 => k as2 y B2 H2 (x1.dropT.trans x2) e1 e2) fun _ _ z => KX.trans x1 _ _ z))⟩
  | .fl (.bl false), ex, h =>
    have h' : ∀ as2 y B2 H2, Nx c n σ (Ma ++ Mb) as B as2 (y :: T) B2 H2 → y.er = .fl (.bl false) → ers as2 = ers as1 → Q y.val H2 := h
    exact ⟨false, x1.bl ex, iteF (h' as1 (.fl (.bl false) (.bl false)) B1 H1 ((x1.dropT.add (v := .bl false) (d := .bl false) rfl).mono fun i hi => List.mem_append_left _ hi) rfl rfl)⟩
theorem snd_or {a b : Expr} {rest : List Expr} {Ma Mb : List Nat} {sa sb : Sm W} {pos : Pos} (ha : ESnd c X Y a Ma sa) (hb : ESnd c X Y (.BoolOp .Or (b :: rest) pos) Mb sb) :
    ESnd c X Y (.BoolOp .Or (a :: b :: rest) pos) (Ma ++ Mb) (fun r => ((sa r).bind bool?).bind fun (x, r1) => if x then .ok (.fl (.bl true), r1) else sb r1) := by
  obtain ⟨ta, pa, _, ka⟩ := ha
  obtain ⟨tb, pb, _, kb⟩ := hb
  have pe := pe_or (X := X) (pos := pos) pa pb
  refine ⟨_, pe, plN pe rfl, fun n σ as B H T Q g s hk => ka n σ as B H T _ g s (hk.bind.bind.mono ?_ fun _ _ z => z)⟩
  rintro ⟨w, r1⟩ ea h as1 x B1 H1 x1 (ex : x.er = w) (rfl : ers as1 = r1)
  match w, ex, h with
  | .fl (.bl false), ex, h => exact ⟨false, x1.bl ex, iteF (kb n σ as1 B1 H1 T Q x1.dropT.gd x1.sr (Kn.mono (show Kn (sb (ers as1)) _ _ from h) (fun a _ k as2 y B2 H2 x2 e1 e2 => k as2 y B2 H2 (x1.dropT.trans x2) e1 e2) fun _ _ z => KX.trans x1 _ _ z))⟩
  | .fl (.bl true), ex, h =>
    have h' : ∀ as2 y B2 H2, Nx c n σ (Ma ++ Mb) as B as2 (y :: T) B2 H2 → y.er = .fl (.bl true) → ers as2 = ers as1 → Q y.val H2 := h
    exact ⟨true, x1.bl ex, iteT (h' as1 (.fl (.bl true) (.bl true)) B1 H1 ((x1.dropT.add (v := .bl true) (d := .bl true) rfl).mono fun i hi => List.mem_append_left _ hi) rfl rfl)⟩
theorem snd_one {op : BoolOp} {a : Expr} {sa : Sm W} {pos : Pos} (ha : ESnd c X Y a M sa) : ESnd c X Y (.BoolOp op [a] pos) M sa := by
  obtain ⟨ta, pa, _, ka⟩ := ha
  have pe := pe_one (X := X) (op := op) (pos := pos) pa
  exact ⟨ta, pe, plN pe rfl, ka⟩
theorem snd_not {a : Expr} {sa : Sm W} {pos : Pos} (ha : ESnd c X Y a M sa) : ESnd c X Y (.UnaryOp .Not a pos) M (fun r => ((sa r).bind bool?).bind fun (x, r1) => .ok (.fl (.bl (!x)), r1)) := by
  obtain ⟨ta, pa, _, ka⟩ := ha
  have pe := pe_not (X := X) (pos := pos) pa
  refine ⟨_, pe, plN pe rfl, fun n σ as B H T Q g s hk => ka n σ as B H T _ g s (hk.bind.bind.mono ?_ fun _ _ z => z)⟩
  rintro ⟨w, r1⟩ ea h as1 x B1 H1 x1 (ex : x.er = w) (rfl : ers as1 = r1)
  match w, ex, h with
  | .fl (.bl b), ex, h =>
    have h' : ∀ as2 y B2 H2, Nx c n σ M as B as2 (y :: T) B2 H2 → y.er = .fl (.bl (!b)) → ers as2 = ers as1 → Q y.val H2 := h
    exact ⟨b, x1.bl ex, h' as1 (.fl (.bl (!b)) (.bl (!b))) B1 H1 (x1.dropT.add (v := .bl (!b)) (d := .bl (!b)) rfl) rfl rfl⟩

/-! ### calls -/
/-- an argument as it was reckoned: a temporary, a slot -/
abbrev Ax := A ⊕ Nat
def Ax.er : Ax → W ⊕ Nat
  | .inl x => .inl x.er
  | .inr i => .inr i
def atemps : List Ax → List A
  | [] => []
  | .inl x :: us => x :: atemps us
  | .inr _ :: us => atemps us
def Ax.v (σ : St) : Ax → V
  | .inl x => x.val
  | .inr i => match σ[i]? with
    | some (some v) => v
    | _ => .non
def ASnd (c : Gx) (X : Cx) (Y : WX) (es : List Expr) (M : List Nat) (sems : Sm (List (W ⊕ Nat))) : Prop :=
  ∃ ts, PEs X es ts ∧ ∀ (n : En) (σ : St) (as : Sl) (B H : Hp) (T : List A) (Q : List V → Hp → Prop), G c n B H (live as ++ T) → SR σ as →
    Kn (sems (ers as)) (fun a => ∀ as1 us B1 H1, Nx c n σ M as B as1 (atemps us ++ T) B1 H1 → us.map Ax.er = a.1 → ers as1 = a.2 → Q (us.map (Ax.v σ)) H1) (KX c n σ as B Y) → tN ts σ H Q
theorem asnd_nil : ASnd c X Y [] [] (fun r => .ok ([], r)) := ⟨[], rfl, fun n σ as B H T Q g s hk => by
  have hk' : ∀ as1 us B1 H1, Nx c n σ [] as B as1 (atemps us ++ T) B1 H1 → us.map Ax.er = [] → ers as1 = ers as → Q (us.map (Ax.v σ)) H1 := hk
  exact hk' as [] B H (Nx.refl g s) rfl rfl⟩
theorem asnd_va {e : Expr} {es : List Expr} {Me Ms : List Nat} {se : Sm W} {ss : Sm (List (W ⊕ Nat))} (he : ESnd c X Y e Me se) (hs : ASnd c X Y es Ms ss) :
    ASnd c X Y (e :: es) (Me ++ Ms) (fun r => (se r).bind fun (w, r1) => (ss r1).bind fun (vs, r2) => .ok (.inl w :: vs, r2)) := by
  obtain ⟨t, pe, _, ke⟩ := he
  obtain ⟨ts, ps, ks⟩ := hs
  refine ⟨t :: ts, ⟨t, ts, rfl, pe, ps⟩, fun n σ as B H T Q g s hk => ?_⟩
  refine ke n σ as B H T _ g s (hk.bind.mono ?_ fun _ _ z => z)
  rintro ⟨w, r1⟩ ea h as1 x B1 H1 x1 (ex : x.er = w) (rfl : ers as1 = r1)
  refine ks n σ as1 B1 H1 (x :: T) _ x1.gd x1.sr ((Kn.bind h).mono ?_ fun _ _ z => KX.trans x1 _ _ z)
  rintro ⟨ws, r2⟩ eb h2 as2 us B2 H2 x2 (exs : us.map Ax.er = ws) (rfl : ers as2 = r2)
  have h2' : ∀ as3 ys B3 H3, Nx c n σ (Me ++ Ms) as B as3 (atemps ys ++ T) B3 H3 → ys.map Ax.er = .inl w :: ws → ers as3 = ers as2 → Q (ys.map (Ax.v σ)) H3 := h2
  refine h2' as2 (.inl x :: us) B2 H2 ((x1.trans x2).permT List.perm_middle) ?_ rfl
  rw [List.map_cons, exs]
  show Sum.inl x.er :: ws = _
  rw [ex]
theorem asnd_io (x : XOk c k X) {i : Nat} {y : Str} {pos : Pos} (hv : visB k i y = true) {es : List Expr} {Ms : List Nat} {ss : Sm (List (W ⊕ Nat))} (hs : ASnd c X Y es Ms ss) :
    ASnd c X Y (.Name y pos :: es) (i :: Ms) (fun r => match r[i]? with
      | some (some _) => (ss r).bind fun (vs, r2) => .ok (.inr i :: vs, r2)
      | _ => .bad) := by
  obtain ⟨ts, ps, ks⟩ := hs
  refine ⟨tVar i :: ts, ⟨tVar i, ts, rfl, vis_pe x hv, ps⟩, fun n σ as B H T Q g s hk => ?_⟩
  have e0 := ers_get (as := as) (i := i)
  dsimp only at hk
  cases e : as[i]? with
  | none =>
    rw [e0, e] at hk
    exact hk.elim
  | some z =>
    cases z with
    | none =>
      rw [e0, e] at hk
      exact hk.elim
    | some z =>
      rw [e0, e] at hk
      refine ⟨z.val, s.2 i z e, ks n σ as B H T _ g s ((Kn.bind hk).mono ?_ fun _ _ z => z)⟩
      rintro ⟨ws, r2⟩ eb h2 as2 us B2 H2 x2 (exs : us.map Ax.er = ws) (rfl : ers as2 = r2)
      have h2' : ∀ as3 ys B3 H3, Nx c n σ (i :: Ms) as B as3 (atemps ys ++ T) B3 H3 → ys.map Ax.er = .inr i :: ws → ers as3 = ers as2 → Q (ys.map (Ax.v σ)) H3 := h2
      have := h2' as2 (.inr i :: us) B2 H2 (x2.mono fun j hj => List.mem_cons_of_mem _ hj) (by rw [List.map_cons, exs]; rfl) rfl
      have ev : Ax.v σ (.inr i) = z.val := by
        show (match σ[i]? with
          | some (some v) => v
          | _ => V.non) = _
        rw [s.2 i z e]
      rw [List.map_cons, ev] at this
      exact this
/-- the trees handed in, and what stays -/
theorem takeA {σ : St} : ∀ {us : List Ax} {as : Sl} {ws : List W} {r2 : Env}, SR σ as → takeIo (us.map Ax.er) (ers as) = some (ws, r2) →
    ∃ xs as2, xs.map A.er = ws ∧ ers as2 = r2 ∧ SR σ as2 ∧ vals xs = us.map (Ax.v σ) ∧ (live as ++ atemps us).Perm (xs ++ live as2) ∧ (∀ i, .inr i ∉ us → as2[i]? = as[i]?) ∧ as2.length = as.length ∧ (∀ i, .inr i ∈ us → ∃ v, σ[i]? = some (some v))
  | [], as, ws, r2, s, h => by
    have e : ([], ers as) = (ws, r2) := Option.some.inj h
    injection e with e1 e2
    exact ⟨[], as, e1, e2, s, rfl, by simp [atemps], fun _ _ => rfl, rfl, fun i hi => by cases hi⟩
  | .inl x :: us, as, ws, r2, s, h => by
    have h' : (takeIo (us.map Ax.er) (ers as)).map (fun q => (x.er :: q.1, q.2)) = some (ws, r2) := h
    obtain ⟨⟨w1, r1⟩, q1, q2⟩ := Option.map_eq_some_iff.mp h'
    injection q2 with q2 q3
    obtain ⟨xs, as2, a1, a2, a3, a4, a5, a6, a7, a8⟩ := takeA s q1
    refine ⟨x :: xs, as2, by rw [List.map_cons, a1]; exact q2, a2.trans q3, a3, by show x.val :: vals xs = _; rw [a4]; rfl, ?_, fun i hi => a6 i fun z => hi (List.mem_cons_of_mem _ z), a7, fun i hi => ?_⟩
    · show (live as ++ x :: atemps us).Perm (x :: (xs ++ live as2))
      exact List.perm_middle.trans (a5.cons x)
    · rcases List.mem_cons.mp hi with z | z
      · cases z
      · exact a8 i z
  | .inr i :: us, as, ws, r2, s, h => by
    have h' : (match (ers as)[i]? with
      | some (some w) => if w.isFl then none else (takeIo (us.map Ax.er) ((ers as).set i none)).map fun q => (w :: q.1, q.2)
      | _ => none) = some (ws, r2) := h
    rw [ers_get] at h'
    cases e : as[i]? with
    | none =>
      rw [e] at h'
      cases h'
    | some z =>
      cases z with
      | none =>
        rw [e] at h'
        cases h'
      | some z =>
        rw [e] at h'
        have h'' : (if z.er.isFl = true then none else (takeIo (us.map Ax.er) ((ers as).set i none)).map fun q => (z.er :: q.1, q.2)) = some (ws, r2) := h'
        split at h''
        · cases h''
        · have es : (ers as).set i none = ers (as.set i none) := by
            rw [ers_set]
            rfl
          rw [es] at h''
          obtain ⟨⟨w1, r1⟩, q1, q2⟩ := Option.map_eq_some_iff.mp h''
          injection q2 with q2 q3
          obtain ⟨xs, as2, a1, a2, a3, a4, a5, a6, a7, a8⟩ := takeA s.take q1
          rw [List.length_set] at a7
          refine ⟨z :: xs, as2, by rw [List.map_cons, a1]; exact q2, a2.trans q3, a3, ?_, ?_, fun j hj => ?_, a7, fun j hj => ?_⟩
          · show z.val :: vals xs = (match σ[i]? with
              | some (some v) => v
              | _ => V.non) :: us.map (Ax.v σ)
            rw [a4, s.2 i z e]
          · show (live as ++ atemps us).Perm (z :: (xs ++ live as2))
            exact (List.Perm.append_right _ (live_get e)).trans (a5.cons z)
          · rw [a6 j fun z => hj (List.mem_cons_of_mem _ z)]
            exact List.getElem?_set_ne fun z => hj (by rw [z]; exact List.mem_cons_self)
          · rcases List.mem_cons.mp hj with q | q
            · injection q with q
              rw [q]
              exact ⟨z.val, s.2 i z e⟩
            · exact a8 j q
/-- where the in-outs are among the arguments -/
def ioAt : Nat → List Ar → List Nat
  | _, [] => []
  | j, .va _ :: as => ioAt (j + 1) as
  | j, .io _ :: as => j :: ioAt (j + 1) as
def ioPos : Nat → List (W ⊕ Nat) → List Nat
  | _, [] => []
  | j, .inl _ :: as => ioPos (j + 1) as
  | j, .inr _ :: as => j :: ioPos (j + 1) as
def ioV (σ : St) : List Ax → List V
  | [] => []
  | .inl _ :: us => ioV σ us
  | .inr i :: us => Ax.v σ (.inr i) :: ioV σ us
theorem io_vals {σ : St} {xs : List A} : ∀ {us : List Ax} {pre : List V}, vals xs = pre ++ us.map (Ax.v σ) → ioVals (ioPos pre.length (us.map Ax.er)) xs = ioV σ us
  | [], pre, h => rfl
  | .inl x :: us, pre, h => by
    have ih := io_vals (σ := σ) (us := us) (pre := pre ++ [x.val]) (by rw [h, List.map_cons, List.append_assoc]; rfl)
    rw [List.length_append] at ih
    exact ih
  | .inr i :: us, pre, h => by
    have ih := io_vals (σ := σ) (us := us) (pre := pre ++ [Ax.v σ (.inr i)]) (by rw [h, List.map_cons, List.append_assoc]; rfl)
    rw [List.length_append] at ih
    show (ioVals (pre.length :: ioPos (pre.length + 1) (us.map Ax.er)) xs) = Ax.v σ (.inr i) :: ioV σ us
    have e : (xs[pre.length]?).map A.val = some (Ax.v σ (.inr i)) := by
      have e2 : (vals xs)[pre.length]? = some (Ax.v σ (.inr i)) := by
        rw [h]
        simp
      rwa [List.getElem?_map] at e2
    unfold ioVals
    rw [List.filterMap_cons, e]
    show _ :: _ = _
    rw [← ih]
    rfl
/-- the in-outs come back -/
theorem putA {σ : St} : ∀ {us : List Ax} {as2 : Sl} {ws : List W} {r3 : Env} {ys : List A}, SR σ as2 → putIo (us.map Ax.er) ws (ers as2) = some r3 → ys.map A.er = ws → vals ys = ioV σ us → (∀ i, .inr i ∈ us → ∃ v, σ[i]? = some (some v)) →
    G c n B H (ys ++ (live as2 ++ T)) → ∃ as3, ers as3 = r3 ∧ SR σ as3 ∧ G c n B H (live as3 ++ T) ∧ (∀ i, .inr i ∉ us → as3[i]? = as2[i]?)
  | [], as2, ws, r3, ys, s, h, e, _, _, g => by
    cases ws with
    | nil =>
      have e2 : ers as2 = r3 := Option.some.inj h
      have e3 : ys = [] := by simpa using e
      subst e3
      exact ⟨as2, e2, s, g, fun _ _ => rfl⟩
    | cons w ws => cases h
  | .inl x :: us, as2, ws, r3, ys, s, h, e, ev, hl, g => by
    obtain ⟨as3, a1, a2, a3, a4⟩ := putA (us := us) s h e ev (fun i hi => hl i (List.mem_cons_of_mem _ hi)) g
    exact ⟨as3, a1, a2, a3, fun i hi => a4 i fun z => hi (List.mem_cons_of_mem _ z)⟩
  | .inr i :: us, as2, ws, r3, ys, s, h, e, ev, hl, g => by
    cases ws with
    | nil => cases h
    | cons w ws =>
      cases ys with
      | nil => cases e
      | cons y ys =>
        injection e with e1 e2
        injection ev with ev1 ev2
        obtain ⟨v, hv⟩ := hl i List.mem_cons_self
        have hσ : i < σ.length := (List.getElem?_eq_some_iff.mp hv).1
        have hi : i < as2.length := by rw [s.1]; exact hσ
        have hy : y.val = v := by
          have e3 : Ax.v σ (.inr i) = v := by
            show (match σ[i]? with
              | some (some v) => v
              | _ => V.non) = _
            rw [hv]
          have e4 : y.val = Ax.v σ (.inr i) := ev1
          rw [e4, e3]
        have es : (ers as2).set i (some w) = ers (as2.set i (some y)) := by
          rw [ers_set, ← e1]
          rfl
        have h' : putIo (us.map Ax.er) ws (ers (as2.set i (some y))) = some r3 := by
          rw [← es]
          exact h
        have s2 : SR σ (as2.set i (some y)) := ⟨by rw [List.length_set]; exact s.1, fun j z hz => by
          rw [List.getElem?_set] at hz
          split at hz
          · rename_i e5
            subst e5
            have e6 : y = z := by simpa [hi] using hz
            rw [← e6, hy]
            exact hv
          · exact s.2 j z hz⟩
        have g1 : G c n B H (live as2 ++ (y :: (ys ++ T))) := g.perm (by
          show (y :: (ys ++ (live as2 ++ T))).Perm _
          refine List.Perm.trans (List.Perm.cons y ?_) List.perm_middle.symm
          rw [← List.append_assoc, ← List.append_assoc]
          exact List.Perm.append_right _ List.perm_append_comm)
        have g2 := (g1.forget (i := i)).give hi
        have g3 : G c n B H (ys ++ (live (as2.set i (some y)) ++ T)) := g2.perm (by
          rw [← List.append_assoc, ← List.append_assoc]
          exact List.Perm.append_right _ List.perm_append_comm)
        obtain ⟨as3, a1, a2, a3, a4⟩ := putA (us := us) s2 h' e2 ev2 (fun i hi => hl i (List.mem_cons_of_mem _ hi)) g3
        refine ⟨as3, a1, a2, a3, fun j hj => ?_⟩
        rw [a4 j fun z => hj (List.mem_cons_of_mem _ z)]
        exact List.getElem?_set_ne fun z => hj (by rw [z]; exact List.mem_cons_self)
/-- what a call's in-outs touch -/
theorem asnd_mem {es : List Ar} : True := trivial
theorem call_core {f : Fn} {us : List Ax} {Q : VK} {M : List Nat} (x1 : Nx c n σ M as B as1 (atemps us ++ T) B1 H1) (hM : ∀ i, .inr i ∈ us → i ∈ M) (hio : f.io = ioPos 0 (us.map Ax.er)) (har : f.ar = us.length)
    (h : Kn (match takeIo (us.map Ax.er) (ers as1) with
      | some (ws, r2) => match Γ f.id ws with
        | .ok w us' => Res.of ((putIo (us.map Ax.er) us' r2).map fun r3 => (w, r3))
        | .ex c p us' => match putIo (us.map Ax.er) us' r2 with
          | some r3 => .ex c p r3
          | none => .bad
        | .bad => .bad
      | none => .bad) (fun a => ∀ as2 y B2 H2, Nx c n σ M as B as2 (y :: T) B2 H2 → y.er = a.1 → ers as2 = a.2 → Q y.val H2) (KX c n σ as B Y)) :
    spOf c f.io (Γ f.id) f.ar (us.map (Ax.v σ)) H1 Q (WE Y σ) := by
  cases e : takeIo (us.map Ax.er) (ers as1) with
  | none =>
    rw [e] at h
    exact h.elim
  | some q =>
    obtain ⟨ws, r2⟩ := q
    rw [e] at h
    dsimp only at h
    obtain ⟨xs, as2, a1, a2, a3, a4, a5, a6, a7, a8⟩ := takeA x1.sr e
    have hiov : ioVals f.io xs = ioV σ us := by
      rw [hio]
      exact io_vals (pre := []) (by rw [a4]; rfl)
    have g0 : G c n B1 H1 (xs ++ (live as2 ++ T)) := x1.gd.perm (by
      rw [← List.append_assoc, ← List.append_assoc]
      exact List.Perm.append_right _ a5)
    refine ⟨B1, xs, a4.symm, ?_, Gd.enter g0, ?_⟩
    · have := congrArg List.length a4
      rw [List.length_map, List.length_map] at this
      rw [this, har]
    · rw [a1]
      cases ed : Γ f.id ws with
      | bad =>
        rw [ed] at h
        exact h.elim
      | ok w us' =>
        rw [ed] at h
        obtain ⟨⟨w', r'⟩, q1, q2⟩ := Kn.of h
        obtain ⟨r3, q3, q4⟩ := Option.map_eq_some_iff.mp q1
        injection q4 with q4 q5
        subst q4
        subst q5
        intro B2 H2 y ys sm gk ey eys evs
        have g1 : G c n B2 H2 ((y :: ys) ++ (live as2 ++ T)) := Gd.leave g0 gk
        have g2 : G c n B2 H2 (ys ++ (live as2 ++ (y :: T))) := g1.perm (by
          show (y :: (ys ++ (live as2 ++ T))).Perm _
          rw [← List.append_assoc, ← List.append_assoc]
          exact List.perm_middle.symm)
        rw [← a2] at q3
        obtain ⟨as3, b1, b2, b3, b4⟩ := putA (T := y :: T) a3 q3 eys (evs.trans hiov) a8 g2
        refine q2 as3 y B2 H2 ⟨x1.sb.trans sm, b3, b2, fun i hi => ?_⟩ ey b1
        rw [b4 i fun z => hi (hM i z), a6 i fun z => hi (hM i z)]
        exact x1.fr i hi
      | ex cl p us' =>
        rw [ed] at h
        dsimp only at h
        cases e3 : putIo (us.map Ax.er) us' r2 with
        | none =>
          rw [e3] at h
          exact h.elim
        | some r3 =>
          rw [e3] at h
          have h' : KX c n σ as B Y cl r3 := h
          intro B2 H2 ys sm gk eys evs
          have g1 : G c n B2 H2 (ys ++ (live as2 ++ T)) := Gd.leave g0 gk
          rw [← a2] at e3
          obtain ⟨as3, b1, b2, b3, b4⟩ := putA (T := T) a3 e3 eys (evs.trans hiov) a8 g1
          refine h' as3 B2 H2 T M ⟨x1.sb.trans sm, b3, b2, fun i hi => ?_⟩ b1
          rw [b4 i fun z => hi (hM i z), a6 i fun z => hi (hM i z)]
          exact x1.fr i hi
end
end Vx
end

section
set_option maxHeartbeats 4000000
/-! Vx 14: calls, chains, truth, what is walked. -/
namespace Vx
open PySem L2
section
variable {c : Gx} {Γ : Den} {k : Ck} {X : Cx} {Y : WX} {n : En} {σ : St} {as as1 as2 : Sl} {B H B1 H1 B2 H2 : Hp} {T T1 T2 : List A} {M N : List Nat}
abbrev callSem (Γ : Den) (f : Nat) (ss : Sm (List (W ⊕ Nat))) : Sm W := fun r => (ss r).bind fun (vs, r1) => match takeIo vs r1 with
  | some (ws, r2) => match Γ f ws with
    | .ok w us => Res.of ((putIo vs us r2).map fun r3 => (w, r3))
    | .ex c p us => match putIo vs us r2 with
      | some r3 => .ex c p r3
      | none => .bad
    | .bad => .bad
  | none => .bad
theorem snd_call (x : XS c Γ k X Y) {f : Fn} (hf : f ∈ k.fns) {e : Expr} {es : List Expr} {ss : Sm (List (W ⊕ Nat))} {p pos : Pos} (hs : ASnd c X Y (e :: es) M ss) (hb : k.bi f.name = true) (hd : (f.name == ("__debug__" : Str)) = false) (ok : (e :: es).all okE = true)
    (hio : ∀ r vs r1, ss r = .ok (vs, r1) → f.io = ioPos 0 vs ∧ f.ar = vs.length ∧ ∀ i, .inr i ∈ vs → i ∈ M) : ESnd c X Y (.Call (.Name f.name p) (e :: es) [] pos) M (callSem Γ f.id ss) := by
  obtain ⟨a, fd, ps, lv, F, hl, room, hm, hk, hbi⟩ := x.fns f hf
  obtain ⟨ts, pss, ks⟩ := hs
  have ok' : (okE e && es.all okE) = true := ok
  obtain ⟨ok1, ok2⟩ := Bool.and_eq_true_iff.mp ok'
  have pe := pe_callS (X := X) (p := p) (pos := pos) F room (x.ok.gl hb) hm hk hbi (fun σ => passAt x.tk σ) (PEs.pa ok pss) hd (star_ok ok1) (star_any ok2)
  refine ⟨_, pe, plN pe rfl, fun n σ as B H T Q g s hk => ks n σ as B H T _ g s (hk.bind.mono ?_ fun _ _ z => z)⟩
  rintro ⟨vs, r1⟩ ea h as1 us B1 H1 x1 (exs : us.map Ax.er = vs) (rfl : ers as1 = r1)
  obtain ⟨h1, h2, h3⟩ := hio _ _ _ ea
  rw [← exs] at h1 h2 h3 h
  have hM : ∀ i, Sum.inr i ∈ us → i ∈ M := fun i hi => h3 i (List.mem_map.mpr ⟨_, hi, rfl⟩)
  have h' := Kn.mono h (fun a _ kk as2 y B2 H2 (x2 : Nx c n σ M as B as2 (y :: T) B2 H2) e1 e2 => kk as2 y B2 H2 x2 e1 e2) fun _ _ z => z
  exact call_core x1 hM h1 (by rw [h2, List.length_map]) h'
theorem snd_call0 (x : XS c Γ k X Y) {f : Fn} (hf : f ∈ k.fns) {p pos : Pos} (hb : k.bi f.name = true) (hd : (f.name == ("__debug__" : Str)) = false) (h0 : f.ar = 0) (hi : f.io = []) : ESnd c X Y (.Call (.Name f.name p) [] [] pos) [] (fun r => match Γ f.id [] with
    | .ok w [] => .ok (w, r)
    | _ => .bad) := by
  obtain ⟨a, fd, ps, lv, F, hl, room, hm, hk, hbi⟩ := x.fns f hf
  have pass : Passes (L2.CX X.prog X.w) X E0 := fun pins σ H s e s' I cx => by
    obtain ⟨_, _, _, _, _, _, _, _, _, _, _, _, z⟩ := cx
    exact z.elim
  have pe := pe_call0 (X := X) (p := p) (pos := pos) F room (x.ok.gl hb) hm hk hbi .nil pass hd
  refine ⟨_, pe, plN pe rfl, fun n σ as B H T Q g s hk => ?_⟩
  show spOf c f.io (Γ f.id) f.ar [] H Q E0
  refine ⟨B, [], rfl, h0.symm, Gd.enter (xs := []) (R := live as ++ T) g, ?_⟩
  dsimp only at hk
  show (match Γ f.id [] with
    | .ok w us => _
    | .ex cl p us => _
    | .bad => False : Prop)
  cases ed : Γ f.id [] with
  | bad =>
    rw [ed] at hk
    exact hk.elim
  | ex cl p us =>
    rw [ed] at hk
    exact hk.elim
  | ok w us =>
    rw [ed] at hk
    cases us with
    | cons u us => exact hk.elim
    | nil =>
      have hk' : ∀ as1 x B1 H1, Nx c n σ [] as B as1 (x :: T) B1 H1 → x.er = w → ers as1 = ers as → Q x.val H1 := hk
      intro B' H' y ys sm gk ey eys _
      have e0 : ys = [] := by simpa using eys
      subst e0
      have g1 : G c n B' H' ((y :: []) ++ (live as ++ T)) := Gd.leave (xs := []) (R := live as ++ T) g gk
      exact hk' as y B' H' ⟨sm, g1.perm (List.perm_middle (a := y) (l₁ := live as) (l₂ := T)).symm, s, fun _ _ => rfl⟩ ey rfl
/-! ### a < b < c -/
theorem marks_ok {op op' : CmpOp} {b d : Expr} (h1 : okE b = true) (h2 : okE d = true) : lastMarks [op, op'] [b, d] = false := by
  cases b <;> first | (cases h1; done) | (cases d <;> first | (cases h2; done) | with_unfolding_all rfl)
theorem snd_chn {o p : Rop} {op op' : CmpOp} {g g' : Int → Int → Bool} {a b d : Expr} {Ma Mb Md : List Nat} {sa sb sd : Sm W} {pos : Pos} (ho : OpR X (compareOp op) (rI0 fun i j => .bl (g i j))) (ho' : OpR X (compareOp op') (rI0 fun i j => .bl (g' i j)))
    (hr : o.run = on2I fun i j => pB (g i j)) (hr' : p.run = on2I fun i j => pB (g' i j)) (ha : ESnd c X Y a Ma sa) (hb : ESnd c X Y b Mb sb) (hd : ESnd c X Y d Md sd) (ok1 : okE b = true) (ok2 : okE d = true) :
    ESnd c X Y (.Compare a [op, op'] [b, d] pos) (Ma ++ (Mb ++ Md)) (fun r => (sa r).bind fun (x, r1) => (sb r1).bind fun (y, r2) => match o.run [x, y] with
      | some (.fl (.bl k)) => if k then (sd r2).bind fun (z, r3) => Res.of ((p.run [y, z]).map fun w => (w, r3)) else .ok (.fl (.bl false), r2)
      | _ => .bad) := by
  obtain ⟨ta, pa, _, ka⟩ := ha
  obtain ⟨tb, pb, _, kb⟩ := hb
  obtain ⟨td, pd, _, kd⟩ := hd
  have pe := pe_chain (X := X) (pos := pos) ho ho' pa pb pd (marks_ok ok1 ok2)
  refine ⟨_, pe, fun _ => pt_chain ho ho' pa pb pd (marks_ok ok1 ok2), fun n σ as B H T Q g0 s hk => ka n σ as B H T _ g0 s (hk.bind.mono ?_ fun _ _ z => z)⟩
  rintro ⟨wa, r1⟩ ea h as1 x B1 H1 x1 (ex : x.er = wa) (rfl : ers as1 = r1)
  refine kb n σ as1 B1 H1 (x :: T) _ x1.gd x1.sr ((Kn.bind h).mono ?_ fun _ _ z => KX.trans x1 _ _ z)
  rintro ⟨wb, r2⟩ eb h2 as2 y B2 H2 x2 (ey : y.er = wb) (rfl : ers as2 = r2)
  dsimp only at h2
  have x12 := x1.trans x2
  cases hrun : o.run [wa, wb] with
  | none =>
    rw [hrun] at h2
    exact h2.elim
  | some w =>
    have hrun' := hrun
    rw [hr] at hrun'
    obtain ⟨i, j, e1, e2⟩ := on2I_inv hrun'
    injection e1 with e11 e12
    injection e12 with e12 _
    have e3 : W.fl (.bl (g i j)) = w := Option.some.inj e2
    rw [hrun, ← e3] at h2
    dsimp only at h2
    have hx : x.val = .int i := x1.int (ex.trans e11)
    have hy : y.val = .int j := x2.int (ey.trans e12)
    refine ⟨i, j, hx, hy, g i j, rfl, ?_⟩
    cases hg : g i j with
    | true =>
      rw [hg, if_pos rfl] at h2
      refine iteT (kd n σ as2 B2 H2 (y :: x :: T) _ x2.gd x2.sr ((Kn.bind h2).mono ?_ fun _ _ z => KX.trans x2 _ _ (KX.trans x1 _ _ z)))
      rintro ⟨wd, r3⟩ ed h3 as3 z B3 H3 x3 (ez : z.er = wd) (rfl : ers as3 = r3)
      obtain ⟨⟨w', r'⟩, e4, h4⟩ := Kn.of h3
      obtain ⟨w2, e5, e6⟩ := Option.map_eq_some_iff.mp e4
      injection e6 with e61 e62
      subst e61
      subst e62
      rw [hr'] at e5
      obtain ⟨i2, j2, e7, e8⟩ := on2I_inv e5
      injection e7 with e71 e72
      injection e72 with e72 _
      have e9 : W.fl (.bl (g' i2 j2)) = w2 := Option.some.inj e8
      have hz : z.val = .int j2 := x3.int (ez.trans e72)
      have hy2 : y.val = .int i2 := x2.int (ey.trans e71)
      refine ⟨i2, j2, hy2, hz, ?_⟩
      have xx := (x12.trans x3).dropT.dropT.dropT
      refine h4 as3 (.fl (.bl (g' i2 j2)) (.bl (g' i2 j2))) B3 H3 ((xx.add (v := .bl (g' i2 j2)) (d := .bl (g' i2 j2)) rfl).mono fun q hq => ?_) e9 rfl
      rw [List.append_assoc] at hq
      exact hq
    | false =>
      rw [hg, if_neg Bool.false_ne_true] at h2
      have h2' : ∀ as3 z B3 H3, Nx c n σ (Ma ++ (Mb ++ Md)) as B as3 (z :: T) B3 H3 → z.er = .fl (.bl false) → ers as3 = ers as2 → Q z.val H3 := h2
      refine iteF (h2' as2 (.fl (.bl false) (.bl false)) B2 H2 ((x12.dropT.dropT.add (v := .bl false) (d := .bl false) rfl).mono fun q hq => ?_) rfl rfl)
      rcases List.mem_append.mp hq with z | z
      · exact List.mem_append_left _ z
      · exact List.mem_append_right _ (List.mem_append_left _ z)
/-! ### truth -/
/-- one operand -/
def O1Snd (c : Gx) (X : Cx) (Y : WX) (e : Expr) (M : List Nat) (sem : Sm Rv) : Prop :=
  ∃ t, PE X e t ∧ ∀ (n : En) (σ : St) (as : Sl) (B H : Hp) (T : List A) (Q : VK), G c n B H (live as ++ T) → SR σ as →
    Kn (sem (ers as)) (fun a => ∀ as1 (u : Ov) B1 H1, Nx c n σ M as B as1 (temps [u] ++ T) B1 H1 → u.rv = a.1 → ers as1 = a.2 → POk c B1 as1 [u] → Q u.v H1) (KX c n σ as B Y) → t σ H Q
theorem o1_t {e : Expr} {se : Sm W} (he : ESnd c X Y e M se) : O1Snd c X Y e M (fun r => (se r).bind fun (w, r1) => .ok (Rv.t w, r1)) := by
  obtain ⟨t, pe, _, ke⟩ := he
  refine ⟨t, pe, fun n σ as B H T Q g s hk => ke n σ as B H T Q g s (hk.bind.mono ?_ fun _ _ z => z)⟩
  rintro ⟨w, r1⟩ ea h as1 x B1 H1 x1 (ex : x.er = w) (rfl : ers as1 = r1)
  have h' : ∀ as2 (u : Ov) B2 H2, Nx c n σ M as B as2 (temps [u] ++ T) B2 H2 → u.rv = Rv.t w → ers as2 = ers as1 → POk c B2 as2 [u] → Q u.v H2 := h
  refine h' as1 (.t x) B1 H1 x1 (by rw [← ex]; rfl) rfl fun q v hm => ?_
  rcases List.mem_cons.mp hm with z | z <;> cases z
theorem o1_p {e : Expr} {se : Sm (Nat × List Nat)} (he : PSnd c X Y e M se) : O1Snd c X Y e M (fun r => (se r).bind fun (q, r1) => .ok (Rv.p q, r1)) := by
  obtain ⟨t, pe, ke⟩ := he
  refine ⟨t, pe, fun n σ as B H T Q g s hk => ke n σ as B H T Q g s (hk.bind.mono ?_ fun _ _ z => z)⟩
  rintro ⟨q0, r1⟩ ea h as1 v w B1 H1 x1 (rfl : ers as1 = r1) pa
  have h' : ∀ as2 (u : Ov) B2 H2, Nx c n σ M as B as2 (temps [u] ++ T) B2 H2 → u.rv = Rv.p q0 → ers as2 = ers as1 → POk c B2 as2 [u] → Q u.v H2 := h
  refine h' as1 (.p q0 v) B1 H1 x1 rfl rfl fun q v' hm w' e => ?_
  rcases List.mem_cons.mp hm with z | z
  · injection z with z1 z2
    subst z1
    subst z2
    have := pa.get
    dsimp only at this
    rw [this] at e
    rw [← Option.some.inj e]
    exact pa
  · cases z
/-- an operand, ready for use -/
theorem o1_ov {u : Ov} {w : W} (x1 : Nx c n σ M as B as1 (temps [u] ++ T) B1 H1) (po : POk c B1 as1 [u]) (hv : u.rv.val (ers as1) = some w) : ∃ B2, Nx c n σ M as B as1 T B2 H1 ∧ Same B1 B2 ∧ OV c B2 H1 w u.v := by
  obtain ⟨B2, x2, s2, r2⟩ := x1.freezeL
  have ov := ovs_of (us := [u]) (ws := [w]) rfl x2.gd (fun y hy => r2 y (mem_temps hy)) (po.mono s2) (by simp [hv])
  obtain ⟨v, e1, e2⟩ := ov.one
  injection e1 with e1 _
  rw [← e1] at e2
  exact ⟨B2, x2, s2, e2⟩
theorem truth_ok {w : W} {v : V} {b : Bool} (h : OV c B H w v) (e : w.truth = some b) : TruV c.K v H b := by
  cases w with
  | fl d => cases d with
    | bl x =>
      have e1 : x = b := Option.some.inj e
      have e2 : v = .bl x := h.1
      rw [e2, e1]
      exact rfl
    | int x =>
      have e1 : (x != 0) = b := Option.some.inj e
      have e2 : v = .int x := h.1
      rw [e2, ← e1]
      exact rfl
    | nd kd ds => cases kd with
      | lst =>
        have e1 : (!ds.isEmpty) = b := Option.some.inj e
        obtain ⟨a, us, r1, _, r2, r3⟩ := h.1
        have e2 : ds.isEmpty = us.isEmpty := by
          have := r3.len
          cases ds <;> cases us <;> first | rfl | (simp at this)
        rw [r1, ← e1, e2]
        exact .inl ⟨us, .inl (.inl r2), rfl⟩
      | _ => cases e
    | _ => cases e
  | nd kd cs => cases kd with
    | lst =>
      have e1 : (!cs.isEmpty) = b := Option.some.inj e
      have r := h.1
      rw [W.dat_nd] at r
      obtain ⟨a, us, r1, _, r2, r3⟩ := r
      have e2 : cs.isEmpty = us.isEmpty := by
        have := r3.len
        rw [List.length_map] at this
        cases cs <;> cases us <;> first | rfl | (simp at this)
      rw [r1, ← e1, e2]
      exact .inl ⟨us, .inl (.inl r2), rfl⟩
    | _ => cases e
theorem tsnd_tru {e : Expr} {se : Sm Rv} (hK : X.K = c.K) (he : O1Snd c X Y e M se) (ho : okT e = true) : TSnd c X Y e M (fun r => ((se r).bind fun (v, r1) => Res.of (((v.val r1).bind W.truth).map fun b => (.fl (.bl b), r1))).bind bool?) := by
  obtain ⟨t, pe, ke⟩ := he
  refine ⟨_, pt_truth pe (test_ok ho), fun n σ as B H T Q g s hk => ke n σ as B H T _ g s (hk.bind.bind.mono ?_ fun _ _ z => z)⟩
  rintro ⟨v, r1⟩ ea h as1 u B1 H1 x1 (eu : u.rv = v) (rfl : ers as1 = r1) po
  obtain ⟨⟨w', r'⟩, e4, h3⟩ := Kn.of h
  obtain ⟨b, e5, e6⟩ := Option.map_eq_some_iff.mp e4
  injection e6 with e61 e62
  subst e61
  subst e62
  obtain ⟨w, e7, e8⟩ := Option.bind_eq_some_iff.mp e5
  rw [← eu] at e7
  obtain ⟨B2, x2, s2, ov⟩ := o1_ov x1 po e7
  have h3' : ∀ as2 B2 H2, Nx c n σ M as B as2 T B2 H2 → ers as2 = ers as1 → Q b H2 := h3
  rw [hK]
  exact ⟨b, truth_ok ov e8, h3' as1 B2 H1 x2 rfl⟩
end
end Vx
end

section
set_option maxHeartbeats 4000000
/-! Vx 15: what is walked. -/
namespace Vx
open PySem L2
section
variable {c : Gx} {Γ : Den} {k : Ck} {X : Cx} {Y : WX} {n : En} {σ : St} {as as1 as2 : Sl} {B H B1 H1 B2 H2 : Hp} {T T1 T2 : List A} {M N : List Nat}
/-- a later state: what is known has grown, the slots P are as they were -/
def Lat (c : Gx) (P : List Nat) (as1 : Sl) (B1 : Hp) (as2 : Sl) (B2 H2 : Hp) : Prop := Same B1 B2 ∧ (∃ n T2, G c n B2 H2 (live as2 ++ T2)) ∧ ∀ i ∈ P, as2[i]? = as1[i]?
/-- J walks the items ws -/
def WkOk (c : Gx) (P : List Nat) (as1 : Sl) (B1 : Hp) (J : L2.It) (ws : List W) : Prop := ∃ (S : Hp → Prop) (Yd : Nat → Hp → V → Hp → Prop), Walk J ws.length S Yd ∧ (∀ as2 B2 H2, Lat c P as1 B1 as2 B2 H2 → S H2) ∧
  ∀ i w as2 B2 H2 x H3 n T2, ws[i]? = some w → Lat c P as1 B1 as2 B2 H2 → Yd i H2 x H3 → G c n B2 H2 (live as2 ++ T2) → ∃ B3 y, Same B2 B3 ∧ G c n B3 H3 (live as2 ++ y :: T2) ∧ y.val = x ∧ y.er = w
def ISnd (c : Gx) (X : Cx) (Y : WX) (tg e : Expr) (M P : List Nat) (sem : Sm (List W)) : Prop :=
  ∃ wi, PI X tg e wi ∧ ∀ (n : En) (σ : St) (as : Sl) (B H : Hp) (T : List A) (R : L2.It → Hp → Prop), G c n B H (live as ++ T) → SR σ as →
    Kn (sem (ers as)) (fun a => ∀ as1 B1 H1 J, Nx c n σ M as B as1 T B1 H1 → ers as1 = a.2 → WkOk c P as1 B1 J a.1 → R J H1) (KX c n σ as B Y) → wi σ H R
/-- the slot of a borrowed operand -/
def Rv.root : Rv → List Nat
  | .t _ => []
  | .p q => [q.1]
/-- a container of known things stays -/
theorem cont_ok {u : Ov} {w : W} {kd : Kd} {ds : List D} {P : List Nat} (x1 : Nx c n σ M as B as1 (temps [u] ++ T) B1 H1) (po : POk c B1 as1 [u]) (hv : u.rv.val (ers as1) = some w) (hs : w.shal = some (kd, ds)) (hP : ∀ i ∈ u.rv.root, i ∈ P)
    (hkd : kd = .lst ∨ kd = .tup) : ∃ B2 a us, Nx c n σ M as B as1 T B2 H1 ∧ Same B1 B2 ∧ u.v = .ref a ∧ RepDs c B2 ds us ∧ ∀ as2 B3 H3, Lat c P as1 B2 as2 B3 H3 → H3 a = some (kd.ho c 0 us) := by
  obtain ⟨B2, x2, s2, ov⟩ := o1_ov x1 po hv
  obtain ⟨a, us, e1, _, e2, e3⟩ := ov.2.2 _ _ hs
  refine ⟨B2, a, us, x2, s2, e1, e3, fun as2 B3 H3 hl => ?_⟩
  have e2' : H1 a = some (kd.ho c 0 us) := by
    rcases hkd with rfl | rfl <;> exact e2
  obtain ⟨l1, ⟨n2, T2, g2⟩, l3⟩ := hl
  cases w with
  | fl d =>
    have r := ov.2.1 d rfl
    cases d with
    | nd kd' ds' =>
      have e4 : (some (kd', ds') : Option (Kd × List D)) = some (kd, ds) := hs
      injection e4 with e4
      injection e4 with e5 e6
      subst e5
      subst e6
      obtain ⟨a', us', r1, _, r2, r3⟩ := r
      have ea : a' = a := by
        have := r1.symm.trans e1
        injection this
      subst ea
      have b2 : B2 a' = some (kd'.ho c 0 us') := by
        rcases hkd with rfl | rfl <;> exact r2
      have h1 := x2.gd.sub _ _ b2
      rw [e2'] at h1
      have b3 := g2.sub _ _ (l1 _ _ b2)
      rw [b3, ← h1]
    | _ => cases hs
  | nd kd' cs =>
    -- an owned container in a slot
    cases u with
    | t x =>
      have e4 : W.fl x.er.dat = .nd kd' cs := Option.some.inj hv
      cases e4
    | p q v =>
      have hq : q.1 ∈ P := hP q.1 (List.mem_singleton.mpr rfl)
      have pa := po q v List.mem_cons_self _ hv
      obtain ⟨y, y1, y2⟩ := pa
      obtain ⟨a', dx, xs, s1, s2', s3⟩ := A.at_sub y2
      have hs' : (if cs.all W.isFl then some (kd', cs.map W.unfl) else none) = some (kd, ds) := hs
      split at hs'
      · injection hs' with hs'
        injection hs' with e5 e6
        subst e5
        have ea : a' = a := by
          have e7 : v = .ref a := e1
          have := s3.symm.trans e7
          injection this
        subst ea
        have h1 := (x1.gd.hold _ (mem_objsL (List.mem_append_left _ (live_mem y1)) (sub_objs (c := c) s1 (a', kd'.ho c dx (vals xs)) List.mem_cons_self))).1
        have y3 : as2[q.1]? = some (some y) := (l3 q.1 hq).trans y1
        have h3 := (g2.hold _ (mem_objsL (List.mem_append_left _ (live_mem y3)) (sub_objs (c := c) s1 (a', kd'.ho c dx (vals xs)) List.mem_cons_self))).1
        have h1' : H1 a' = some (kd'.ho c dx (vals xs)) := h1
        have h3' : H3 a' = some (kd'.ho c dx (vals xs)) := h3
        rw [h3', ← h1', e2']
      · cases hs'
theorem item_fl {ds : List D} {us : List V} {i : Nat} {w : W} {v : V} (r : RepDs c B ds us) (h1 : (ds.map W.fl)[i]? = some w) (h2 : us[i]? = some v) : ∃ d, w = .fl d ∧ RepD c B d v := by
  rw [List.getElem?_map] at h1
  cases e : ds[i]? with
  | none =>
    rw [e] at h1
    cases h1
  | some d =>
    rw [e] at h1
    exact ⟨d, (Option.some.inj h1).symm, RepDs.at r e h2⟩
theorem add_y {v : V} {d : D} (g : G c n B H (live as ++ T)) (r : RepD c B d v) : G c n B H (live as ++ A.fl v d :: T) := Gd.perm (Gd.add g r) (List.perm_middle (a := A.fl v d)).symm
theorem isnd_sq {tg e : Expr} {se : Sm Rv} {P : List Nat} (hK : X.K = c.K) (he : O1Snd c X Y e M se) (hP : ∀ r v r1, se r = .ok (v, r1) → ∀ i ∈ v.root, i ∈ P) :
    ISnd c X Y tg e M P (fun r => (se r).bind fun (v, r1) => Res.of (((v.val r1).bind W.lstD).map fun ds => (ds.map .fl, r1))) := by
  obtain ⟨t, pe, ke⟩ := he
  refine ⟨iList X.K t, pi_list pe, fun n σ as B H T R g s hk => ke n σ as B H T _ g s (hk.bind.mono ?_ fun _ _ z => z)⟩
  rintro ⟨v, r1⟩ ea h as1 u B1 H1 x1 (eu : u.rv = v) (rfl : ers as1 = r1) po
  obtain ⟨⟨ws, r'⟩, e4, h3⟩ := Kn.of h
  obtain ⟨ds, e5, e6⟩ := Option.map_eq_some_iff.mp e4
  injection e6 with e61 e62
  subst e61
  subst e62
  obtain ⟨w, e7, e8⟩ := Option.bind_eq_some_iff.mp e5
  have hp := hP _ _ _ ea
  rw [← eu] at e7 hp
  obtain ⟨B2, a, us, x2, s2, e9, rp, st⟩ := cont_ok x1 po e7 (lstD_inv e8) hp (.inl rfl)
  have l0 : Lat c P as1 B2 as1 B2 H1 := ⟨Same.refl _, ⟨n, T, x2.gd⟩, fun _ _ => rfl⟩
  have hl : (ds.map W.fl).length = us.length := by rw [List.length_map]; exact rp.len
  refine ⟨a, e9, ⟨us, .inl (.inl (st _ _ _ l0))⟩, h3 as1 B2 H1 (Itl X.K a) x2 rfl ⟨fun H => SqL X.K H a us, YAt us, by rw [hl]; exact walk_list, fun as2 B3 H3 l => .inl (.inl (st _ _ _ l)), ?_⟩⟩
  intro i w as2 B3 H3 x H4 n2 T2 hw l y g2
  obtain ⟨rfl, hy⟩ := y
  obtain ⟨d, ed, rd⟩ := item_fl rp hw hy
  exact ⟨B3, .fl x d, Same.refl _, add_y g2 (RepD.mono l.1 rd), rfl, ed.symm⟩
theorem isnd_tq {tg e : Expr} {se : Sm Rv} {P : List Nat} (hK : X.K = c.K) (he : O1Snd c X Y e M se) (hP : ∀ r v r1, se r = .ok (v, r1) → ∀ i ∈ v.root, i ∈ P) :
    ISnd c X Y tg e M P (fun r => (se r).bind fun (v, r1) => Res.of (((v.val r1).bind W.tupD).map fun ds => (ds.map .fl, r1))) := by
  obtain ⟨t, pe, ke⟩ := he
  refine ⟨iTup X.K t, pi_tup pe, fun n σ as B H T R g s hk => ke n σ as B H T _ g s (hk.bind.mono ?_ fun _ _ z => z)⟩
  rintro ⟨v, r1⟩ ea h as1 u B1 H1 x1 (eu : u.rv = v) (rfl : ers as1 = r1) po
  obtain ⟨⟨ws, r'⟩, e4, h3⟩ := Kn.of h
  obtain ⟨ds, e5, e6⟩ := Option.map_eq_some_iff.mp e4
  injection e6 with e61 e62
  subst e61
  subst e62
  obtain ⟨w, e7, e8⟩ := Option.bind_eq_some_iff.mp e5
  have hp := hP _ _ _ ea
  rw [← eu] at e7 hp
  obtain ⟨B2, a, us, x2, s2, e9, rp, st⟩ := cont_ok x1 po e7 (tupD_inv e8) hp (.inr rfl)
  have l0 : Lat c P as1 B2 as1 B2 H1 := ⟨Same.refl _, ⟨n, T, x2.gd⟩, fun _ _ => rfl⟩
  have hl : (ds.map W.fl).length = us.length := by rw [List.length_map]; exact rp.len
  refine ⟨a, e9, ⟨us, .inl (.inl (st _ _ _ l0))⟩, h3 as1 B2 H1 (Itt X.K a) x2 rfl ⟨fun H => SqT X.K H a us, YAt us, by rw [hl]; exact walk_tup, fun as2 B3 H3 l => .inl (.inl (st _ _ _ l)), ?_⟩⟩
  intro i w as2 B3 H3 x H4 n2 T2 hw l y g2
  obtain ⟨rfl, hy⟩ := y
  obtain ⟨d, ed, rd⟩ := item_fl rp hw hy
  exact ⟨B3, .fl x d, Same.refl _, add_y g2 (RepD.mono l.1 rd), rfl, ed.symm⟩
theorem range_wk {lo hi : Int} {P : List Nat} : WkOk c P as1 B1 (Itr lo (hi - lo).toNat) (rangeW lo hi) := by
  have hl : (rangeW lo hi).length = (hi - lo).toNat := by simp [rangeW]
  refine ⟨fun _ => True, YFn fun i => .int (lo + i), by rw [hl]; exact walk_range, fun _ _ _ _ => trivial, ?_⟩
  intro i w as2 B3 H3 x H4 n2 T2 hw l y g2
  obtain ⟨rfl, hy⟩ := y
  have hi' : i < (hi - lo).toNat := by
    rw [← hl]
    exact (List.getElem?_eq_some_iff.mp hw).1
  have e : (rangeW lo hi)[i]? = some (.fl (.int (lo + (i : Int)))) := by
    unfold rangeW
    rw [List.getElem?_map, List.getElem?_range hi']
    rfl
  rw [hw] at e
  have hy' : x = .int (lo + (i : Int)) := hy
  subst hy'
  exact ⟨B3, .fl (.int (lo + (i : Int))) (.int (lo + (i : Int))), Same.refl _, add_y (d := .int (lo + (i : Int))) g2 rfl, rfl, (Option.some.inj e).symm⟩
theorem within_b {i : Int} (h : within i = true) : -(2 ^ 62) ≤ i ∧ i < 2 ^ 62 := by
  have h' := of_decide_eq_true h
  omega
theorem isnd_r1 {tg e : Expr} {se : Sm W} {p pos : Pos} {P : List Nat} (x : XOk c k X) (hb : k.bi "range" = true) (ok : okE e = true) (he : ESnd c X Y e M se) :
    ISnd c X Y tg (.Call (.Name "range" p) [e] [] pos) M P (fun r => (se r).bind fun (w, r1) => match w with
      | .fl (.int n) => if within n then .ok (rangeW 0 n, r1) else .bad
      | _ => .bad) := by
  obtain ⟨t, pe, _, ke⟩ := he
  refine ⟨_, pi_range1 (x.gl hb) (x.free _ (by decide)) (pa_cons pe pa_nil (star_ok ok)) (star_ok ok), fun n σ as B H T R g s hk => ke n σ as B H T _ g s (hk.bind.mono ?_ fun _ _ z => z)⟩
  rintro ⟨w, r1⟩ ea h as1 y B1 H1 x1 (ey : y.er = w) (rfl : ers as1 = r1)
  match w, ey, h with
  | .fl (.int m), ey, h =>
    dsimp only at h
    by_cases hw : within m = true
    · rw [if_pos hw] at h
      have h' : ∀ as2 B2 H2 J, Nx c n σ M as B as2 T B2 H2 → ers as2 = ers as1 → WkOk c P as2 B2 J (rangeW 0 m) → R J H2 := h
      obtain ⟨b1, b2⟩ := within_b hw
      refine ⟨m, by rw [x1.int ey], b1, b2, h' as1 B1 H1 _ x1.dropT rfl ?_⟩
      have := range_wk (c := c) (as1 := as1) (B1 := B1) (lo := 0) (hi := m) (P := P)
      rw [Int.sub_zero] at this
      exact this
    · rw [if_neg hw] at h
      exact h.elim
theorem isnd_r2 {tg e d : Expr} {Md : List Nat} {se sd : Sm W} {p pos : Pos} {P : List Nat} (x : XOk c k X) (hb : k.bi "range" = true) (ok : okE e = true) (ok2 : okE d = true) (he : ESnd c X Y e M se) (hd : ESnd c X Y d Md sd) :
    ISnd c X Y tg (.Call (.Name "range" p) [e, d] [] pos) (M ++ Md) P (fun r => (se r).bind fun (x, r1) => (sd r1).bind fun (y, r2) => match x, y with
      | .fl (.int m), .fl (.int n) => if within m && within n then .ok (rangeW m n, r2) else .bad
      | _, _ => .bad) := by
  obtain ⟨t, pe, _, ke⟩ := he
  obtain ⟨td, pd, _, kd⟩ := hd
  refine ⟨_, pi_range2 (x.gl hb) (x.free _ (by decide)) (pa_cons pe (pa_cons pd pa_nil (star_ok ok2)) (star_ok ok)) (by rw [star_ok ok, star_ok ok2]; rfl) (by rw [star_ok ok2]; rfl), fun n σ as B H T R g s hk => ke n σ as B H T _ g s (hk.bind.mono ?_ fun _ _ z => z)⟩
  rintro ⟨w, r1⟩ ea h as1 y B1 H1 x1 (ey : y.er = w) (rfl : ers as1 = r1)
  refine kd n σ as1 B1 H1 (y :: T) _ x1.gd x1.sr ((Kn.bind h).mono ?_ fun _ _ z => KX.trans x1 _ _ z)
  rintro ⟨w2, r2⟩ eb h2 as2 z B2 H2 x2 (ez : z.er = w2) (rfl : ers as2 = r2)
  dsimp only at h2
  split at h2
  · rename_i m m2
    split at h2
    · rename_i hw
      obtain ⟨w1, w2'⟩ := Bool.and_eq_true_iff.mp hw
      have h' : ∀ as3 B3 H3 J, Nx c n σ (M ++ Md) as B as3 T B3 H3 → ers as3 = ers as2 → WkOk c P as3 B3 J (rangeW m m2) → R J H3 := h2
      obtain ⟨b1, b2⟩ := within_b w1
      obtain ⟨b3, b4⟩ := within_b w2'
      exact ⟨m, m2, by rw [x1.int ey, x2.int ez], ⟨b1, b2, b3, b4⟩, h' as2 B2 H2 _ (x1.trans x2).dropT.dropT rfl range_wk⟩
    · exact h2.elim
  · exact h2.elim
/-- a pair just laid -/
theorem pair_y {T : Addr} {x z : V} {d e : D} {T2 : List A} (g : G c n B H (live as ++ T2)) (hT : H T = none) (r1 : RepD c B d x) (r2 : RepD c B e z) : ∃ B3, Same B B3 ∧ G c n B3 (upd H T (.tup [x, z])) (live as ++ A.fl (.ref T) (.nd .tup [d, e]) :: T2) := by
  have g1 := add_y (T := T2) g r2
  have g2 := add_y (T := A.fl z e :: T2) g1 r1
  have g3 : G c n B H ([A.fl x d, A.fl z e] ++ (live as ++ T2)) := g2.perm (by
    refine List.perm_middle.trans (List.Perm.cons _ ?_)
    exact List.perm_middle)
  have g4 := Gd.alloc (k := .tup) g3 hT rfl trivial
  obtain ⟨B3, s3, g5⟩ := Gd.freeze g4
  refine ⟨B3, s3, Gd.perm g5 ?_⟩
  exact (List.perm_middle (a := A.fl (.ref T) (.nd .tup [d, e])) (l₁ := live as) (l₂ := T2)).symm
theorem zipW_len : ∀ (ds es : List D), (zipW ds es).length = min ds.length es.length
  | [], es => by simp [zipW]
  | d :: ds, [] => by simp [zipW]
  | d :: ds, e :: es => by
    show (zipW ds es).length + 1 = min (ds.length + 1) (es.length + 1)
    rw [zipW_len ds es]
    omega
theorem zipW_get : ∀ {ds es : List D} {i : Nat} {w : W}, (zipW ds es)[i]? = some w → ∃ d e, ds[i]? = some d ∧ es[i]? = some e ∧ w = .fl (.nd .tup [d, e])
  | [], es, i, w, h => by simp [zipW] at h
  | d :: ds, [], i, w, h => by simp [zipW] at h
  | d :: ds, e :: es, 0, w, h => ⟨d, e, rfl, rfl, (Option.some.inj h).symm⟩
  | d :: ds, e :: es, i + 1, w, h => by
    obtain ⟨d', e', h1, h2, h3⟩ := zipW_get (ds := ds) (es := es) (i := i) (w := w) (by simpa [zipW] using h)
    exact ⟨d', e', by simpa using h1, by simpa using h2, h3⟩
theorem enumW_get : ∀ {ds : List D} {n i : Nat} {w : W}, (enumW n ds)[i]? = some w → ∃ d, ds[i]? = some d ∧ w = .fl (.nd .tup [.int ((n + i : Nat) : Int), d])
  | [], n, i, w, h => by simp [enumW] at h
  | d :: ds, n, 0, w, h => ⟨d, rfl, (Option.some.inj h).symm⟩
  | d :: ds, n, i + 1, w, h => by
    obtain ⟨d', h1, h2⟩ := enumW_get (ds := ds) (n := n + 1) (i := i) (w := w) (by simpa [enumW] using h)
    exact ⟨d', by simpa using h1, by rw [h2, show n + 1 + i = n + (i + 1) by omega]⟩
theorem enumW_len : ∀ (ds : List D) (n : Nat), (enumW n ds).length = ds.length
  | [], n => rfl
  | d :: ds, n => by
    show (enumW (n + 1) ds).length + 1 = ds.length + 1
    rw [enumW_len ds]
theorem isnd_en {elts : List Expr} {kk : Nat} {tpos : Pos} {e : Expr} {se : Sm Rv} {p pos : Pos} {P : List Nat} (x : XOk c k X) (hb : k.bi "enumerate" = true) (ok : okE e = true) (he : O1Snd c X Y e M se) (hP : ∀ r v r1, se r = .ok (v, r1) → ∀ i ∈ v.root, i ∈ P) :
    ISnd c X Y (.Tuple elts kk tpos) (.Call (.Name "enumerate" p) [e] [] pos) M P (fun r => (se r).bind fun (v, r1) => Res.of (((v.val r1).bind W.lstD).map fun ds => (enumW 0 ds, r1))) := by
  obtain ⟨t, pe, ke⟩ := he
  refine ⟨_, pi_enum (x.gl hb) (x.free _ (by decide)) (pa_cons pe pa_nil (star_ok ok)) (star_ok ok), fun n σ as B H T R g s hk => ke n σ as B H T _ g s (hk.bind.mono ?_ fun _ _ z => z)⟩
  rintro ⟨v, r1⟩ ea h as1 u B1 H1 x1 (eu : u.rv = v) (rfl : ers as1 = r1) po
  obtain ⟨⟨ws, r'⟩, e4, h3⟩ := Kn.of h
  obtain ⟨ds, e5, e6⟩ := Option.map_eq_some_iff.mp e4
  injection e6 with e61 e62
  subst e61
  subst e62
  obtain ⟨w, e7, e8⟩ := Option.bind_eq_some_iff.mp e5
  have hp := hP _ _ _ ea
  rw [← eu] at e7 hp
  obtain ⟨B2, a, us, x2, s2, e9, rp, st⟩ := cont_ok x1 po e7 (lstD_inv e8) hp (.inl rfl)
  have l0 : Lat c P as1 B2 as1 B2 H1 := ⟨Same.refl _, ⟨n, T, x2.gd⟩, fun _ _ => rfl⟩
  have hl : (enumW 0 ds).length = us.length := by rw [enumW_len]; exact rp.len
  refine ⟨a, us, by rw [e9], .inl (.inl (st _ _ _ l0)), h3 as1 B2 H1 (Ite X.K a) x2 rfl ⟨fun H => SqL X.K H a us, _, by rw [hl]; exact walk_enum, fun as2 B3 H3 l => .inl (.inl (st _ _ _ l)), ?_⟩⟩
  intro i w as2 B3 H3 x H4 n2 T2 hw l y g2
  obtain ⟨Ta, q1, q2, h1, h2, h4, h5, h6⟩ := y
  obtain ⟨d, d1, d2⟩ := enumW_get hw
  have rd := RepDs.at rp d1 h6
  have e10 : q1 = .int ((i : Nat) : Int) := (Option.some.inj h5).symm
  subst e10
  obtain ⟨B4, s4, g4⟩ := pair_y (d := .int ((i : Nat) : Int)) (e := d) (x := .int ((i : Nat) : Int)) (z := q2) g2 h2 rfl (RepD.mono l.1 rd)
  rw [h4]
  exact ⟨B4, _, s4, g4, h1.symm, by rw [d2, Nat.zero_add]; rfl⟩
/-- two operands -/
def sem2 (se sd : Sm Rv) : Sm (List Rv) := fun r => (se r).bind fun (v, r1) => ((sd r1).bind fun (u, r2) => (Res.ok (([] : List Rv), r2)).bind fun (vs, r3) => Res.ok (u :: vs, r3)).bind fun (vs, r2) => Res.ok (v :: vs, r2)
theorem isnd_zp {elts : List Expr} {kk : Nat} {tpos : Pos} {e d : Expr} {Md : List Nat} {se sd : Sm Rv} {p pos : Pos} {P : List Nat} (x : XOk c k X) (hb : k.bi "zip" = true) (ok : okE e = true) (ok2 : okE d = true) (hs : OLSnd c X Y [e, d] M (sem2 se sd))
    (hP : ∀ r v r1, se r = .ok (v, r1) → ∀ i ∈ v.root, i ∈ P) (hP2 : ∀ r v r1, sd r = .ok (v, r1) → ∀ i ∈ v.root, i ∈ P) :
    ISnd c X Y (.Tuple elts kk tpos) (.Call (.Name "zip" p) [e, d] [] pos) M P (fun r => (se r).bind fun (v, r1) => (sd r1).bind fun (u, r2) => match (v.val r2).bind W.lstD, (u.val r2).bind W.lstD with
      | some ds, some es => .ok (zipW ds es, r2)
      | _, _ => .bad) := by
  obtain ⟨ts, ps, ks⟩ := hs
  obtain ⟨t, u, e2, pe, pd⟩ := ps.two
  subst e2
  refine ⟨_, pi_zip (x.gl hb) (x.free _ (by decide)) (pa_cons pe (pa_cons pd pa_nil (star_ok ok2)) (star_ok ok)) (star_ok ok) (star_any (es := [d]) (by simp [ok2])), fun n σ as B H T R g s hk => ?_⟩
  have hk' : Kn (sem2 se sd (ers as)) (fun a => ∃ v u, a.1 = [v, u] ∧ (∀ i ∈ v.root, i ∈ P) ∧ (∀ i ∈ u.root, i ∈ P) ∧ Kn (match (v.val a.2).bind W.lstD, (u.val a.2).bind W.lstD with
      | some ds, some es => Res.ok (zipW ds es, a.2)
      | _, _ => .bad) (fun a => ∀ as1 B1 H1 J, Nx c n σ M as B as1 T B1 H1 → ers as1 = a.2 → WkOk c P as1 B1 J a.1 → R J H1) (KX c n σ as B Y)) (KX c n σ as B Y) := by
    dsimp only at hk
    unfold sem2
    cases e1 : se (ers as) with
    | bad =>
      rw [e1] at hk
      exact hk
    | ex cl p r =>
      rw [e1] at hk
      exact hk
    | ok a =>
      obtain ⟨v, r1⟩ := a
      rw [e1] at hk
      cases e2 : sd r1 with
      | bad =>
        dsimp only [Res.bind] at hk ⊢
        rw [e2] at hk ⊢
        exact hk
      | ex cl p r =>
        dsimp only [Res.bind] at hk ⊢
        rw [e2] at hk ⊢
        exact hk
      | ok b =>
        obtain ⟨u, r2⟩ := b
        dsimp only [Res.bind] at hk ⊢
        rw [e2] at hk ⊢
        exact ⟨v, u, rfl, hP _ _ _ e1, hP2 _ _ _ e2, hk⟩
  refine ks n σ as B H T _ g s (hk'.mono ?_ fun _ _ z => z)
  rintro ⟨vs, r1⟩ ea ⟨v, u', evs, p1, p2, h⟩ as1 us B1 H1 x1 (eus : us.map Ov.rv = vs) (rfl : ers as1 = r1) po
  dsimp only at evs
  subst evs
  match us, eus, x1, po with
  | [o1, o2], eus, x1, po =>
    injection eus with eu1 eus
    injection eus with eu2 _
    subst eu1
    subst eu2
    dsimp only at h
    split at h
    · rename_i ds es z1 z2
      have h' : ∀ as2 B2 H2 J, Nx c n σ M as B as2 T B2 H2 → ers as2 = ers as1 → WkOk c P as2 B2 J (zipW ds es) → R J H2 := h
      obtain ⟨w1, y1, y2⟩ := Option.bind_eq_some_iff.mp z1
      obtain ⟨w2, y3, y4⟩ := Option.bind_eq_some_iff.mp z2
      have po1 : POk c B1 as1 [o1] := fun q v hq => po q v (by
        rcases List.mem_cons.mp hq with z | z
        · rw [z]
          exact List.mem_cons_self
        · cases z)
      have po2 : POk c B1 as1 [o2] := fun q v hq => po q v (by
        rcases List.mem_cons.mp hq with z | z
        · rw [z]
          exact List.mem_cons_of_mem _ List.mem_cons_self
        · cases z)
      have x1' : Nx c n σ M as B as1 (temps [o1] ++ (temps [o2] ++ T)) B1 H1 := by
        cases o1 <;> cases o2 <;> exact x1
      obtain ⟨B2, a, us, x2, s2, e9, rp, st⟩ := cont_ok x1' po1 y1 (lstD_inv y2) p1 (.inl rfl)
      obtain ⟨B3, b, us2, x3, s3, e10, rp2, st2⟩ := cont_ok x2 (po2.mono s2) y3 (lstD_inv y4) p2 (.inl rfl)
      have st' : ∀ as2 B4 H3, Lat c P as1 B3 as2 B4 H3 → H3 a = some (.lst us) := fun as2 B4 H3 l => st as2 B4 H3 ⟨s3.trans l.1, l.2.1, l.2.2⟩
      have st2' : ∀ as2 B4 H3, Lat c P as1 B3 as2 B4 H3 → H3 b = some (.lst us2) := st2
      have l0 : Lat c P as1 B3 as1 B3 H1 := ⟨Same.refl _, ⟨n, T, x3.gd⟩, fun _ _ => rfl⟩
      have hl : (zipW ds es).length = min us.length us2.length := by rw [zipW_len, rp.len, rp2.len]
      refine ⟨a, b, us, us2, by (show [o1.v, o2.v] = _; rw [e9, e10]), .inl (.inl (st' _ _ _ l0)), .inl (.inl (st2' _ _ _ l0)), h' as1 B3 H1 (Itz X.K a b) x3 rfl ⟨fun H => SqL X.K H a us ∧ SqL X.K H b us2, _, walk_zip hl, fun as2 B4 H3 l => ⟨.inl (.inl (st' _ _ _ l)), .inl (.inl (st2' _ _ _ l))⟩, ?_⟩⟩
      intro i w as2 B4 H3 x H4 n2 T2 hw l y g2
      obtain ⟨Ta, q1, q2, h1, h2, h4, h5, h6⟩ := y
      obtain ⟨d, e, d1, d2, d3⟩ := zipW_get hw
      have rd := RepDs.at (RepDs.mono s3 rp) d1 h5
      have re := RepDs.at rp2 d2 h6
      obtain ⟨B5, s5, g5⟩ := pair_y g2 h2 (RepD.mono l.1 rd) (RepD.mono l.1 re)
      rw [h4]
      exact ⟨B5, _, s5, g5, h1.symm, d3.symm⟩
    · exact h.elim
end
end Vx
end

section
set_option maxHeartbeats 4000000
/-! Vx 16: targets, comprehensions. -/
namespace Vx
open PySem L2
section
variable {c : Gx} {Γ : Den} {k : Ck} {X : Cx} {Y : WX} {n : En} {σ : St} {as as1 as2 : Sl} {B H B1 H1 B2 H2 : Hp} {T T1 T2 : List A} {M N : List Nat}
/-! ### targets -/
mutual
def Tg.tg (K : PySem.W.Frag) : Tg → TG
  | .nm i => gName i
  | .tp ts => gTup K ts.length (Tg.tgs K ts)
def Tg.tgs (K : PySem.W.Frag) : List Tg → TGs
  | [] => gNil
  | t :: ts => gCons (t.tg K) (Tg.tgs K ts)
end
mutual
def Tg.slots : Tg → List Nat
  | .nm i => [i]
  | .tp ts => Tg.slotsL ts
def Tg.slotsL : List Tg → List Nat
  | [] => []
  | t :: ts => t.slots ++ Tg.slotsL ts
end
mutual
def Tg.chk (k : Ck) : Tg → Expr → Bool
  | .nm i, .Name x _ => decide (k.N[i]? = some x) && (decide (k.sc.names.lookup x = some .local) || (k.cel && decide (k.sc.names.lookup x = some .cell)))
  | .tp ts, .Tuple es _ _ => decide (es.length = ts.length) && Tg.chks k ts es
  | _, _ => false
def Tg.chks (k : Ck) : List Tg → List Expr → Bool
  | [], [] => true
  | t :: ts, e :: es => t.chk k e && Tg.chks k ts es
  | _, _ => false
end
theorem assign_star : ∀ {es : List Expr} {env : PySem.Env}, (∀ e ∈ es, okE e = true) → (assignEach es env).length = es.length ∧ (assignEach es env).findIdx? (·.1) = none ∧ (∀ e r, es = e :: r → (assignEach (e :: r) env).map (·.2) = assign e env :: (assignEach r env).map (·.2))
  | [], _, _ => ⟨rfl, rfl, fun e r h => by cases h⟩
  | e :: es, env, h => by
    obtain ⟨h1, h2, _⟩ := assign_star (es := es) (env := env) fun x hx => h x (List.mem_cons_of_mem _ hx)
    have he := h e List.mem_cons_self
    have e1 : assignEach (e :: es) env = (false, assign e env) :: assignEach es env := by
      cases e <;> first | rfl | (cases he; done)
    refine ⟨by rw [e1]; simp [h1], by rw [e1]; simp [List.findIdx?_cons, h2], fun e' r q => ?_⟩
    injection q with q1 q2
    subst q1
    subst q2
    rw [e1]
    rfl
theorem chk_okE (k : Ck) : ∀ {t : Tg} {e : Expr}, t.chk k e = true → okE e = true
  | .nm i, e, h => by
    cases e <;> first | rfl | (exact absurd h Bool.false_ne_true)
  | .tp ts, e, h => by
    cases e <;> first | rfl | (exact absurd h Bool.false_ne_true)
theorem chks_okE (k : Ck) : ∀ {ts : List Tg} {es : List Expr}, Tg.chks k ts es = true → ∀ e ∈ es, okE e = true
  | [], [], _, e, he => by cases he
  | [], _ :: _, h, _, _ => by cases h
  | _ :: _, [], h, _, _ => by cases h
  | t :: ts, e' :: es, h, e, he => by
    obtain ⟨h1, h2⟩ := Bool.and_eq_true_iff.mp (show (t.chk k e' && Tg.chks k ts es) = true from h)
    rcases List.mem_cons.mp he with q | q
    · rw [q]
      exact chk_okE k h1
    · exact chks_okE k h2 e q
mutual
theorem tg_ok (x : XOk c k X) : ∀ {t : Tg} {e : Expr}, t.chk k e = true → PG X e (t.tg c.K)
  | .nm i, e, h => by
    cases e with
    | Name y pos =>
      obtain ⟨h1, h2⟩ := Bool.and_eq_true_iff.mp (show (decide (k.N[i]? = some y) && (decide (k.sc.names.lookup y = some .local) || (k.cel && decide (k.sc.names.lookup y = some .cell)))) = true from h)
      rcases Bool.or_eq_true_iff.mp h2 with h2 | h2
      · have hl : X.env.scope.names.lookup y = some .local := by rw [x.sc]; exact of_decide_eq_true h2
        exact pg_name (by rw [x.hN]; exact x.nd) (by rw [x.hN]; exact of_decide_eq_true h1) (.inl hl) (.inr hl)
      · obtain ⟨h3, h4⟩ := Bool.and_eq_true_iff.mp h2
        exact pg_name (by rw [x.hN]; exact x.nd) (by rw [x.hN]; exact of_decide_eq_true h1) (.inr (by rw [x.sc]; exact of_decide_eq_true h4)) (.inl (x.cel h3 y))
    | _ => exact absurd h Bool.false_ne_true
  | .tp ts, e, h => by
    cases e with
    | Tuple es kk pos =>
      obtain ⟨h1, h2⟩ := Bool.and_eq_true_iff.mp (show (decide (es.length = ts.length) && Tg.chks k ts es) = true from h)
      obtain ⟨a1, a2, _⟩ := assign_star (env := X.env) (chks_okE k h2)
      have := pg_tup (X := X) (pos := pos) (k := kk) x.calm (tgs_ok x h2) a1 a2
      rw [x.K, of_decide_eq_true h1] at this
      exact this
    | _ => exact absurd h Bool.false_ne_true
theorem tgs_ok (x : XOk c k X) : ∀ {ts : List Tg} {es : List Expr}, Tg.chks k ts es = true → PGs X es (Tg.tgs c.K ts)
  | [], [], _ => pgs_nil
  | [], _ :: _, h => by cases h
  | _ :: _, [], h => by cases h
  | t :: ts, e :: es, h => by
    obtain ⟨h1, h2⟩ := Bool.and_eq_true_iff.mp (show (t.chk k e && Tg.chks k ts es) = true from h)
    have ha : ∀ e' ∈ e :: es, okE e' = true := fun e' he => by
      rcases List.mem_cons.mp he with q | q
      · rw [q]
        exact chk_okE k h1
      · exact chks_okE k h2 e' q
    exact pgs_cons (tg_ok x h1) (tgs_ok x h2) ((assign_star (env := X.env) ha).2.2 e es rfl)
end
/-- behind a binding -/
structure Bd (σ σ2 : St) (as as2 : Sl) (P : List Nat) : Prop where
  len : σ2.length = σ.length
  sig : ∀ i, i ∉ P → σ2[i]? = σ[i]?
  slo : ∀ i, i ∉ P → as2[i]? = as[i]?
  sr : SR σ2 as2
/-- an owned container is let go, its children kept -/
theorem G.openN {a dx : Addr} {kd : Kd} {cs : List A} (g : G c n B H (live as ++ A.nd a dx kd cs :: T)) : G c n B H (live as ++ (cs ++ T)) := by
  have lfx := g.lf (.nd a dx kd cs) (List.mem_append_right _ List.mem_cons_self)
  have p0 : (objsL c (live as ++ A.nd a dx kd cs :: T)).Perm (((a, kd.ho c dx (vals cs)) :: kd.xtr a dx) ++ objsL c (live as ++ (cs ++ T))) := by
    rw [objsL_append, objsL_append, objsL_append]
    show (objsL c (live as) ++ (((a, kd.ho c dx (vals cs)) :: (kd.xtr a dx ++ objsL c cs)) ++ objsL c T)).Perm _
    simp only [List.cons_append, List.append_assoc]
    refine List.perm_middle.trans (List.Perm.cons _ ?_)
    have sw : ∀ u v w : List (Addr × HO), (u ++ (v ++ w)).Perm (v ++ (u ++ w)) := fun u v w => by
      rw [← List.append_assoc, ← List.append_assoc]
      exact List.Perm.append_right _ List.perm_append_comm
    exact sw _ _ _
  exact {
    b0 := g.b0
    sub := g.sub
    hold := fun q hq => g.hold q (p0.mem_iff.mpr (List.mem_append_right _ hq))
    nd := by
      have h := (p0.map Prod.fst).nodup_iff.mp g.nd
      rw [List.map_append] at h
      exact (List.nodup_append.mp h).2.1
    lf := fun z hz => by
      rcases List.mem_append.mp hz with hz | hz
      · exact g.lf z (List.mem_append_left _ hz)
      · rcases List.mem_append.mp hz with hz | hz
        · obtain ⟨j, hj, e⟩ := List.mem_iff_getElem.mp hz
          exact okL_get lfx.2 (by rw [List.getElem?_eq_getElem hj, e])
        · exact g.lf z (List.mem_append_right _ (List.mem_cons_of_mem _ hz))
    fr := g.fr
    nw := fun b hb => g.nw b (hb.imp id fun z => by
      refine ((p0.map Prod.fst).mem_iff).mpr ?_
      rw [List.map_append]
      exact List.mem_append_right _ z) }
theorem G.addL : ∀ {ds : List D} {us : List V}, RepDs c B ds us → G c n B H (live as ++ T) → G c n B H (live as ++ (flz ds us ++ T))
  | [], us, r, g => by
    have e : us = [] := r
    subst e
    exact g
  | d :: ds, us, ⟨v, vr, e, r1, r2⟩, g => by
    subst e
    exact add_y (G.addL r2 g) r1
theorem tup_open {y : A} {ws : List W} (g : G c n B H (live as ++ y :: T)) (h : y.er.parts = some ws) : ∃ a xs, y.val = .ref a ∧ H a = some (.tup (vals xs)) ∧ xs.map A.er = ws ∧ G c n B H (live as ++ (xs ++ T)) := by
  cases y with
  | fl v d =>
    have r : RepD c B d v := g.lf (.fl v d) (List.mem_append_right _ List.mem_cons_self)
    cases d with
    | nd kd ds =>
      cases kd with
      | tup =>
        have e4 : (some (ds.map W.fl)) = some ws := h
        obtain ⟨a, us, r1, _, r2, r3⟩ := r
        obtain ⟨f1, f2, f3⟩ := flz_facts r3
        refine ⟨a, flz ds us, r1, ?_, by rw [f2]; exact Option.some.inj e4, G.addL r3 (Gd.drop1 (x := A.fl v (.nd .tup ds)) (Gd.perm g List.perm_middle))⟩
        rw [f1]
        exact g.sub _ _ r2
      | _ => cases h
    | _ => cases h
  | nd a dx kd cs =>
    rw [A.er_nd] at h
    cases kd with
    | tup =>
      have e4 : (some (cs.map A.er)) = some ws := h
      exact ⟨a, cs, rfl, (g.hold (a, HO.tup (vals cs)) (mem_objsL (x := .nd a dx .tup cs) (List.mem_append_right _ List.mem_cons_self) List.mem_cons_self)).1, Option.some.inj e4, g.openN⟩
    | _ => cases h
mutual
theorem bind_ok : ∀ {t : Tg} {y : A} {T : List A} {σ : St} {as : Sl} {r2 : Env} {B : Hp} {Q : St → Hp → Prop}, SR σ as → G c n B H (live as ++ y :: T) → t.bind y.er (ers as) = some r2 →
    (∀ σ2 as2, G c n B H (live as2 ++ T) → ers as2 = r2 → Bd σ σ2 as as2 t.slots → Q σ2 H) → t.tg c.K y.val σ H Q
  | .nm i, y, T, σ, as, r2, B, Q, s, g, h, q => by
    have h' : (if i < (ers as).length then some ((ers as).set i (some y.er)) else none) = some r2 := h
    rw [ers_len] at h'
    split at h'
    · rename_i hi
      have e := Option.some.inj h'
      refine q (σ.set i (some y.val)) (as.set i (some y)) ((g.forget (i := i)).give hi) (by rw [ers_set, ← e]; rfl) ⟨by rw [List.length_set], fun j hj => ?_, fun j hj => ?_, s.put⟩
      · exact List.getElem?_set_ne fun z => hj (by rw [z]; exact List.mem_singleton.mpr rfl)
      · exact List.getElem?_set_ne fun z => hj (by rw [z]; exact List.mem_singleton.mpr rfl)
    · cases h'
  | .tp ts, y, T, σ, as, r2, B, Q, s, g, h, q => by
    have h' : (match y.er.parts with
      | some ds => Tg.binds ts ds (ers as)
      | none => none) = some r2 := h
    cases e : y.er.parts with
    | none =>
      rw [e] at h'
      cases h'
    | some ds =>
      rw [e] at h'
      obtain ⟨a, xs, e1, e2, e3, g2⟩ := tup_open g e
      have hl : ds.length = ts.length := binds_len h'
      refine ⟨a, vals xs, e1, .inl (.inl e2), by rw [← hl, ← e3]; simp, ?_⟩
      rw [← e3] at h'
      exact binds_ok s g2 h' q
theorem binds_len : ∀ {ts : List Tg} {ds : List W} {r r2 : Env}, Tg.binds ts ds r = some r2 → ds.length = ts.length
  | [], [], _, _, _ => rfl
  | [], _ :: _, _, _, h => by cases h
  | _ :: _, [], _, _, h => by cases h
  | t :: ts, d :: ds, r, r2, h => by
    have h' : (t.bind d r).bind (fun r1 => Tg.binds ts ds r1) = some r2 := h
    obtain ⟨r1, _, h2⟩ := Option.bind_eq_some_iff.mp h'
    show ds.length + 1 = ts.length + 1
    rw [binds_len h2]
theorem binds_ok : ∀ {ts : List Tg} {xs : List A} {T : List A} {σ : St} {as : Sl} {r2 : Env} {B : Hp} {Q : St → Hp → Prop}, SR σ as → G c n B H (live as ++ (xs ++ T)) → Tg.binds ts (xs.map A.er) (ers as) = some r2 →
    (∀ σ2 as2, G c n B H (live as2 ++ T) → ers as2 = r2 → Bd σ σ2 as as2 (Tg.slotsL ts) → Q σ2 H) → Tg.tgs c.K ts (vals xs) σ H Q
  | [], [], T, σ, as, r2, B, Q, s, g, h, q => by
    have e2 : ers as = r2 := Option.some.inj h
    exact ⟨rfl, q σ as g e2 ⟨rfl, fun _ _ => rfl, fun _ _ => rfl, s⟩⟩
  | [], _ :: _, _, _, _, _, _, _, _, _, h, _ => by cases h
  | _ :: _, [], _, _, _, _, _, _, _, _, h, _ => by cases h
  | t :: ts, x :: xs, T, σ, as, r2, B, Q, s, g, h, q => by
    have h' : (t.bind x.er (ers as)).bind (fun r1 => Tg.binds ts (xs.map A.er) r1) = some r2 := h
    obtain ⟨rr, h1, h2⟩ := Option.bind_eq_some_iff.mp h'
    refine ⟨x.val, vals xs, rfl, bind_ok (t := t) (y := x) (T := xs ++ T) s g h1 fun σ2 as2 g2 e2 b => ?_⟩
    rw [← e2] at h2
    refine binds_ok b.sr g2 h2 fun σ3 as3 g3 e3 b3 => q σ3 as3 g3 e3 ⟨b3.len.trans b.len, fun i hi => ?_, fun i hi => ?_, b3.sr⟩
    · exact (b3.sig i fun z => hi (List.mem_append_right _ z)).trans (b.sig i fun z => hi (List.mem_append_left _ z))
    · exact (b3.slo i fun z => hi (List.mem_append_right _ z)).trans (b.slo i fun z => hi (List.mem_append_left _ z))
end

/-! ### comprehensions -/
def wipeA (as : Sl) : List Nat → Sl
  | [] => as
  | v :: vs => (wipeA as vs).set v none
theorem ers_wipe (as : Sl) : ∀ vs : List Nat, ers (wipeA as vs) = wipeE (ers as) vs
  | [] => rfl
  | v :: vs => by
    show ers ((wipeA as vs).set v none) = (wipeE (ers as) vs).set v none
    rw [ers_set, ers_wipe as vs]
    rfl
theorem wipeA_len (as : Sl) : ∀ vs : List Nat, (wipeA as vs).length = as.length
  | [] => rfl
  | v :: vs => by
    show ((wipeA as vs).set v none).length = _
    rw [List.length_set, wipeA_len as vs]
theorem wipeA_some {i : Nat} {x : A} : ∀ {vs : List Nat}, (wipeA as vs)[i]? = some (some x) → as[i]? = some (some x) ∧ i ∉ vs
  | [], h => ⟨h, by simp⟩
  | v :: vs, h => by
    have h' : ((wipeA as vs).set v none)[i]? = some (some x) := h
    rw [List.getElem?_set] at h'
    split at h'
    · split at h' <;> cases h'
    · rename_i hne
      obtain ⟨h1, h2⟩ := wipeA_some (vs := vs) h'
      exact ⟨h1, fun z => by
        rcases List.mem_cons.mp z with q | q
        · exact hne q.symm
        · exact h2 q⟩
theorem wipeA_out {i : Nat} : ∀ {vs : List Nat}, i ∉ vs → (wipeA as vs)[i]? = as[i]?
  | [], _ => rfl
  | v :: vs, h => by
    show ((wipeA as vs).set v none)[i]? = _
    rw [List.getElem?_set_ne fun z => h (by rw [z]; exact List.mem_cons_self)]
    exact wipeA_out fun z => h (List.mem_cons_of_mem _ z)
theorem SR.wipe (s : SR σ as) (vs : List Nat) : SR (L2.wipe σ vs) (wipeA as vs) := ⟨by rw [wipeA_len, wipe_length]; exact s.1, fun i x h => by
  obtain ⟨h1, h2⟩ := wipeA_some h
  rw [wipe_out h2]
  exact s.2 i x h1⟩
theorem G.wipe (g : G c n B H (live as ++ T)) : ∀ vs : List Nat, G c n B H (live (wipeA as vs) ++ T)
  | [] => g
  | v :: vs => (G.wipe g vs).forget
theorem wipe_in {σ : St} {i : Nat} : ∀ {vs : List Nat}, i ∈ vs → (L2.wipe σ vs)[i]? = if i < σ.length then some none else none
  | v :: vs, h => by
    show ((L2.wipe σ vs).set v none)[i]? = _
    rw [List.getElem?_set]
    by_cases e : v = i
    · subst e
      rw [if_pos rfl, wipe_length]
    · rw [if_neg e]
      rcases List.mem_cons.mp h with q | q
      · exact (e q.symm).elim
      · exact wipe_in q
theorem wipe_congr {σ σ2 : St} {vs : List Nat} (hl : σ2.length = σ.length) (h : ∀ i, i ∉ vs → σ2[i]? = σ[i]?) : L2.wipe σ2 vs = L2.wipe σ vs := by
  refine List.ext_getElem? fun i => ?_
  by_cases hi : i ∈ vs
  · rw [wipe_in hi, wipe_in hi, hl]
  · rw [wipe_out hi, wipe_out hi, h i hi]
/-- the context of a comprehension's block -/
def Blk (X : Cx) (scope : Scope) (X' : Cx) : Prop := ∃ (s : Shared) (H : Hp) (C : Addr) (cl : List (Str × Addr)) (fp : List Addr), X' = X.blk s H scope (compEnvC scope cl C X.env) fp
theorem blk_takes {X' : Cx} {scope : Scope} (h : Blk X scope X') : Takes X' (fun _ _ _ _ => False) := fun u s' hx => by
  obtain ⟨_, _, _, _, _, _, _, _, _, _, _, _, _, _, _, _, w⟩ := hx
  exact w.elim
theorem blk_xs {X' : Cx} {scope : Scope} (x : XS c Γ k X Y) (h : Blk X scope X') : XS c Γ { k with sc := relS scope k.sc, cel := false } X' (fun _ _ _ _ => False) := by
  have tk := blk_takes h
  obtain ⟨s, H, C, cl, fp, rfl⟩ := h
  exact ⟨⟨x.ok.hN, x.ok.nd, (by show relabel scope X.env = relS scope k.sc; rw [← x.ok.sc]; rfl), x.ok.calm, x.ok.K, x.ok.room, x.ok.free, fun h => by cases h⟩, tk, x.fns, x.cons⟩
/-- one reading for all blocks -/
theorem uni_e {F : Cx → Prop} {e : Expr} {sem : Sm W} (h : ∀ X', F X' → ESnd c X' Y e M sem) : ∃ t, (∀ X', F X' → PE X' e t) ∧ ∀ (n : En) (σ : St) (as : Sl) (B H : Hp) (T : List A) (Q : VK), G c n B H (live as ++ T) → SR σ as →
    Kn (sem (ers as)) (fun a => ∀ as1 x B1 H1, Nx c n σ M as B as1 (x :: T) B1 H1 → x.er = a.1 → ers as1 = a.2 → Q x.val H1) (KX c n σ as B Y) → t σ H Q := by
  refine ⟨fun σ H Q => ∀ X' (hX : F X'), (h X' hX).choose σ H Q, fun X' hX => ⟨fun pins s σ H Q I q => (h X' hX).choose_spec.1.run pins s σ H Q I (q X' hX)⟩, fun n σ as B H T Q g s hk X' hX => (h X' hX).choose_spec.2.2 n σ as B H T Q g s hk⟩
theorem uni_t {F : Cx → Prop} {e : Expr} {sem : Sm Bool} (h : ∀ X', F X' → TSnd c X' Y e M sem) : ∃ t, (∀ X', F X' → PT X' e t) ∧ ∀ (n : En) (σ : St) (as : Sl) (B H : Hp) (T : List A) (Q : Bool → Hp → Prop), G c n B H (live as ++ T) → SR σ as →
    Kn (sem (ers as)) (fun a => ∀ as1 B1 H1, Nx c n σ M as B as1 T B1 H1 → ers as1 = a.2 → Q a.1 H1) (KX c n σ as B Y) → t σ H Q := by
  refine ⟨fun σ H Q => ∀ X' (hX : F X'), (h X' hX).choose σ H Q, fun X' hX => ⟨fun pins s σ H Q I q => (h X' hX).choose_spec.1.run pins s σ H Q I (q X' hX)⟩, fun n σ as B H T Q g s hk X' hX => (h X' hX).choose_spec.2 n σ as B H T Q g s hk⟩
/-- the tests of a comprehension -/
def ITst (c : Gx) (F : Cx → Prop) (ifs : List Expr) (M : List Nat) (sem : Sm Bool) : Prop := ∃ t, (∀ X', F X' → PTs X' ifs t) ∧ ∀ (n : En) (σ : St) (as : Sl) (B H : Hp) (T : List A) (Q : Bool → Hp → Prop), G c n B H (live as ++ T) → SR σ as →
    Kn (sem (ers as)) (fun a => ∀ as1 B1 H1, Nx c n σ M as B as1 T B1 H1 → ers as1 = a.2 → Q a.1 H1) (KX c n σ as B (fun _ _ _ _ => False)) → t σ H Q
theorem itst_nil {F : Cx → Prop} : ITst c F [] [] (fun r => .ok (true, r)) := ⟨tYes, fun _ _ => pts_nil, fun n σ as B H T Q g s hk => by
  have hk' : ∀ as1 B1 H1, Nx c n σ [] as B as1 T B1 H1 → ers as1 = ers as → Q true H1 := hk
  exact hk' as B H (Nx.refl g s) rfl⟩
theorem itst_one {F : Cx → Prop} {e : Expr} {sem : Sm Bool} (h : ∀ X', F X' → TSnd c X' (fun _ _ _ _ => False) e M sem) : ITst c F [e] M sem := by
  obtain ⟨t, h1, h2⟩ := uni_t h
  exact ⟨t, fun X' hX => pts_one (h1 X' hX), h2⟩
theorem Kn.noEx {α : Type} {x : Res α} {ko : α → Prop} {kx kx' : Nat → Env → Prop} (h : Kn x.noEx ko kx) : Kn x ko kx' := by
  cases x with
  | ok a => exact h
  | ex c p r => exact (show False from h).elim
  | bad => exact h
/-- what a comprehension's text computes -/
def LcK (c : Gx) (X : Cx) (Y : WX) (t : TE) (M : List Nat) (sem : Sm W) : Prop := ∀ (n : En) (σ : St) (as : Sl) (B H : Hp) (T : List A) (Q : VK), G c n B H (live as ++ T) → SR σ as →
  Kn (sem (ers as)) (fun a => ∀ as1 x B1 H1, Nx c n σ M as B as1 (x :: T) B1 H1 → x.er = a.1 → ers as1 = a.2 → Q x.val H1) (KX c n σ as B Y) → t σ H Q
theorem snd_lc0 (x : XS c Γ k X Y) {elt tg iter : Expr} {ifs : List Expr} {scope : Scope} {own : List (Str × Nat)} {t : Tg} {Mi P Mt Me : List Nat} {si : Sm (List W)} {st : Sm Bool} {se : Sm W}
    (hb : blkC k.N k.sc scope own = true) (ht : t.chk { k with sc := relS scope k.sc, cel := false } tg = true) (hsl : ∀ i ∈ t.slots, i ∈ own.map (·.2)) (hi : ISnd c X Y tg iter Mi P si) (hit : ITst c (Blk X scope) ifs Mt st)
    (he : ∀ X', Blk X scope X' → ESnd c X' (fun _ _ _ _ => False) elt Me se) (hP : ∀ i ∈ P, i ∉ own.map (·.2) ∧ i ∉ Mt ∧ i ∉ Me) :
    ∃ wi tt te, PI X tg iter wi ∧ BlkOk X.N X.env.scope scope own ∧ (∀ X', Blk X scope X' → PG X' tg (t.tg c.K)) ∧ (∀ X', Blk X scope X' → PTs X' ifs tt) ∧ (∀ X', Blk X scope X' → PE X' elt te) ∧
    LcK c X Y (tLc wi (t.tg c.K) tt te (own.map (·.2))) (Mi ++ (own.map (·.2) ++ (Mt ++ Me))) (fun r => (si r).bind fun (ws, r1) =>
      (lcFold t.bind st se (own.map (·.2)) ws [] (wipeE r1 (own.map (·.2)))).bind fun (acc, r2) => .ok (.nd .lst acc, r2)) := by
  obtain ⟨wi, pi, ki⟩ := hi
  obtain ⟨tt, ptt, ktt⟩ := hit
  obtain ⟨te, pee, kee⟩ := uni_e he
  have bo : BlkOk X.N X.env.scope scope own := by
    rw [x.ok.hN, x.ok.sc]
    exact blkOk_by hb
  have pg : ∀ X', Blk X scope X' → PG X' tg (t.tg c.K) := fun X' hX => tg_ok (blk_xs x hX).ok ht
  refine ⟨wi, tt, te, pi, bo, pg, ptt, pee, fun n σ as B H T Q g s hk => ki n σ as B H T _ g s (hk.bind.mono ?_ fun _ _ z => z)⟩
  rintro ⟨ws, r1⟩ ea h as1 B1 H1 J x1 (rfl : ers as1 = r1) ⟨S, Yd, wk, wS, wY⟩ Da hD
  obtain ⟨vs, hvs⟩ : ∃ vs, vs = own.map (·.2) := ⟨_, rfl⟩
  rw [← hvs] at h hsl hP ⊢
  have x2 := Nx.alloc (xs := []) (kd := .lst) x1 hD rfl trivial
  -- the invariant
  refine lc_it wk (σ := σ) (Qd := fun H => Q (.ref Da) H) (fun i Hi => ∃ (ai : Sl) (acc : List A) (Bi : Hp), G c n Bi Hi (live ai ++ .nd Da 0 .lst acc :: T) ∧ SR (L2.wipe σ vs) ai ∧ Same B1 Bi ∧ (∀ j, j ∉ vs ++ (Mt ++ Me) → ai[j]? = as1[j]?) ∧
    Kn ((lcFold t.bind st se vs (ws.drop i) (acc.map A.er) (ers ai)).bind fun (acc, r2) => .ok (.nd .lst acc, r2)) (fun a => ∀ as3 y B3 H3, Nx c n σ (Mi ++ (vs ++ (Mt ++ Me))) as B as3 (y :: T) B3 H3 → y.er = a.1 → ers as3 = a.2 → Q y.val H3) (KX c n σ as B Y)) ?_ ?_ ?_ ?_
  · refine ⟨wipeA as1 vs, [], B1, G.wipe x2.gd vs, x1.sr.wipe vs, Same.refl _, fun j hj => wipeA_out fun z => hj (List.mem_append_left _ z), ?_⟩
    rw [ers_wipe, List.drop_zero]
    exact h
  · rintro i Hi _ ⟨ai, acc, Bi, gi, si', smi, fri, _⟩
    refine wS ai Bi Hi ⟨smi, ⟨n, _, gi⟩, fun j hj => fri j fun z => ?_⟩
    obtain ⟨p1, p2, p3⟩ := hP j hj
    rcases List.mem_append.mp z with z | z
    · exact p1 z
    · rcases List.mem_append.mp z with z | z
      · exact p2 z
      · exact p3 z
  · rintro i xv Hi Hi' hin ⟨ai, acc, Bi, gi, si', smi, fri, hki⟩ hy
    have lat : Lat c P as1 B1 ai Bi Hi := ⟨smi, ⟨n, _, gi⟩, fun j hj => fri j fun z => by
      obtain ⟨p1, p2, p3⟩ := hP j hj
      rcases List.mem_append.mp z with z | z
      · exact p1 z
      · rcases List.mem_append.mp z with z | z
        · exact p2 z
        · exact p3 z⟩
    obtain ⟨B3, y, s3, g3, ev, ew⟩ := wY i ws[i] ai Bi Hi xv Hi' n _ (List.getElem?_eq_getElem hin) lat hy gi
    rw [List.drop_eq_getElem_cons hin] at hki
    -- one turn of the fold
    have hki2 : Kn ((Res.of (t.bind ws[i] (ers ai))).bind fun r1 => (st r1).noEx.bind fun (b, r2) =>
        if b then (se r2).noEx.bind fun (x, r3) => if small (acc.map A.er).length then (lcFold t.bind st se vs (ws.drop (i + 1)) (acc.map A.er ++ [x]) (wipeE r3 vs)).bind fun (acc, r2) => .ok (W.nd .lst acc, r2) else .bad
        else (lcFold t.bind st se vs (ws.drop (i + 1)) (acc.map A.er) (wipeE r2 vs)).bind fun (acc, r2) => .ok (W.nd .lst acc, r2))
        (fun a => ∀ as3 y B3 H3, Nx c n σ (Mi ++ (vs ++ (Mt ++ Me))) as B as3 (y :: T) B3 H3 → y.er = a.1 → ers as3 = a.2 → Q y.val H3) (KX c n σ as B Y) := by
      have e0 : lcFold t.bind st se vs (ws[i] :: ws.drop (i + 1)) (acc.map A.er) (ers ai) = (Res.of (t.bind ws[i] (ers ai))).bind fun r1 => (st r1).noEx.bind fun (b, r2) =>
        if b then (se r2).noEx.bind fun (x, r3) => if small (acc.map A.er).length then lcFold t.bind st se vs (ws.drop (i + 1)) (acc.map A.er ++ [x]) (wipeE r3 vs) else .bad
        else lcFold t.bind st se vs (ws.drop (i + 1)) (acc.map A.er) (wipeE r2 vs) := rfl
      rw [e0] at hki
      clear e0
      cases q1 : t.bind ws[i] (ers ai) with
      | none =>
        rw [q1] at hki
        exact hki
      | some r1 =>
        rw [q1] at hki
        simp only [Res.of_some, Res.bind_ok] at hki ⊢
        cases q2 : (st r1).noEx with
        | bad =>
          rw [q2] at hki
          exact hki
        | ex cl p r =>
          rw [q2] at hki
          exact hki
        | ok b =>
          obtain ⟨b, r2⟩ := b
          rw [q2] at hki
          simp only [Res.bind_ok] at hki ⊢
          cases b with
          | false => exact hki
          | true =>
            simp only [if_true] at hki ⊢
            cases q3 : (se r2).noEx with
            | bad =>
              rw [q3] at hki
              exact hki
            | ex cl p r =>
              rw [q3] at hki
              exact hki
            | ok z =>
              obtain ⟨z, r3⟩ := z
              rw [q3] at hki
              simp only [Res.bind_ok] at hki ⊢
              split
              · rename_i hs
                rw [if_pos hs] at hki
                exact hki
              · rename_i hs
                rw [if_neg hs] at hki
                exact hki
    obtain ⟨rb, q1, hki3⟩ := Kn.of hki2.bind
    rw [← ev]
    rw [← ew] at q1
    refine bind_ok si' g3 q1 fun σ2 a2 g4 e4 bd => ?_
    have wcg : L2.wipe σ2 vs = L2.wipe σ vs := by
      have : L2.wipe σ2 vs = L2.wipe (L2.wipe σ vs) vs := wipe_congr bd.len fun j hj => bd.sig j fun z => hj (hsl j z)
      rw [this]
      exact wipe_congr (wipe_length σ vs) fun j hj => wipe_out hj
    refine ⟨wcg, ?_⟩
    subst e4
    refine ktt n σ2 a2 B3 Hi' _ _ g4 bd.sr (Kn.noEx (Kn.bind hki3) |>.mono ?_ fun _ _ z => z)
    rintro ⟨b, r2⟩ eb hb a3 B4 H4 x4 (rfl : ers a3 = r2)
    have frm : ∀ {a : Sl}, (∀ j, j ∉ vs ++ (Mt ++ Me) → a[j]? = a3[j]?) → ∀ j, j ∉ vs ++ (Mt ++ Me) → a[j]? = as1[j]? := fun ha j hj => by
      rw [ha j hj, x4.fr j fun z => hj (List.mem_append_right _ (List.mem_append_left _ z)), bd.slo j fun z => hj (List.mem_append_left _ (hsl j z)), fri j hj]
    cases b with
    | false =>
      refine iteF ⟨wipeA a3 vs, acc, B4, G.wipe x4.gd vs, by rw [← wcg]; exact x4.sr.wipe vs, (smi.trans s3).trans x4.sb, frm fun j hj => wipeA_out fun z => hj (List.mem_append_left _ z), ?_⟩
      rw [ers_wipe]
      exact hb
    | true =>
      refine iteT (kee n σ2 a3 B4 H4 _ _ x4.gd x4.sr (Kn.noEx (Kn.bind hb) |>.mono ?_ fun _ _ z => z))
      rintro ⟨we, r3⟩ ee he2 a4 z B5 H5 x5 (ez : z.er = we) (rfl : ers a4 = r3)
      dsimp only at he2
      by_cases hs : small (acc.map A.er).length = true
      · rw [if_pos hs] at he2
        have hDa : H5 Da = some (.lst (vals acc)) := (x5.gd.hold (Da, HO.lst (vals acc)) (mem_objsL (x := .nd Da 0 .lst acc) (List.mem_append_right _ (List.mem_cons_of_mem _ List.mem_cons_self)) List.mem_cons_self)).1
        refine ⟨vals acc, hDa, by rw [List.length_map] at hs ⊢; exact small_lt hs, wipeA a4 vs, acc ++ [z], B5, ?_, by rw [← wcg]; exact x5.sr.wipe vs, ((smi.trans s3).trans x4.sb).trans x5.sb, frm fun j hj => ?_, ?_⟩
        · refine G.wipe (as := a4) ?_ vs
          have g5 : G c n B5 H5 (live a4 ++ z :: .nd Da 0 .lst acc :: T) := x5.gd
          refine Gd.write (o := HO.lst (vals acc)) (R := objsL c acc ++ (z.objs c ++ objsL c (live a4 ++ T))) (X := []) g5 ?_ ?_ fun u hu => ?_
          · rw [List.append_nil, objsL_append, objsL_append]
            show (objsL c (live a4) ++ (z.objs c ++ (((Da, HO.lst (vals acc)) :: ([] ++ objsL c acc)) ++ objsL c T))).Perm _
            have sw : ∀ u v w : List (Addr × HO), (u ++ (v ++ w)).Perm (v ++ (u ++ w)) := fun u v w => by
              rw [← List.append_assoc, ← List.append_assoc]
              exact List.Perm.append_right _ List.perm_append_comm
            simp only [List.nil_append, List.cons_append]
            refine List.Perm.trans (List.Perm.append_left _ List.perm_middle) (List.perm_middle.trans (List.Perm.cons _ ?_))
            -- l ++ (z ++ (acc ++ T)) ~ acc ++ (z ++ (l ++ T))
            refine (List.Perm.append_left _ (sw _ _ _)).trans ((sw _ _ _).trans (List.Perm.append_left _ (sw _ _ _)))
          · rw [objsL_append]
            show (objsL c (live a4) ++ (((Da, HO.lst (vals (acc ++ [z]))) :: ([] ++ objsL c (acc ++ [z]))) ++ objsL c T)).Perm ((Da, HO.lst (vals acc ++ [z.val])) :: _)
            have ev2 : vals (acc ++ [z]) = vals acc ++ [z.val] := by simp
            rw [ev2, objsL_append, objsL_append]
            simp only [List.nil_append, List.cons_append]
            refine List.perm_middle.trans (List.Perm.cons _ ?_)
            show (objsL c (live a4) ++ ((objsL c acc ++ (z.objs c ++ [])) ++ objsL c T)).Perm _
            rw [List.append_nil, List.append_assoc]
            have sw : ∀ u v w : List (Addr × HO), (u ++ (v ++ w)).Perm (v ++ (u ++ w)) := fun u v w => by
              rw [← List.append_assoc, ← List.append_assoc]
              exact List.Perm.append_right _ List.perm_append_comm
            exact (sw _ _ _).trans (List.Perm.append_left _ (sw _ _ _))
          · rcases List.mem_append.mp hu with hu | hu
            · exact g5.lf u (List.mem_append_left _ hu)
            · rcases List.mem_cons.mp hu with e | hu
              · rw [e]
                have l1 := g5.lf (.nd Da 0 .lst acc) (List.mem_append_right _ (List.mem_cons_of_mem _ List.mem_cons_self))
                have l2 := g5.lf z (List.mem_append_right _ List.mem_cons_self)
                refine ⟨trivial, okL_iff.mpr fun q hq => ?_⟩
                rcases List.mem_append.mp hq with hq | hq
                · exact okL_iff.mp l1.2 q hq
                · rw [List.mem_singleton.mp hq]
                  exact l2
              · exact g5.lf u (List.mem_append_right _ (List.mem_cons_of_mem _ (List.mem_cons_of_mem _ hu)))
        · rw [wipeA_out fun z => hj (List.mem_append_left _ z)]
          exact x5.fr j fun z => hj (List.mem_append_right _ (List.mem_append_right _ z))
        · rw [ers_wipe, List.map_append]
          show Kn ((lcFold t.bind st se vs (ws.drop (i + 1)) (acc.map A.er ++ [z.er]) _).bind _) _ _
          rw [ez]
          exact he2
      · rw [if_neg hs] at he2
        exact he2.elim
  · rintro Hn ⟨ai, acc, Bi, gi, si', smi, fri, hki⟩
    rw [List.drop_length] at hki
    have hki' : ∀ as3 y B3 H3, Nx c n σ (Mi ++ (vs ++ (Mt ++ Me))) as B as3 (y :: T) B3 H3 → y.er = .nd .lst (acc.map A.er) → ers as3 = ers ai → Q y.val H3 := hki
    refine hki' ai (.nd Da 0 .lst acc) Bi Hn ⟨x1.sb.trans smi, gi, ⟨by rw [si'.1, wipe_length], fun j z hz => (wipe_some (si'.2 j z hz)).1⟩, fun j hj => ?_⟩ (A.er_nd _ _ _ _) rfl
    rw [fri j fun z => hj (List.mem_append_right _ z)]
    exact x1.fr j fun z => hj (List.mem_append_left _ z)
theorem snd_lc (x : XS c Γ k X Y) {elt tg iter : Expr} {ifs : List Expr} {scope : Scope} {own : List (Str × Nat)} {pos : Pos} {t : Tg} {Mi P Mt Me : List Nat} {si : Sm (List W)} {st : Sm Bool} {se : Sm W}
    (hb : blkC k.N k.sc scope own = true) (ht : t.chk { k with sc := relS scope k.sc, cel := false } tg = true) (hsl : ∀ i ∈ t.slots, i ∈ own.map (·.2)) (hi : ISnd c X Y tg iter Mi P si) (hit : ITst c (Blk X scope) ifs Mt st)
    (he : ∀ X', Blk X scope X' → ESnd c X' (fun _ _ _ _ => False) elt Me se) (hP : ∀ i ∈ P, i ∉ own.map (·.2) ∧ i ∉ Mt ∧ i ∉ Me) (ok : okE iter = true) :
    ESnd c X Y (.ListComp elt [⟨tg, iter, ifs, 0⟩] scope pos) (Mi ++ (own.map (·.2) ++ (Mt ++ Me))) (fun r => (si r).bind fun (ws, r1) =>
      (lcFold t.bind st se (own.map (·.2)) ws [] (wipeE r1 (own.map (·.2)))).bind fun (acc, r2) => .ok (.nd .lst acc, r2)) := by
  obtain ⟨wi, tt, te, pi, bo, pg, ptt, pee, kk⟩ := snd_lc0 x hb ht hsl hi hit he hP
  have pe : PE X (.ListComp elt [⟨tg, iter, ifs, 0⟩] scope pos) (tLc wi (t.tg c.K) tt te (own.map (·.2))) := pe_lc x.ok.calm (by rw [x.ok.hN]; exact x.ok.nd) pi bo (fun s H C cl fp => pg _ ⟨s, H, C, cl, fp, rfl⟩) (fun s H C cl fp => ptt _ ⟨s, H, C, cl, fp, rfl⟩) (fun s H C cl fp => pee _ ⟨s, H, C, cl, fp, rfl⟩) (fold_ok ok)
  exact ⟨_, pe, plN pe rfl, kk⟩
end
end Vx
end

section
set_option maxHeartbeats 4000000
/-! Vx 17: expressions: the check of a text, and what it gives. -/
namespace Vx
open PySem L2
/-- where an expression stands: as a value, as a test, inside an and/or's test -/
inductive Md where
  | v | t | w
def okM : Md → Expr → Bool
  | .v, _ => true
  | .t, x => plT x
  | .w, _ => false
def D.conB : D → Expr → Bool
  | .int i, .Constant (.int j) _ _ => decide (i = j)
  | .bl i, .Constant (.bool j) _ _ => i == j
  | .str i, .Constant (.str j) _ _ => decide (i = j)
  | .non, .Constant .none _ _ => true
  | _, _ => false
def D.same : D → D → Bool
  | .int i, .int j => decide (i = j)
  | .bl i, .bl j => i == j
  | .str i, .str j => decide (i = j)
  | .non, .non => true
  | _, _ => false
theorem D.same_eq {a b : D} (h : a.same b = true) : a = b := by
  cases a <;> cases b <;> first | rfl | (cases h; done) | skip
  · have := (beq_iff_eq (a := _) (b := _)).mp h
    rw [this]
  · rw [of_decide_eq_true h]
  · rw [of_decide_eq_true h]
def Rop.cmpO : Rop → Option CmpOp
  | .lt => some .Lt
  | .le => some .LtE
  | .gt => some .Gt
  | .ge => some .GtE
  | _ => none
def dbg (x : Str) : Bool := x == ("__debug__" : Str)
def Pl.root : Pl → Nat
  | .sl i => i
  | .ix p _ => p.root
  | .ky p _ => p.root
  | .fd p _ => p.root
def Pl.triv : Pl → Bool
  | .sl _ => true
  | _ => false
def O.roots : O → List Nat
  | .tm _ => []
  | .bo p => [p.root]
def O.stab (ms : List Nat) : O → Bool
  | .tm _ => true
  | .bo p => p.triv || !ms.contains p.root
def It.roots : It → List Nat
  | .sq o => o.roots
  | .tq o => o.roots
  | .zp a b => a.roots ++ b.roots
  | .en a => a.roots
  | _ => []
mutual
def E.mods : E → List Nat
  | .rd p => p.root :: p.mods
  | .gt p => p.mods
  | .mv i => [i]
  | .con _ => []
  | .gl _ _ => []
  | .op _ xs => O.modsL xs
  | .ixT a b => a.mods ++ b.mods
  | .lst es => E.modsL es
  | .tup es => E.modsL es
  | .dnK => []
  | .dnT => []
  | .fz e => e.mods
  | .call _ xs => Ar.modsL xs
  | .call0 _ => []
  | .ite c a b => c.mods ++ (a.mods ++ b.mods)
  | .and a b => a.mods ++ b.mods
  | .or a b => a.mods ++ b.mods
  | .not a => a.mods
  | .chn _ _ a b c => a.mods ++ (b.mods ++ c.mods)
  | .tru x => x.mods
  | .lc own _ it ifs e => it.mods ++ (own.map (·.2) ++ ((match ifs with
    | none => []
    | some c => c.mods) ++ e.mods))
def E.modsL : List E → List Nat
  | [] => []
  | e :: es => e.mods ++ E.modsL es
def O.mods : O → List Nat
  | .tm e => e.mods
  | .bo p => p.mods
def O.modsL : List O → List Nat
  | [] => []
  | o :: os => o.mods ++ O.modsL os
def Ar.modsL : List Ar → List Nat
  | [] => []
  | .va e :: xs => e.mods ++ Ar.modsL xs
  | .io i :: xs => i :: Ar.modsL xs
def Pl.mods : Pl → List Nat
  | .sl _ => []
  | .ix p e => p.mods ++ e.mods
  | .ky p e => p.mods ++ e.mods
  | .fd p _ => p.mods
def It.mods : It → List Nat
  | .sq o => o.mods
  | .tq o => o.mods
  | .r1 e => e.mods
  | .r2 a b => a.mods ++ b.mods
  | .zp a b => a.mods ++ (b.mods ++ [])
  | .en a => a.mods
  | .st o => o.mods
end
def fnBy (k : Ck) (f : Nat) : Option Fn := k.fns.find? fun x => x.id == f
mutual
def E.chk : E → Md → Ck → Expr → Bool
  | .rd p, m, k, x => okM m x && (okT x && p.chk k x)
  | .gt p, m, k, x => okM m x && (okT x && p.chk k x)
  | .mv i, m, k, x => okM m x && match x with
    | .Name y _ => visB k i y
    | _ => false
  | .con d, m, _, x => okM m x && d.conB x
  | .gl y d, m, k, x => okM m x && match x with
    | .Name z _ => decide (z = y) && (k.bi y && (!dbg y && (d.flat && match k.cons.lookup y with
      | some e => d.same e
      | none => false)))
    | _ => false
  | .op o xs, m, k, x => okM m x && match o.form k x with
    | some es => O.chks xs k es
    | none => false
  | .ixT a b, m, k, x => okM m x && match x with
    | .Subscript p q _ => okE q && (a.chk .v k p && b.chk .v k q)
    | _ => false
  | .lst es, m, k, x => okM m x && match x with
    | .List xs _ => xs.all okE && E.chks es k xs
    | _ => false
  | .tup es, m, k, x => okM m x && match x with
    | .Tuple xs _ _ => xs.all okE && E.chks es k xs
    | _ => false
  | .dnK, m, _, x => okM m x && match x with
    | .Dict [] [] _ => true
    | _ => false
  | .dnT, m, _, x => okM m x && match x with
    | .Dict [] [] _ => true
    | _ => false
  | .fz e, m, k, x => okM m x && e.chk .v k x
  | .call f xs, m, k, x => okM m x && match x with
    | .Call (.Name nm _) (y :: ys) [] _ => (match fnBy k f with
      | some fn => decide (fn.name = nm) && (k.bi nm && (!dbg nm && ((y :: ys).all okE && (decide (fn.io = ioAt 0 xs) && decide (fn.ar = xs.length)))))
      | none => false) && Ar.chks xs k (y :: ys)
    | _ => false
  | .call0 f, m, k, x => okM m x && match x with
    | .Call (.Name nm _) [] [] _ => (match fnBy k f with
      | some fn => decide (fn.name = nm) && (k.bi nm && (!dbg nm && (decide (fn.io = []) && decide (fn.ar = 0))))
      | none => false)
    | _ => false
  | .ite c a b, m, k, x => okM m x && match x with
    | .IfExp d y z _ => c.chk .t k d && (a.chk .v k y && b.chk .v k z)
    | _ => false
  | .and a b, m, k, x => match x with
    | .BoolOp .And (y :: z :: rest) pos => match m with
      | .v => a.chk .v k y && (match rest with
        | [] => b.chk .v k z
        | _ => b.chk .v k (.BoolOp .And (z :: rest) pos))
      | _ => a.chk .t k y && (match rest with
        | [] => b.chk .t k z
        | _ => b.chk .w k (.BoolOp .And (z :: rest) pos))
    | _ => false
  | .or a b, m, k, x => match x with
    | .BoolOp .Or (y :: z :: rest) pos => match m with
      | .v => a.chk .v k y && (match rest with
        | [] => b.chk .v k z
        | _ => b.chk .v k (.BoolOp .Or (z :: rest) pos))
      | _ => a.chk .t k y && (match rest with
        | [] => b.chk .t k z
        | _ => b.chk .w k (.BoolOp .Or (z :: rest) pos))
    | _ => false
  | .not a, m, k, x => match x with
    | .UnaryOp .Not y _ => match m with
      | .v => a.chk .v k y
      | .t => a.chk .t k y
      | .w => false
    | _ => false
  | .chn o p a b c, m, k, x => okM m x && match x with
    | .Compare y [op, op'] [z, u] _ => decide (o.cmpO = some op) && (decide (p.cmpO = some op') && (okE z && (okE u && (a.chk .v k y && (b.chk .v k z && c.chk .v k u)))))
    | _ => false
  | .tru o, m, k, x => match m with
    | .t => okT x && o.chk k x
    | _ => false
  | .lc own g it ifs e, m, k, x => okM m x && match x with
    | .ListComp elt [⟨tg, iter, fs, 0⟩] scope _ => blkC k.N k.sc scope own && (g.chk { k with sc := relS scope k.sc, cel := false } tg && (g.slots.all (fun i => (own.map (·.2)).contains i) && (okE iter && (it.chk k tg iter && (e.chk .v { k with sc := relS scope k.sc, cel := false } elt &&
      ((it.roots.all fun i => !(own.map (·.2)).contains i && (!(match ifs with
        | none => []
        | some c => c.mods).contains i && !e.mods.contains i)) && match ifs with
        | none => fs.isEmpty
        | some c => match fs with
          | [f] => c.chk .t { k with sc := relS scope k.sc, cel := false } f
          | _ => false))))))
    | _ => false
def E.chks : List E → Ck → List Expr → Bool
  | [], _, xs => xs.isEmpty
  | e :: es, k, xs => match xs with
    | x :: xs => e.chk .v k x && E.chks es k xs
    | [] => false
def O.chk : O → Ck → Expr → Bool
  | .tm e, k, x => e.chk .v k x
  | .bo p, k, x => p.chk k x
def O.chks : List O → Ck → List Expr → Bool
  | [], _, xs => xs.isEmpty
  | o :: os, k, xs => match xs with
    | x :: xs => (o.stab (O.modsL os) && o.chk k x) && O.chks os k xs
    | [] => false
def Ar.chks : List Ar → Ck → List Expr → Bool
  | [], _, xs => xs.isEmpty
  | .va e :: es, k, xs => match xs with
    | x :: xs => e.chk .v k x && Ar.chks es k xs
    | [] => false
  | .io i :: es, k, xs => match xs with
    | x :: xs => (match x with
      | .Name y _ => visB k i y
      | _ => false) && Ar.chks es k xs
    | [] => false
def Pl.chk : Pl → Ck → Expr → Bool
  | .sl i, k, x => match x with
    | .Name y _ => visB k i y
    | _ => false
  | .ix p e, k, x => match x with
    | .Subscript y z _ => okE z && ((p.triv || !e.mods.contains p.root) && (p.chk k y && e.chk .v k z))
    | _ => false
  | .ky p e, k, x => match x with
    | .Subscript y z _ => okE z && ((p.triv || !e.mods.contains p.root) && (p.chk k y && e.chk .v k z))
    | _ => false
  | .fd _ _, _, _ => false
def It.chk : It → Ck → Expr → Expr → Bool
  | .sq o, k, _, x => o.chk k x
  | .tq o, k, _, x => o.chk k x
  | .r1 e, k, _, x => match x with
    | .Call (.Name nm _) [y] [] _ => decide (nm = "range") && (k.bi "range" && (okE y && e.chk .v k y))
    | _ => false
  | .r2 a b, k, _, x => match x with
    | .Call (.Name nm _) [y, z] [] _ => decide (nm = "range") && (k.bi "range" && (okE y && (okE z && (a.chk .v k y && b.chk .v k z))))
    | _ => false
  | .zp a b, k, tg, x => match tg with
    | .Tuple _ _ _ => match x with
      | .Call (.Name nm _) [y, z] [] _ => decide (nm = "zip") && (k.bi "zip" && (okE y && (okE z && (a.stab (b.mods ++ []) && (a.chk k y && b.chk k z)))))
      | _ => false
    | _ => false
  | .en a, k, tg, x => match tg with
    | .Tuple _ _ _ => match x with
      | .Call (.Name nm _) [y] [] _ => decide (nm = "enumerate") && (k.bi "enumerate" && (okE y && a.chk k y))
      | _ => false
    | _ => false
  | .st _, _, _, _ => false
end
end Vx
end

section
set_option maxHeartbeats 4000000
/-! Vx 18: a checked expression computes what its sem says. -/
namespace Vx
open PySem L2
theorem and2 {a b : Bool} (h : (a && b) = true) : a = true ∧ b = true := Bool.and_eq_true_iff.mp h
theorem res_bind {α β : Type} {x : Res α} {f : α → Res β} {b : β} (h : x.bind f = .ok b) : ∃ a, x = .ok a ∧ f a = .ok b := by
  cases x with
  | ok a => exact ⟨a, rfl, h⟩
  | ex c p r => cases h
  | bad => cases h
theorem res_of {α : Type} {x : Option α} {b : α} (h : Res.of x = .ok b) : x = some b := by
  cases x with
  | some a =>
    have : a = b := by
      have h' : (Res.ok a) = .ok b := h
      injection h'
    rw [this]
  | none => cases h
section
variable {c : Gx} {Γ : Den}
theorem Pl.root_of : ∀ {p : Pl} {r : Env} {q : Nat × List Nat} {r1 : Env}, p.sem Γ r = .ok (q, r1) → q.1 = p.root
  | .sl i, r, q, r1, h => by
    have h' : (match r[i]? with
      | some (some _) => Res.ok ((i, ([] : List Nat)), r)
      | _ => .bad) = .ok (q, r1) := h
    split at h'
    · injection h' with h'
      injection h' with e1 e2
      rw [← e1]
      rfl
    · cases h'
  | .ix p e, r, q, r1, h => by
    obtain ⟨⟨q0, r0⟩, h1, h2⟩ := res_bind (x := p.sem Γ r) h
    obtain ⟨⟨w, r2⟩, h3, h4⟩ := res_bind h2
    obtain ⟨j, h5, h6⟩ := Option.map_eq_some_iff.mp (res_of h4)
    injection h6 with e1 e2
    rw [← e1]
    exact (Pl.root_of h1 : q0.1 = p.root)
  | .ky p e, r, q, r1, h => by
    obtain ⟨⟨q0, r0⟩, h1, h2⟩ := res_bind (x := p.sem Γ r) h
    obtain ⟨⟨w, r2⟩, h3, h4⟩ := res_bind h2
    obtain ⟨j, h5, h6⟩ := Option.map_eq_some_iff.mp (res_of h4)
    injection h6 with e1 e2
    rw [← e1]
    exact (Pl.root_of h1 : q0.1 = p.root)
  | .fd p f, r, q, r1, h => by
    obtain ⟨⟨q0, r0⟩, h1, h2⟩ := res_bind (x := p.sem Γ r) h
    obtain ⟨j, h5, h6⟩ := Option.map_eq_some_iff.mp (res_of h2)
    injection h6 with e1 e2
    rw [← e1]
    exact (Pl.root_of h1 : q0.1 = p.root)
theorem Pl.triv_of {p : Pl} {r : Env} {q : Nat × List Nat} {r1 : Env} (ht : p.triv = true) (h : p.sem Γ r = .ok (q, r1)) : q.2 = [] := by
  cases p with
  | sl i =>
    have h' : (match r[i]? with
      | some (some _) => Res.ok ((i, ([] : List Nat)), r)
      | _ => .bad) = .ok (q, r1) := h
    split at h'
    · injection h' with h'
      injection h' with e1 e2
      rw [← e1]
    · cases h'
  | _ => cases ht
theorem Pl.stab_of {p : Pl} {ms : List Nat} (h : (p.triv || !ms.contains p.root) = true) : ∀ r q r1, p.sem Γ r = .ok (q, r1) → q.2 = [] ∨ q.1 ∉ ms := fun r q r1 e => by
  rcases Bool.or_eq_true_iff.mp h with h | h
  · exact .inl (Pl.triv_of h e)
  · refine .inr fun z => ?_
    rw [Pl.root_of e] at z
    have h2 : ms.contains p.root = true := List.contains_iff_mem.mpr z
    rw [h2] at h
    cases h
theorem O.root_of {o : O} {r : Env} {v : Rv} {r1 : Env} (h : o.sem Γ r = .ok (v, r1)) : ∀ i ∈ v.root, i ∈ o.roots := by
  cases o with
  | tm e =>
    obtain ⟨⟨w, r0⟩, h1, h2⟩ := res_bind (x := e.sem Γ r) h
    injection h2 with h2
    injection h2 with e1 e2
    rw [← e1]
    intro i hi
    cases hi
  | bo p =>
    obtain ⟨⟨q, r0⟩, h1, h2⟩ := res_bind (x := p.sem Γ r) h
    injection h2 with h2
    injection h2 with e1 e2
    rw [← e1]
    intro i hi
    have hi' : i ∈ [q.1] := hi
    rw [Pl.root_of h1] at hi'
    exact hi'
theorem Ar.io_of : ∀ {xs : List Ar} {r : Env} {vs : List (W ⊕ Nat)} {r1 : Env}, Ar.sems Γ xs r = .ok (vs, r1) → (∀ j, ioPos j vs = ioAt j xs) ∧ vs.length = xs.length ∧ ∀ i, .inr i ∈ vs → i ∈ Ar.modsL xs
  | [], r, vs, r1, h => by
    have h' : (Res.ok (([] : List (W ⊕ Nat)), r)) = .ok (vs, r1) := h
    injection h' with h'
    injection h' with e1 e2
    rw [← e1]
    exact ⟨fun _ => rfl, rfl, fun i hi => by cases hi⟩
  | .va e :: xs, r, vs, r1, h => by
    obtain ⟨⟨w, r0⟩, h1, h2⟩ := res_bind (x := e.sem Γ r) h
    obtain ⟨⟨us, r2⟩, h3, h4⟩ := res_bind (x := Ar.sems Γ xs r0) h2
    injection h4 with h4
    injection h4 with e1 e2
    obtain ⟨a1, a2, a3⟩ := Ar.io_of h3
    rw [← e1]
    refine ⟨fun j => a1 (j + 1), by simp [a2], fun i hi => ?_⟩
    rcases List.mem_cons.mp hi with z | z
    · cases z
    · exact List.mem_append_right _ (a3 i z)
  | .io i :: xs, r, vs, r1, h => by
    have h' : (match r[i]? with
      | some (some _) => (Ar.sems Γ xs r).bind fun (vs, r2) => Res.ok ((.inr i :: vs : List (W ⊕ Nat)), r2)
      | _ => .bad) = .ok (vs, r1) := h
    split at h'
    · obtain ⟨⟨us, r2⟩, h3, h4⟩ := res_bind (x := Ar.sems Γ xs r) h'
      injection h4 with h4
      injection h4 with e1 e2
      obtain ⟨a1, a2, a3⟩ := Ar.io_of h3
      rw [← e1]
      refine ⟨fun j => by show j :: ioPos (j + 1) us = j :: ioAt (j + 1) xs; rw [a1], by simp [a2], fun i' hi => ?_⟩
      rcases List.mem_cons.mp hi with z | z
      · injection z with z
        rw [z]
        exact List.mem_cons_self
      · exact List.mem_cons_of_mem _ (a3 i' z)
    · cases h'
def MSnd (c : Gx) (m : Md) (X : Cx) (Y : WX) (x : Expr) (M : List Nat) (sem : Sm W) : Prop := match m with
  | .v => ESnd c X Y x M sem
  | .t => TSnd c X Y x M (fun r => (sem r).bind bool?)
  | .w => WSnd c X Y x M (fun r => (sem r).bind bool?)
theorem msnd {m : Md} {X : Cx} {Y : WX} {x : Expr} {M : List Nat} {sem : Sm W} (h : okM m x = true) (q : ESnd c X Y x M sem) : MSnd c m X Y x M sem := by
  cases m with
  | v => exact q
  | t => exact tsnd_of q h
  | w => cases h
theorem MSnd.t' {m : Md} {X : Cx} {Y : WX} {x : Expr} {M : List Nat} {sem : Sm W} (hm : m ≠ .v) (q : WSnd c X Y x M (fun r => (sem r).bind bool?)) : MSnd c m X Y x M sem := by
  cases m with
  | v => exact (hm rfl).elim
  | t => exact q.t
  | w => exact q
theorem not_sem {sa : Sm W} : (fun r => (((sa r).bind bool?).bind fun ((k, r1) : Bool × Env) => (Res.ok ((.fl (.bl (!k)) : W), r1))).bind bool?) = fun r => ((sa r).bind bool?).bind fun (x, r1) => .ok (!x, r1) := by
  funext r
  cases (sa r).bind bool? <;> rfl
theorem and_sem {sa sb : Sm W} : (fun r => (((sa r).bind bool?).bind fun ((k, r1) : Bool × Env) => if k then sb r1 else (Res.ok ((.fl (.bl false) : W), r1))).bind bool?) = fun r => ((sa r).bind bool?).bind fun (x, r1) => if x then (sb r1).bind bool? else .ok (false, r1) := by
  funext r
  cases (sa r).bind bool? with
  | ok a =>
    obtain ⟨k, r1⟩ := a
    cases k <;> rfl
  | _ => rfl
theorem or_sem {sa sb : Sm W} : (fun r => (((sa r).bind bool?).bind fun ((k, r1) : Bool × Env) => if k then (Res.ok ((.fl (.bl true) : W), r1)) else sb r1).bind bool?) = fun r => ((sa r).bind bool?).bind fun (x, r1) => if x then .ok (true, r1) else (sb r1).bind bool? := by
  funext r
  cases (sa r).bind bool? with
  | ok a =>
    obtain ⟨k, r1⟩ := a
    cases k <;> rfl
  | _ => rfl
theorem cmpO_ok {X : Cx} {o : Rop} {op : CmpOp} (h : o.cmpO = some op) : ∃ g : Int → Int → Bool, OpR X (compareOp op) (rI0 fun i j => .bl (g i j)) ∧ o.run = on2I fun i j => pB (g i j) := by
  cases o <;> first | (cases h; done) | (have e := Option.some.inj h; subst e)
  · exact ⟨_, op_lt, rfl⟩
  · exact ⟨_, op_le, rfl⟩
  · exact ⟨_, op_gt, rfl⟩
  · exact ⟨_, op_ge, rfl⟩
theorem fnBy_ok {k : Ck} {f : Nat} {fn : Fn} (h : fnBy k f = some fn) : fn ∈ k.fns ∧ fn.id = f := ⟨List.mem_of_find?_eq_some h, by simpa using List.find?_some h⟩
theorem con_ok {X : Cx} {d : D} {x : Expr} (h : d.conB x = true) : PE X x (tC d.v) ∧ okT x = true ∧ d.flat = true := by
  unfold D.conB at h
  split at h
  · rw [of_decide_eq_true h]
    exact ⟨pe_int, rfl, rfl⟩
  · rw [(beq_iff_eq (a := _) (b := _)).mp h]
    exact ⟨pe_bl, rfl, rfl⟩
  · rw [of_decide_eq_true h]
    exact ⟨pe_str, rfl, rfl⟩
  · exact ⟨pe_non, rfl, rfl⟩
  · cases h
theorem lookup_mem {α β : Type} [BEq α] [LawfulBEq α] {y : α} {d : β} : ∀ {l : List (α × β)}, l.lookup y = some d → (y, d) ∈ l
  | [], h => by cases h
  | (a, b) :: l, h => by
    rw [List.lookup_cons] at h
    split at h
    · rename_i e
      have e1 := eq_of_beq e
      have e2 : b = d := Option.some.inj h
      rw [e1, e2]
      exact List.mem_cons_self
    · exact List.mem_cons_of_mem _ (lookup_mem h)
theorem noC {l : List Nat} {i : Nat} (w : i ∈ l) (h : (!l.contains i) = true) : False := by
  rw [List.contains_iff_mem.mpr w] at h
  cases h
theorem lc_none {own : List (Str × Nat)} {g : Tg} {it : It} {e : E} : E.sem Γ (.lc own g it none e) = fun r => (It.sem Γ it r).bind fun (ws, r1) => (lcFold g.bind (fun r => Res.ok (true, r)) (E.sem Γ e) (own.map (·.2)) ws [] (wipeE r1 (own.map (·.2)))).bind fun (acc, r2) => .ok (.nd .lst acc, r2) := by
  funext r
  rw [E.sem]
theorem lc_some {own : List (Str × Nat)} {g : Tg} {it : It} {d e : E} : E.sem Γ (.lc own g it (some d) e) = fun r => (It.sem Γ it r).bind fun (ws, r1) => (lcFold g.bind (fun r => (E.sem Γ d r).bind bool?) (E.sem Γ e) (own.map (·.2)) ws [] (wipeE r1 (own.map (·.2)))).bind fun (acc, r2) => .ok (.nd .lst acc, r2) := by
  funext r
  rw [E.sem]
mutual
theorem E.snd : ∀ (e : E) {m : Md} {k : Ck} {X : Cx} {Y : WX} {x : Expr}, XS c Γ k X Y → e.chk m k x = true → MSnd c m X Y x e.mods (e.sem Γ)
  | .rd p, m, k, X, Y, x, s, h => by
    obtain ⟨h1, h2⟩ := and2 h
    obtain ⟨h2, h3⟩ := and2 h2
    exact msnd h1 (snd_rd (Pl.snd p s h3) h2 fun r q r1 e => Pl.root_of e)
  | .gt p, m, k, X, Y, x, s, h => by
    obtain ⟨h1, h2⟩ := and2 h
    obtain ⟨h2, h3⟩ := and2 h2
    exact msnd h1 (snd_gt (Pl.snd p s h3) h2)
  | .mv i, m, k, X, Y, x, s, h => by
    obtain ⟨h1, h2⟩ := and2 h
    split at h2
    · exact msnd h1 (snd_mv s.ok h2)
    · cases h2
  | .con d, m, k, X, Y, x, s, h => by
    obtain ⟨h1, h2⟩ := and2 h
    obtain ⟨a, b, d⟩ := con_ok h2
    exact msnd h1 (snd_flat a b d rfl)
  | .gl y d, m, k, X, Y, x, s, h => by
    obtain ⟨h1, h2⟩ := and2 h
    split at h2
    · obtain ⟨e1, h2⟩ := and2 h2
      obtain ⟨e2, h2⟩ := and2 h2
      obtain ⟨e3, h2⟩ := and2 h2
      obtain ⟨e4, h2⟩ := and2 h2
      split at h2
      · rename_i d' hl
        have e5 := D.same_eq h2
        subst e5
        obtain ⟨u, hu, ru⟩ := s.cons _ (lookup_mem hl)
        have e6 := of_decide_eq_true e1
        subst e6
        exact msnd h1 (snd_flat (pe_glob (s.ok.gl e2) hu ru (by simpa [dbg] using e3)) rfl e4 rfl)
      · cases h2
    · cases h2
  | .op o xs, m, k, X, Y, x, s, h => by
    obtain ⟨h1, h2⟩ := and2 h
    split at h2
    · rename_i es hf
      exact msnd h1 (snd_op s.ok hf (O.snds xs s h2))
    · cases h2
  | .ixT a b, m, k, X, Y, x, s, h => by
    obtain ⟨h1, h2⟩ := and2 h
    split at h2
    · obtain ⟨e1, h2⟩ := and2 h2
      obtain ⟨e2, e3⟩ := and2 h2
      exact msnd h1 (snd_ixT (E.snd a s e2) (E.snd b s e3) e1)
    · cases h2
  | .lst es, m, k, X, Y, x, s, h => by
    obtain ⟨h1, h2⟩ := and2 h
    split at h2
    · obtain ⟨e1, h2⟩ := and2 h2
      exact msnd h1 (snd_lst (E.snds es s h2) e1)
    · cases h2
  | .tup es, m, k, X, Y, x, s, h => by
    obtain ⟨h1, h2⟩ := and2 h
    split at h2
    · obtain ⟨e1, h2⟩ := and2 h2
      exact msnd h1 (snd_tup (E.snds es s h2) e1)
    · cases h2
  | .dnK, m, k, X, Y, x, s, h => by
    obtain ⟨h1, h2⟩ := and2 h
    split at h2
    · exact msnd h1 snd_dnK
    · cases h2
  | .dnT, m, k, X, Y, x, s, h => by
    obtain ⟨h1, h2⟩ := and2 h
    split at h2
    · exact msnd h1 snd_dnT
    · cases h2
  | .fz e, m, k, X, Y, x, s, h => by
    obtain ⟨h1, h2⟩ := and2 h
    exact msnd h1 (snd_fz (E.snd e s h2))
  | .call f xs, m, k, X, Y, x, s, h => by
    obtain ⟨h1, h2⟩ := and2 h
    split at h2
    · obtain ⟨h2, h3⟩ := and2 h2
      split at h2
      · rename_i fn hf
        obtain ⟨e1, h2⟩ := and2 h2
        obtain ⟨e2, h2⟩ := and2 h2
        obtain ⟨e3, h2⟩ := and2 h2
        obtain ⟨e4, h2⟩ := and2 h2
        obtain ⟨e5, e6⟩ := and2 h2
        obtain ⟨f1, f2⟩ := fnBy_ok hf
        have e1 := of_decide_eq_true e1
        have e5 := of_decide_eq_true e5
        have e6 := of_decide_eq_true e6
        subst e1
        subst f2
        refine msnd h1 (snd_call s f1 (Ar.snds xs s h3) e2 (by simpa [dbg] using e3) e4 fun r vs r1 e => ?_)
        obtain ⟨a1, a2, a3⟩ := Ar.io_of e
        exact ⟨by rw [e5, a1], by rw [e6, a2], a3⟩
      · cases h2
    · cases h2
  | .call0 f, m, k, X, Y, x, s, h => by
    obtain ⟨h1, h2⟩ := and2 h
    split at h2
    · split at h2
      · rename_i fn hf
        obtain ⟨e1, h2⟩ := and2 h2
        obtain ⟨e2, h2⟩ := and2 h2
        obtain ⟨e3, h2⟩ := and2 h2
        obtain ⟨e5, e6⟩ := and2 h2
        obtain ⟨f1, f2⟩ := fnBy_ok hf
        have e1 := of_decide_eq_true e1
        subst e1
        subst f2
        exact msnd h1 (snd_call0 s f1 e2 (by simpa [dbg] using e3) (of_decide_eq_true e6) (of_decide_eq_true e5))
      · cases h2
    · cases h2
  | .ite d a b, m, k, X, Y, x, s, h => by
    obtain ⟨h1, h2⟩ := and2 h
    split at h2
    · obtain ⟨e1, h2⟩ := and2 h2
      obtain ⟨e2, e3⟩ := and2 h2
      exact msnd h1 (snd_ite (E.snd d (m := .t) s e1) (E.snd a (m := .v) s e2) (E.snd b (m := .v) s e3))
    · cases h2
  | .and a b, m, k, X, Y, x, s, h => by
    unfold E.chk at h
    split at h
    · split at h
      · obtain ⟨e1, h2⟩ := and2 h
        refine snd_and (E.snd a (m := .v) s e1) ?_
        split at h2
        · exact snd_one (E.snd b (m := .v) s h2)
        · exact E.snd b (m := .v) s h2
      · rename_i hm
        obtain ⟨e1, h2⟩ := and2 h
        refine MSnd.t' hm ?_
        show WSnd c X Y _ _ (fun r => (((a.sem Γ r).bind bool?).bind fun ((k, r1) : Bool × Env) => if k then b.sem Γ r1 else (Res.ok ((.fl (.bl false) : W), r1))).bind bool?)
        rw [and_sem]
        refine wsnd_and (sa := fun r => (a.sem Γ r).bind bool?) (sb := fun r => (b.sem Γ r).bind bool?) (E.snd a (m := .t) s e1) ?_
        split at h2
        · exact wsnd_one (.inl rfl) (E.snd b (m := .t) s h2)
        · exact E.snd b (m := .w) s h2
    · cases h
  | .or a b, m, k, X, Y, x, s, h => by
    unfold E.chk at h
    split at h
    · split at h
      · obtain ⟨e1, h2⟩ := and2 h
        refine snd_or (E.snd a (m := .v) s e1) ?_
        split at h2
        · exact snd_one (E.snd b (m := .v) s h2)
        · exact E.snd b (m := .v) s h2
      · rename_i hm
        obtain ⟨e1, h2⟩ := and2 h
        refine MSnd.t' hm ?_
        show WSnd c X Y _ _ (fun r => (((a.sem Γ r).bind bool?).bind fun ((k, r1) : Bool × Env) => if k then (Res.ok ((.fl (.bl true) : W), r1)) else b.sem Γ r1).bind bool?)
        rw [or_sem]
        refine wsnd_or (sa := fun r => (a.sem Γ r).bind bool?) (sb := fun r => (b.sem Γ r).bind bool?) (E.snd a (m := .t) s e1) ?_
        split at h2
        · exact wsnd_one (.inr rfl) (E.snd b (m := .t) s h2)
        · exact E.snd b (m := .w) s h2
    · cases h
  | .not a, m, k, X, Y, x, s, h => by
    unfold E.chk at h
    split at h
    · split at h
      · exact snd_not (E.snd a (m := .v) s h)
      · show TSnd c X Y _ _ (fun r => (((a.sem Γ r).bind bool?).bind fun ((k, r1) : Bool × Env) => (Res.ok ((.fl (.bl (!k)) : W), r1))).bind bool?)
        rw [not_sem]
        exact tsnd_not (E.snd a (m := .t) s h)
      · cases h
    · cases h
  | .chn o p a b d, m, k, X, Y, x, s, h => by
    obtain ⟨h1, h2⟩ := and2 h
    split at h2
    · obtain ⟨e1, h2⟩ := and2 h2
      obtain ⟨e2, h2⟩ := and2 h2
      obtain ⟨e3, h2⟩ := and2 h2
      obtain ⟨e4, h2⟩ := and2 h2
      obtain ⟨e5, h2⟩ := and2 h2
      obtain ⟨e6, e7⟩ := and2 h2
      obtain ⟨g, g1, g2⟩ := cmpO_ok (X := X) (of_decide_eq_true e1)
      obtain ⟨g', g3, g4⟩ := cmpO_ok (X := X) (of_decide_eq_true e2)
      exact msnd h1 (snd_chn g1 g3 g2 g4 (E.snd a (m := .v) s e5) (E.snd b (m := .v) s e6) (E.snd d (m := .v) s e7) e3 e4)
    · cases h2
  | .tru o, m, k, X, Y, x, s, h => by
    unfold E.chk at h
    split at h
    · obtain ⟨e1, e2⟩ := and2 h
      exact tsnd_tru s.ok.K (O.snd1 o s e2) e1
    · cases h
  | .lc own g it none e, m, k, X, Y, x, s, h => by
    unfold E.chk at h
    unfold E.mods
    rw [lc_none]
    obtain ⟨h1, h2⟩ := and2 h
    refine msnd h1 ?_
    split at h2
    · obtain ⟨e1, h2⟩ := and2 h2
      obtain ⟨e2, h2⟩ := and2 h2
      obtain ⟨e3, h2⟩ := and2 h2
      obtain ⟨e4, h2⟩ := and2 h2
      obtain ⟨e5, h2⟩ := and2 h2
      obtain ⟨e6, h2⟩ := and2 h2
      obtain ⟨e7, e8⟩ := and2 h2
      have e9 := List.isEmpty_iff.mp e8
      subst e9
      have hsl : ∀ i ∈ g.slots, i ∈ own.map (·.2) := fun i hi => List.contains_iff_mem.mp (List.all_eq_true.mp e3 i hi)
      refine snd_lc (Mt := []) s e1 e2 hsl (It.snd it s e5) itst_nil (fun X' hX => E.snd e (m := .v) (blk_xs s hX) e6) (fun i hi => ?_) e4
      have z := List.all_eq_true.mp e7 i hi
      obtain ⟨z1, z2⟩ := and2 z
      obtain ⟨z2, z3⟩ := and2 z2
      exact ⟨fun w => noC w z1, by simp, fun w => noC w z3⟩
    · cases h2
  | .lc own g it (some d) e, m, k, X, Y, x, s, h => by
    unfold E.chk at h
    unfold E.mods
    rw [lc_some]
    obtain ⟨h1, h2⟩ := and2 h
    refine msnd h1 ?_
    split at h2
    · obtain ⟨e1, h2⟩ := and2 h2
      obtain ⟨e2, h2⟩ := and2 h2
      obtain ⟨e3, h2⟩ := and2 h2
      obtain ⟨e4, h2⟩ := and2 h2
      obtain ⟨e5, h2⟩ := and2 h2
      obtain ⟨e6, h2⟩ := and2 h2
      obtain ⟨e7, e8⟩ := and2 h2
      have hsl : ∀ i ∈ g.slots, i ∈ own.map (·.2) := fun i hi => List.contains_iff_mem.mp (List.all_eq_true.mp e3 i hi)
      dsimp only at e8
      split at e8
      · refine snd_lc (Mt := d.mods) s e1 e2 hsl (It.snd it s e5) (itst_one fun X' hX => E.snd d (m := .t) (blk_xs s hX) e8) (fun X' hX => E.snd e (m := .v) (blk_xs s hX) e6) (fun i hi => ?_) e4
        have z := List.all_eq_true.mp e7 i hi
        obtain ⟨z1, z2⟩ := and2 z
        obtain ⟨z2, z3⟩ := and2 z2
        exact ⟨fun w => noC w z1, fun w => noC w z2, fun w => noC w z3⟩
      · cases e8
    · cases h2
theorem E.snds : ∀ (es : List E) {k : Ck} {X : Cx} {Y : WX} {xs : List Expr}, XS c Γ k X Y → E.chks es k xs = true → LSnd c X Y xs (E.modsL es) (E.sems Γ es)
  | [], k, X, Y, xs, s, h => by
    cases xs with
    | nil => exact lsnd_nil
    | cons x xs => cases h
  | e :: es, k, X, Y, xs, s, h => by
    cases xs with
    | nil => cases h
    | cons x xs =>
      obtain ⟨h1, h2⟩ := and2 h
      exact lsnd_cons (E.snd e (m := .v) s h1) (E.snds es s h2)
theorem O.snd1 : ∀ (o : O) {k : Ck} {X : Cx} {Y : WX} {x : Expr}, XS c Γ k X Y → o.chk k x = true → O1Snd c X Y x o.mods (o.sem Γ)
  | .tm e, k, X, Y, x, s, h => o1_t (E.snd e (m := .v) s h)
  | .bo p, k, X, Y, x, s, h => o1_p (Pl.snd p s h)
theorem O.snds : ∀ (os : List O) {k : Ck} {X : Cx} {Y : WX} {xs : List Expr}, XS c Γ k X Y → O.chks os k xs = true → OLSnd c X Y xs (O.modsL os) (O.sems Γ os)
  | [], k, X, Y, xs, s, h => by
    cases xs with
    | nil => exact olsnd_nil
    | cons x xs => cases h
  | .tm e :: os, k, X, Y, xs, s, h => by
    cases xs with
    | nil => cases h
    | cons x xs =>
      obtain ⟨h1, h2⟩ := and2 h
      obtain ⟨_, h3⟩ := and2 h1
      exact olsnd_t (E.snd e (m := .v) s h3) (O.snds os s h2)
  | .bo p :: os, k, X, Y, xs, s, h => by
    cases xs with
    | nil => cases h
    | cons x xs =>
      obtain ⟨h1, h2⟩ := and2 h
      obtain ⟨h4, h3⟩ := and2 h1
      exact olsnd_p (Pl.snd p s h3) (O.snds os s h2) (Pl.stab_of h4)
theorem Ar.snds : ∀ (es : List Ar) {k : Ck} {X : Cx} {Y : WX} {xs : List Expr}, XS c Γ k X Y → Ar.chks es k xs = true → ASnd c X Y xs (Ar.modsL es) (Ar.sems Γ es)
  | [], k, X, Y, xs, s, h => by
    cases xs with
    | nil => exact asnd_nil
    | cons x xs => cases h
  | .va e :: os, k, X, Y, xs, s, h => by
    cases xs with
    | nil => cases h
    | cons x xs =>
      obtain ⟨h1, h2⟩ := and2 h
      exact asnd_va (E.snd e (m := .v) s h1) (Ar.snds os s h2)
  | .io i :: os, k, X, Y, xs, s, h => by
    cases xs with
    | nil => cases h
    | cons x xs =>
      obtain ⟨h1, h2⟩ := and2 h
      split at h1
      · exact asnd_io s.ok h1 (Ar.snds os s h2)
      · cases h1
theorem Pl.snd : ∀ (p : Pl) {k : Ck} {X : Cx} {Y : WX} {x : Expr}, XS c Γ k X Y → p.chk k x = true → PSnd c X Y x p.mods (p.sem Γ)
  | .sl i, k, X, Y, x, s, h => by
    unfold Pl.chk at h
    split at h
    · exact psnd_sl s.ok h
    · cases h
  | .ix p e, k, X, Y, x, s, h => by
    unfold Pl.chk at h
    split at h
    · obtain ⟨h1, h⟩ := and2 h
      obtain ⟨h2, h⟩ := and2 h
      obtain ⟨h3, h4⟩ := and2 h
      exact psnd_ix (Pl.snd p s h3) (E.snd e (m := .v) s h4) s.ok.K h1 (Pl.stab_of h2)
    · cases h
  | .ky p e, k, X, Y, x, s, h => by
    unfold Pl.chk at h
    split at h
    · obtain ⟨h1, h⟩ := and2 h
      obtain ⟨h2, h⟩ := and2 h
      obtain ⟨h3, h4⟩ := and2 h
      exact psnd_ky (Pl.snd p s h3) (E.snd e (m := .v) s h4) s.ok h1 (Pl.stab_of h2)
    · cases h
  | .fd p f, k, X, Y, x, s, h => by cases h
theorem It.snd : ∀ (i : It) {k : Ck} {X : Cx} {Y : WX} {tg x : Expr}, XS c Γ k X Y → i.chk k tg x = true → ISnd c X Y tg x i.mods i.roots (i.sem Γ)
  | .sq o, k, X, Y, tg, x, s, h => isnd_sq s.ok.K (O.snd1 o s h) fun r v r1 e => O.root_of e
  | .tq o, k, X, Y, tg, x, s, h => isnd_tq s.ok.K (O.snd1 o s h) fun r v r1 e => O.root_of e
  | .r1 e, k, X, Y, tg, x, s, h => by
    unfold It.chk at h
    split at h
    · obtain ⟨h1, h⟩ := and2 h
      obtain ⟨h2, h⟩ := and2 h
      obtain ⟨h3, h4⟩ := and2 h
      have h1 := of_decide_eq_true h1
      subst h1
      exact isnd_r1 s.ok h2 h3 (E.snd e (m := .v) s h4)
    · cases h
  | .r2 a b, k, X, Y, tg, x, s, h => by
    unfold It.chk at h
    split at h
    · obtain ⟨h1, h⟩ := and2 h
      obtain ⟨h2, h⟩ := and2 h
      obtain ⟨h3, h⟩ := and2 h
      obtain ⟨h4, h⟩ := and2 h
      obtain ⟨h5, h6⟩ := and2 h
      have h1 := of_decide_eq_true h1
      subst h1
      exact isnd_r2 s.ok h2 h3 h4 (E.snd a (m := .v) s h5) (E.snd b (m := .v) s h6)
    · cases h
  | .zp a b, k, X, Y, tg, x, s, h => by
    unfold It.chk at h
    split at h
    · split at h
      · obtain ⟨h1, h⟩ := and2 h
        obtain ⟨h2, h⟩ := and2 h
        obtain ⟨h3, h⟩ := and2 h
        obtain ⟨h4, h⟩ := and2 h
        obtain ⟨h7, h⟩ := and2 h
        obtain ⟨h5, h6⟩ := and2 h
        have h1 := of_decide_eq_true h1
        subst h1
        have hb : ∀ z, b.chk k z = true → OLSnd c X Y [z] (b.mods ++ []) (fun r => (b.sem Γ r).bind fun (u, r2) => (Res.ok (([] : List Rv), r2)).bind fun (vs, r3) => Res.ok (u :: vs, r3)) := fun z h6 => by
          cases b with
          | tm e => exact olsnd_t (E.snd e (m := .v) s h6) olsnd_nil
          | bo p => exact olsnd_p (Pl.snd p s h6) olsnd_nil fun _ _ _ _ => .inr (by simp)
        have ha : ∀ y z, a.chk k y = true → b.chk k z = true → OLSnd c X Y [y, z] (a.mods ++ (b.mods ++ [])) (sem2 (a.sem Γ) (b.sem Γ)) := fun y z h5 h6 => by
          cases a with
          | tm e => exact olsnd_t (E.snd e (m := .v) s h5) (hb z h6)
          | bo p => exact olsnd_p (Pl.snd p s h5) (hb z h6) (Pl.stab_of h7)
        exact isnd_zp (Md := []) s.ok h2 h3 h4 (ha _ _ h5 h6) (fun r v r1 e i hi => List.mem_append_left _ (O.root_of e i hi)) fun r v r1 e i hi => List.mem_append_right _ (O.root_of e i hi)
      · cases h
    · cases h
  | .en a, k, X, Y, tg, x, s, h => by
    unfold It.chk at h
    split at h
    · split at h
      · obtain ⟨h1, h⟩ := and2 h
        obtain ⟨h2, h⟩ := and2 h
        obtain ⟨h3, h4⟩ := and2 h
        have h1 := of_decide_eq_true h1
        subst h1
        exact isnd_en s.ok h2 h3 (O.snd1 a s h4) fun r v r1 e => O.root_of e
      · cases h
    · cases h
  | .st o, k, X, Y, tg, x, s, h => by cases h
end
end
end Vx
end

section
set_option maxHeartbeats 4000000
/-! Vx 19: statements, form by form. -/
namespace Vx
open PySem L2
section
variable {c : Gx} {Γ : Den} {k : Ck} {X : Cx} {Y : WX} {n : En} {σ σ1 σ2 : St} {as as1 as2 : Sl} {B H B1 H1 B2 H2 : Hp} {T T1 T2 : List A} {M N Ws : List Nat} {D : Ends}
/-- a statement's step: it touches the slots M, binds the names Ws -/
structure Sx (c : Gx) (n : En) (M Ws : List Nat) (σ : St) (as : Sl) (B : Hp) (σ2 : St) (as2 : Sl) (T2 : List A) (B2 H2 : Hp) : Prop where
  sb : Same B B2
  gd : G c n B2 H2 (live as2 ++ T2)
  sr : SR σ2 as2
  fr : ∀ i, i ∉ M → as2[i]? = as[i]?
  sig : ∀ i, i ∉ Ws → σ2[i]? = σ[i]?
  ln : σ2.length = σ.length
theorem Sx.refl (g : G c n B H (live as ++ T)) (s : SR σ as) : Sx c n M Ws σ as B σ as T B H := ⟨Same.refl _, g, s, fun _ _ => rfl, fun _ _ => rfl, rfl⟩
theorem Sx.trans (a : Sx c n M Ws σ as B σ1 as1 T1 B1 H1) (b : Sx c n M Ws σ1 as1 B1 σ2 as2 T2 B2 H2) : Sx c n M Ws σ as B σ2 as2 T2 B2 H2 :=
  ⟨a.sb.trans b.sb, b.gd, b.sr, fun i h => (b.fr i h).trans (a.fr i h), fun i h => (b.sig i h).trans (a.sig i h), b.ln.trans a.ln⟩
theorem Sx.mono {M' Ws' : List Nat} (a : Sx c n M Ws σ as B σ1 as1 T1 B1 H1) (h1 : ∀ i ∈ M, i ∈ M') (h2 : ∀ i ∈ Ws, i ∈ Ws') : Sx c n M' Ws' σ as B σ1 as1 T1 B1 H1 :=
  ⟨a.sb, a.gd, a.sr, fun i h => a.fr i fun z => h (h1 i z), fun i h => a.sig i fun z => h (h2 i z), a.ln⟩
theorem Nx.sx (x : Nx c n σ M as B as1 T1 B1 H1) : Sx c n M Ws σ as B σ as1 T1 B1 H1 := ⟨x.sb, x.gd, x.sr, x.fr, fun _ _ => rfl, rfl⟩
/-- what a statement's run leads to -/
def OK (c : Gx) (n : En) (Y : WX) (D : Ends) (M Ws : List Nat) (σ : St) (as : Sl) (B : Hp) (T : List A) : Out → Prop
  | .nx r => ∀ σ2 as2 B2 H2, Sx c n M Ws σ as B σ2 as2 T B2 H2 → ers as2 = r → D.nx σ2 H2
  | .bk r => ∀ σ2 as2 B2 H2, Sx c n M Ws σ as B σ2 as2 T B2 H2 → ers as2 = r → D.bk σ2 H2
  | .ct r => ∀ σ2 as2 B2 H2, Sx c n M Ws σ as B σ2 as2 T B2 H2 → ers as2 = r → D.ct σ2 H2
  | .rt w r => ∀ σ2 as2 x B2 H2, Sx c n M Ws σ as B σ2 as2 (x :: T) B2 H2 → x.er = w → ers as2 = r → D.rt x.val H2
  | .ex cl _ r => ∀ M2 σ2 as2 T2 B2 H2, Sx c n M2 Ws σ as B σ2 as2 T2 B2 H2 → ers as2 = r → Y (.ref (c.cls cl)) none σ2 H2
  | .bad => False
theorem OK.mono {M' Ws' : List Nat} (h1 : ∀ i ∈ M, i ∈ M') (h2 : ∀ i ∈ Ws, i ∈ Ws') : ∀ {o : Out}, OK c n Y D M' Ws' σ as B T o → OK c n Y D M Ws σ as B T o
  | .nx r, h => fun σ2 as2 B2 H2 x e => h σ2 as2 B2 H2 (x.mono h1 h2) e
  | .bk r, h => fun σ2 as2 B2 H2 x e => h σ2 as2 B2 H2 (x.mono h1 h2) e
  | .ct r, h => fun σ2 as2 B2 H2 x e => h σ2 as2 B2 H2 (x.mono h1 h2) e
  | .rt w r, h => fun σ2 as2 y B2 H2 x e1 e2 => h σ2 as2 y B2 H2 (x.mono h1 h2) e1 e2
  | .ex cl p r, h => fun M2 σ2 as2 T2 B2 H2 x e => h M2 σ2 as2 T2 B2 H2 (x.mono (fun _ z => z) h2) e
  | .bad, h => h
theorem OK.step (a : Sx c n M Ws σ as B σ1 as1 T1 B1 H1) : ∀ {o : Out}, OK c n Y D M Ws σ as B T o → OK c n Y D M Ws σ1 as1 B1 T o
  | .nx r, h => fun σ2 as2 B2 H2 x e => h σ2 as2 B2 H2 (a.trans x) e
  | .bk r, h => fun σ2 as2 B2 H2 x e => h σ2 as2 B2 H2 (a.trans x) e
  | .ct r, h => fun σ2 as2 B2 H2 x e => h σ2 as2 B2 H2 (a.trans x) e
  | .rt w r, h => fun σ2 as2 y B2 H2 x e1 e2 => h σ2 as2 y B2 H2 (a.trans x) e1 e2
  | .ex cl p r, h => fun M2 σ2 as2 T2 B2 H2 x e => h (M ++ M2) σ2 as2 T2 B2 H2 ((a.mono (fun i z => List.mem_append_left _ z) (fun _ z => z)).trans (x.mono (fun i z => List.mem_append_right _ z) fun _ z => z)) e
  | .bad, h => h
/-- other ends, that follow -/
theorem OK.ends {D' : Ends} (h1 : ∀ r, OK c n Y D M Ws σ as B T (.nx r) → OK c n Y D' M Ws σ as B T (.nx r)) : True := trivial
theorem OK.out {α : Type} {x : Res α} {f : α → Out} (h : OK c n Y D M Ws σ as B T (x.out f)) : Kn x (fun a => OK c n Y D M Ws σ as B T (f a)) (KX c n σ as B Y) := by
  cases x with
  | ok a => exact h
  | bad => exact h
  | ex cl p r => exact fun as1 B1 H1 T1 M1 x e => h M1 σ as1 T1 B1 H1 x.sx e
def SSnd (c : Gx) (X : Cx) (Y : WX) (st : Stmt) (M Ws : List Nat) (sem : Env → Out) : Prop :=
  ∃ t, PS X st t ∧ ∀ (n : En) (σ : St) (as : Sl) (B H : Hp) (T : List A) (D : Ends), G c n B H (live as ++ T) → SR σ as → OK c n Y D M Ws σ as B T (sem (ers as)) → t D σ H
def SSnds (c : Gx) (X : Cx) (Y : WX) (st : List Stmt) (M Ws : List Nat) (sem : Env → Out) : Prop :=
  ∃ t, PSs X st t ∧ ∀ (n : En) (σ : St) (as : Sl) (B H : Hp) (T : List A) (D : Ends), G c n B H (live as ++ T) → SR σ as → OK c n Y D M Ws σ as B T (sem (ers as)) → t D σ H
theorem SSnd.mono {st : Stmt} {sem : Env → Out} {M' Ws' : List Nat} (h : SSnd c X Y st M Ws sem) (h1 : ∀ i ∈ M, i ∈ M') (h2 : ∀ i ∈ Ws, i ∈ Ws') : SSnd c X Y st M' Ws' sem := by
  obtain ⟨t, p, q⟩ := h
  exact ⟨t, p, fun n σ as B H T D g s ok => q n σ as B H T D g s (ok.mono h1 h2)⟩
theorem ssnds_nil : SSnds c X Y [] [] [] .nx := ⟨tNext, pss_nil, fun n σ as B H T D g s ok => by
  have ok' : ∀ σ2 as2 B2 H2, Sx c n [] [] σ as B σ2 as2 T B2 H2 → ers as2 = ers as → D.nx σ2 H2 := ok
  exact ok' σ as B H (Sx.refl g s) rfl⟩
theorem ssnds_cons {st : Stmt} {rest : List Stmt} {M1 M2 W1 W2 : List Nat} {s1 s2 : Env → Out} (h1 : SSnd c X Y st M1 W1 s1) (h2 : SSnds c X Y rest M2 W2 s2) : SSnds c X Y (st :: rest) (M1 ++ M2) (W1 ++ W2) (fun r => (s1 r).andThen s2) := by
  obtain ⟨t, p, q⟩ := h1
  obtain ⟨u, p2, q2⟩ := h2
  refine ⟨tSeq t u, pss_cons p p2, fun n σ as B H T D g s ok => q n σ as B H T _ g s ?_⟩
  dsimp only at ok
  have l1 : ∀ i ∈ M1, i ∈ M1 ++ M2 := fun i => List.mem_append_left _
  have l2 : ∀ i ∈ W1, i ∈ W1 ++ W2 := fun i => List.mem_append_left _
  have l3 : ∀ i ∈ M2, i ∈ M1 ++ M2 := fun i => List.mem_append_right _
  have l4 : ∀ i ∈ W2, i ∈ W1 ++ W2 := fun i => List.mem_append_right _
  cases e : s1 (ers as) with
  | nx r =>
    rw [e] at ok
    intro σ2 as2 B2 H2 x er
    have x' := x.mono l1 l2
    subst er
    exact q2 n σ2 as2 B2 H2 T D x.gd x.sr ((OK.step x' ok).mono l3 l4)
  | bk r =>
    rw [e] at ok
    exact fun σ2 as2 B2 H2 x er => ok σ2 as2 B2 H2 (x.mono l1 l2) er
  | ct r =>
    rw [e] at ok
    exact fun σ2 as2 B2 H2 x er => ok σ2 as2 B2 H2 (x.mono l1 l2) er
  | rt w r =>
    rw [e] at ok
    exact fun σ2 as2 y B2 H2 x ey er => ok σ2 as2 y B2 H2 (x.mono l1 l2) ey er
  | ex cl p r =>
    rw [e] at ok
    exact fun M2 σ2 as2 T2 B2 H2 x er => ok M2 σ2 as2 T2 B2 H2 (x.mono (fun _ z => z) l2) er
  | bad =>
    rw [e] at ok
    exact ok
/-! ### small statements -/
theorem ssnd_pass {pos : Pos} : SSnd c X Y (.Pass pos) [] [] .nx := ⟨tNext, ps_pass, fun n σ as B H T D g s ok => (show ∀ σ2 as2 B2 H2, Sx c n [] [] σ as B σ2 as2 T B2 H2 → ers as2 = ers as → D.nx σ2 H2 from ok) σ as B H (Sx.refl g s) rfl⟩
theorem ssnd_brk {pos : Pos} : SSnd c X Y (.Break pos) [] [] .bk := ⟨tBreak, ps_break, fun n σ as B H T D g s ok => (show ∀ σ2 as2 B2 H2, Sx c n [] [] σ as B σ2 as2 T B2 H2 → ers as2 = ers as → D.bk σ2 H2 from ok) σ as B H (Sx.refl g s) rfl⟩
theorem ssnd_cnt {pos : Pos} : SSnd c X Y (.Continue pos) [] [] .ct := ⟨tCont, ps_continue, fun n σ as B H T D g s ok => (show ∀ σ2 as2 B2 H2, Sx c n [] [] σ as B σ2 as2 T B2 H2 → ers as2 = ers as → D.ct σ2 H2 from ok) σ as B H (Sx.refl g s) rfl⟩
theorem ssnd_retN {pos : Pos} : SSnd c X Y (.Return none pos) [] [] (fun r => .rt (.fl .non) r) := ⟨tRetN, ps_retN, fun n σ as B H T D g s ok => by
  have ok' : ∀ σ2 as2 x B2 H2, Sx c n [] [] σ as B σ2 as2 (x :: T) B2 H2 → x.er = .fl .non → ers as2 = ers as → D.rt x.val H2 := ok
  exact ok' σ as (.fl .non .non) B H ((Nx.refl g s).add (v := .non) (d := .non) rfl).sx rfl rfl⟩
theorem ssnd_ret {e : Expr} {se : Sm W} {pos : Pos} (he : ESnd c X Y e M se) : SSnd c X Y (.Return (some e) pos) M [] (fun r => (se r).out fun (w, r1) => .rt w r1) := by
  obtain ⟨t, pe, _, ke⟩ := he
  refine ⟨tRet t, ps_ret pe, fun n σ as B H T D g s ok => ke n σ as B H T _ g s (Kn.mono (OK.out ok) ?_ fun _ _ z => z)⟩
  rintro ⟨w, r1⟩ ea h as1 x B1 H1 x1 (ex : x.er = w) (rfl : ers as1 = r1)
  exact h σ as1 x B1 H1 x1.sx ex rfl
theorem ssnd_ex {e : Expr} {se : Sm W} {pos : Pos} (he : ESnd c X Y e M se) (ok : okE e = true) (nl : noLc e = true) : SSnd c X Y (.Expr e pos) M [] (fun r => (se r).out fun (_, r1) => .nx r1) := by
  obtain ⟨t, pe, _, ke⟩ := he
  refine ⟨tDrop t, ps_expr pe (sw_ok ok nl), fun n σ as B H T D g s ok => ke n σ as B H T _ g s (Kn.mono (OK.out ok) ?_ fun _ _ z => z)⟩
  rintro ⟨w, r1⟩ ea h as1 x B1 H1 x1 (ex : x.er = w) (rfl : ers as1 = r1)
  exact h σ as1 B1 H1 x1.dropT.sx rfl
def locB (k : Ck) (i : Nat) (y : Str) : Bool := decide (k.N[i]? = some y) && (decide (k.sc.names.lookup y = some .local) || (k.cel && decide (k.sc.names.lookup y = some .cell)))
theorem loc_of (x : XOk c k X) {i : Nat} {y : Str} (h : locB k i y = true) : X.N[i]? = some y ∧ Loc X.env.scope y ∧ (X.fn y = true ∨ X.env.scope.names.lookup y = some .local) := by
  obtain ⟨h1, h2⟩ := and2 h
  refine ⟨by rw [x.hN]; exact of_decide_eq_true h1, ?_⟩
  rcases Bool.or_eq_true_iff.mp h2 with h2 | h2
  · have hl : X.env.scope.names.lookup y = some .local := by rw [x.sc]; exact of_decide_eq_true h2
    exact ⟨.inl hl, .inr hl⟩
  · obtain ⟨h3, h4⟩ := and2 h2
    exact ⟨.inr (by rw [x.sc]; exact of_decide_eq_true h4), .inl (x.cel h3 y)⟩
/-- a slot is bound -/
theorem Sx.bindS {i : Nat} {x : A} (x1 : Nx c n σ M as B as1 (x :: T) B1 H1) (hi : i < (ers as1).length) : Sx c n (M ++ [i]) [i] σ as B (σ.set i (some x.val)) (as1.set i (some x)) T B1 H1 := by
  rw [ers_len] at hi
  refine ⟨x1.sb, (x1.gd.forget (i := i)).give hi, x1.sr.put, fun j hj => ?_, fun j hj => ?_, List.length_set⟩
  · rw [List.getElem?_set_ne fun z => hj (by rw [z]; exact List.mem_append_right _ List.mem_cons_self)]
    exact x1.fr j fun z => hj (List.mem_append_left _ z)
  · exact List.getElem?_set_ne fun z => hj (by rw [z]; exact List.mem_cons_self)
theorem asg_core {i : Nat} {t : TE} {se : Sm W} (ke : LcK c X Y t M se) {n : En} {σ : St} {as : Sl} {B H : Hp} {T : List A} {D : Ends} (g : G c n B H (live as ++ T)) (s : SR σ as)
    (ok : OK c n Y D (M ++ [i]) [i] σ as B T ((se (ers as)).out fun (w, r1) => if i < r1.length then .nx (r1.set i (some w)) else .bad)) : tAsg t (gName i) D σ H := by
  refine ke n σ as B H T _ g s (Kn.mono (OK.out ok) ?_ fun _ _ z => z)
  rintro ⟨w, r1⟩ ea h as1 x B1 H1 x1 (ex : x.er = w) (rfl : ers as1 = r1)
  dsimp only at h
  split at h
  · rename_i hi
    exact h (σ.set i (some x.val)) (as1.set i (some x)) B1 H1 (Sx.bindS x1 hi) (by rw [ers_set, ← ex]; rfl)
  · exact h.elim
theorem ssnd_asg (x : XOk c k X) {i : Nat} {y : Str} {e : Expr} {se : Sm W} {p pos : Pos} (hl : locB k i y = true) (he : ESnd c X Y e M se) (ok : okE e = true) (nl : noLc e = true) :
    SSnd c X Y (.Assign [.Name y p] e pos) (M ++ [i]) [i] (fun r => (se r).out fun (w, r1) => if i < r1.length then .nx (r1.set i (some w)) else .bad) := by
  obtain ⟨t, pe, _, ke⟩ := he
  obtain ⟨l1, l2, l3⟩ := loc_of x hl
  exact ⟨_, ps_set (i := i) (by rw [x.hN]; exact x.nd) l1 l2 pe (sw_ok ok nl) l3, fun n σ as B H T D g s ok => asg_core (X := X) ke g s ok⟩
theorem pg_all (x : XOk c k X) {t : Tg} {e : Expr} (h : t.chk k e = true) : PG X e (t.tg c.K) := tg_ok x h
theorem swap_tup {es : List Expr} {kk : Nat} {p : Pos} {e : Expr} {l : Nat} {env : PySem.Env} (ok : okE e = true) (nl : noLc e = true) : swapsWithSole [.Tuple es kk p] e l env = pure false := by
  unfold swapsWithSole
  exact sw_ok ok nl
theorem ssnd_unp (x : XOk c k X) {g : Tg} {es : List Expr} {kk : Nat} {p pos : Pos} {e : Expr} {se : Sm W} (hg : g.chk k (.Tuple es kk p) = true) (he : ESnd c X Y e M se) (ok : okE e = true) (nl : noLc e = true) (nt : noTup e = true) :
    SSnd c X Y (.Assign [.Tuple es kk p] e pos) (M ++ g.slots) g.slots (fun r => (se r).out fun (w, r1) => match g.bind w r1 with
      | some r2 => .nx r2
      | none => .bad) := by
  obtain ⟨t, pe, _, ke⟩ := he
  refine ⟨tAsg t (g.tg c.K), ps_asg pe (pg_all x hg) (swap_tup ok nl) (sws_ok nt), fun n σ as B H T D gd s ok => ke n σ as B H T _ gd s (Kn.mono (OK.out ok) ?_ fun _ _ z => z)⟩
  rintro ⟨w, r1⟩ ea h as1 x B1 H1 x1 (ex : x.er = w) (rfl : ers as1 = r1)
  dsimp only at h
  split at h
  · rename_i r2 hb
    rw [← ex] at hb
    refine bind_ok x1.sr x1.gd hb fun σ2 as2 g2 e2 b => h σ2 as2 B1 H1 ⟨x1.sb, g2, b.sr, fun i hi => ?_, fun i hi => b.sig i hi, b.len⟩ e2
    exact (b.slo i fun z => hi (List.mem_append_right _ z)).trans (x1.fr i fun z => hi (List.mem_append_left _ z))
  · exact h.elim
/-! ### if, for, while -/
theorem ssnd_if {e : Expr} {a b : List Stmt} {sc : Sm Bool} {M1 M2 W1 W2 : List Nat} {sa sb : Env → Out} {pos : Pos} (hc : TSnd c X Y e M sc) (ha : SSnds c X Y a M1 W1 sa) (hb : SSnds c X Y b M2 W2 sb) :
    SSnd c X Y (.If e a b pos) (M ++ (M1 ++ M2)) (W1 ++ W2) (fun r => (sc r).out fun (k, r1) => if k then sa r1 else sb r1) := by
  obtain ⟨t, pt, kt⟩ := hc
  obtain ⟨ta, pa, ka⟩ := ha
  obtain ⟨tb, pb, kb⟩ := hb
  refine ⟨_, ps_if pt pa pb, fun n σ as B H T D g s ok => kt n σ as B H T _ g s (Kn.mono (OK.out ok) ?_ fun _ _ z => z)⟩
  rintro ⟨v, r1⟩ ea h as1 B1 H1 x1 (rfl : ers as1 = r1)
  have x1' : Sx c n (M ++ (M1 ++ M2)) (W1 ++ W2) σ as B σ as1 T B1 H1 := x1.sx.mono (fun i z => List.mem_append_left _ z) (fun _ z => z)
  cases v with
  | true =>
    exact ka n σ as1 B1 H1 T D x1.gd x1.sr ((OK.step x1' h).mono (fun i z => List.mem_append_right _ (List.mem_append_left _ z)) fun i z => List.mem_append_left _ z)
  | false =>
    exact kb n σ as1 B1 H1 T D x1.gd x1.sr ((OK.step x1' h).mono (fun i z => List.mem_append_right _ (List.mem_append_right _ z)) fun i z => List.mem_append_right _ z)
theorem ssnd_for (x : XOk c k X) (hp : PassesOwn (model X.prog X.w) X.A X.env X.xe) {g : Tg} {tg iter : Expr} {body : List Stmt} {si : Sm (List W)} {P Mb Wb : List Nat} {sb : Env → Out} {pos : Pos} (hg : g.chk k tg = true) (hi : ISnd c X Y tg iter M P si)
    (hb : SSnds c X Y body Mb Wb sb) (hP : ∀ i ∈ P, i ∉ g.slots ∧ i ∉ Mb) (ok : okE iter = true) :
    SSnd c X Y (.For tg iter body [] pos) (M ++ (g.slots ++ Mb)) (g.slots ++ Wb) (fun r => (si r).out fun (ws, r1) => forFold g.bind sb ws r1) := by
  obtain ⟨wi, pi, ki⟩ := hi
  obtain ⟨tb, pb, kb⟩ := hb
  refine ⟨_, ps_for hp x.calm pi (pg_all x hg) pb (fold_ok ok), fun n σ as B H T D gd s ok => ki n σ as B H T _ gd s (Kn.mono (OK.out ok) ?_ fun _ _ z => z)⟩
  rintro ⟨ws, r1⟩ ea h as1 B1 H1 J x1 (rfl : ers as1 = r1) ⟨S, Yd, wk, wS, wY⟩
  have h1 : OK c n Y D (g.slots ++ Mb) (g.slots ++ Wb) σ as1 B1 T (forFold g.bind sb ws (ers as1)) := (OK.step (x1.sx.mono (fun i z => List.mem_append_left _ z) (fun _ z => z)) h).mono (fun i z => List.mem_append_right _ z) fun _ z => z
  refine for_it wk (fun i σi Hi => ∃ ai Bi, Sx c n (g.slots ++ Mb) (g.slots ++ Wb) σ as1 B1 σi ai T Bi Hi ∧ OK c n Y D (g.slots ++ Mb) (g.slots ++ Wb) σi ai Bi T (forFold g.bind sb (ws.drop i) (ers ai))) ?_ ?_ ?_ ?_
  · exact ⟨as1, B1, Sx.refl x1.gd x1.sr, by rw [List.drop_zero]; exact h1⟩
  · rintro i σi Hi _ ⟨ai, Bi, xi, _⟩
    refine wS ai Bi Hi ⟨xi.sb, ⟨n, T, xi.gd⟩, fun j hj => xi.fr j fun z => ?_⟩
    rcases List.mem_append.mp z with z | z
    · exact (hP j hj).1 z
    · exact (hP j hj).2 z
  · rintro i v σi Hi H' hi ⟨ai, Bi, xi, oi⟩ yd
    have hw : ws[i]? = some ws[i] := List.getElem?_eq_getElem hi
    obtain ⟨B3, y, s3, g3, ev, ew⟩ := wY i ws[i] ai Bi Hi v H' n T hw ⟨xi.sb, ⟨n, T, xi.gd⟩, fun j hj => xi.fr j fun z => by
      rcases List.mem_append.mp z with z | z
      · exact (hP j hj).1 z
      · exact (hP j hj).2 z⟩ yd xi.gd
    rw [List.drop_eq_getElem_cons hi] at oi
    have oi' : OK c n Y D (g.slots ++ Mb) (g.slots ++ Wb) σi ai Bi T (match g.bind ws[i] (ers ai) with
      | none => .bad
      | some r1 => match sb r1 with
        | .nx r2 => forFold g.bind sb (ws.drop (i + 1)) r2
        | .ct r2 => forFold g.bind sb (ws.drop (i + 1)) r2
        | .bk r2 => .nx r2
        | y => y) := oi
    cases hb : g.bind ws[i] (ers ai) with
    | none =>
      rw [hb] at oi'
      exact oi'.elim
    | some r1 =>
      rw [hb] at oi'
      rw [← ew] at hb
      rw [← ev]
      refine bind_ok xi.sr g3 hb fun σ2 as2 g2 e2 b => ?_
      subst e2
      have x2 : Sx c n (g.slots ++ Mb) (g.slots ++ Wb) σi ai Bi σ2 as2 T B3 H' := ⟨s3, g2, b.sr, fun j hj => b.slo j fun z => hj (List.mem_append_left _ z), fun j hj => b.sig j fun z => hj (List.mem_append_left _ z), b.len⟩
      have lm : ∀ j ∈ Mb, j ∈ g.slots ++ Mb := fun j z => List.mem_append_right _ z
      have lw : ∀ j ∈ Wb, j ∈ g.slots ++ Wb := fun j z => List.mem_append_right _ z
      refine kb n σ2 as2 B3 H' T _ g2 b.sr ?_
      dsimp only at oi'
      cases e : sb (ers as2) with
      | nx r =>
        rw [e] at oi'
        intro σ4 as4 B4 H4 x4 e4
        have x4' := x2.trans (x4.mono lm lw)
        subst e4
        exact ⟨as4, B4, xi.trans x4', OK.step x4' oi'⟩
      | ct r =>
        rw [e] at oi'
        intro σ4 as4 B4 H4 x4 e4
        have x4' := x2.trans (x4.mono lm lw)
        subst e4
        exact ⟨as4, B4, xi.trans x4', OK.step x4' oi'⟩
      | bk r =>
        rw [e] at oi'
        exact fun σ4 as4 B4 H4 x4 e4 => oi' σ4 as4 B4 H4 (x2.trans (x4.mono lm lw)) e4
      | rt w r =>
        rw [e] at oi'
        exact fun σ4 as4 y4 B4 H4 x4 ey e4 => oi' σ4 as4 y4 B4 H4 (x2.trans (x4.mono lm lw)) ey e4
      | ex cl p r =>
        rw [e] at oi'
        exact fun M2 σ4 as4 T2 B4 H4 x4 e4 => (OK.step x2 (o := .ex cl p r) oi') M2 σ4 as4 T2 B4 H4 (x4.mono (fun _ z => z) lw) e4
      | bad =>
        rw [e] at oi'
        exact oi'
  · rintro σi Hi ⟨ai, Bi, xi, oi⟩
    rw [List.drop_length] at oi
    have oi' : ∀ σ2 as2 B2 H2, Sx c n (g.slots ++ Mb) (g.slots ++ Wb) σi ai Bi σ2 as2 T B2 H2 → ers as2 = ers ai → D.nx σ2 H2 := oi
    exact oi' σi ai Bi Hi (Sx.refl xi.gd xi.sr) rfl
theorem ssnd_while (hp : PassesOwn (model X.prog X.w) X.A X.env X.xe) {e : Expr} {body : List Stmt} {sc : Sm Bool} {Mb Wb : List Nat} {sb : Env → Out} {f : Nat} {pos : Pos} (hc : TSnd c X Y e M sc) (hb : SSnds c X Y body Mb Wb sb) :
    SSnd c X Y (.While e body [] pos) (M ++ Mb) Wb (fun r => whlFold sc sb f r) := by
  obtain ⟨t, pt, kt⟩ := hc
  obtain ⟨tb, pb, kb⟩ := hb
  refine ⟨_, ps_while hp pt pb, fun n σ as B H T D gd s ok => ⟨fun m σi Hi => ∃ ai Bi, Sx c n (M ++ Mb) Wb σ as B σi ai T Bi Hi ∧ OK c n Y D (M ++ Mb) Wb σi ai Bi T (whlFold sc sb m (ers ai)), ⟨f, as, B, Sx.refl gd s, ok⟩, ?_⟩⟩
  rintro m σi Hi ⟨ai, Bi, xi, oi⟩
  cases m with
  | zero => exact oi.elim
  | succ m =>
    have oi' : OK c n Y D (M ++ Mb) Wb σi ai Bi T ((sc (ers ai)).out fun (k, r1) => if k then (match sb r1 with
      | .nx r2 => whlFold sc sb m r2
      | .ct r2 => whlFold sc sb m r2
      | .bk r2 => .nx r2
      | y => y) else .nx r1) := oi
    refine kt n σi ai Bi Hi T _ xi.gd xi.sr (Kn.mono (OK.out oi') ?_ fun _ _ z => z)
    rintro ⟨v, r1⟩ ea h as1 B1 H1 x1 (rfl : ers as1 = r1)
    have x1' : Sx c n (M ++ Mb) Wb σi ai Bi σi as1 T B1 H1 := x1.sx.mono (fun i z => List.mem_append_left _ z) (fun _ z => z)
    have lm : ∀ j ∈ Mb, j ∈ M ++ Mb := fun j z => List.mem_append_right _ z
    cases v with
    | false =>
      rw [if_neg (by simp)]
      exact h σi as1 B1 H1 x1' rfl
    | true =>
      rw [if_pos rfl]
      dsimp only at h
      rw [if_pos rfl] at h
      refine ⟨fun σ' H' => ∃ ai Bi, Sx c n (M ++ Mb) Wb σ as B σ' ai T Bi H' ∧ OK c n Y D (M ++ Mb) Wb σ' ai Bi T (whlFold sc sb m (ers ai)), fun σ' H' p => ⟨m, Nat.lt_succ_self _, p⟩, ?_⟩
      refine kb n σi as1 B1 H1 T _ x1.gd x1.sr ?_
      cases e : sb (ers as1) with
      | nx r =>
        rw [e] at h
        intro σ4 as4 B4 H4 x4 e4
        have x4' := x1'.trans (x4.mono lm fun _ z => z)
        subst e4
        exact ⟨as4, B4, xi.trans x4', OK.step x4' h⟩
      | ct r =>
        rw [e] at h
        intro σ4 as4 B4 H4 x4 e4
        have x4' := x1'.trans (x4.mono lm fun _ z => z)
        subst e4
        exact ⟨as4, B4, xi.trans x4', OK.step x4' h⟩
      | bk r =>
        rw [e] at h
        exact fun σ4 as4 B4 H4 x4 e4 => h σ4 as4 B4 H4 (x1'.trans (x4.mono lm fun _ z => z)) e4
      | rt w r =>
        rw [e] at h
        exact fun σ4 as4 y4 B4 H4 x4 ey e4 => h σ4 as4 y4 B4 H4 (x1'.trans (x4.mono lm fun _ z => z)) ey e4
      | ex cl p r =>
        rw [e] at h
        exact fun M2 σ4 as4 T2 B4 H4 x4 e4 => (OK.step x1' (o := .ex cl p r) h) M2 σ4 as4 T2 B4 H4 x4 e4
      | bad =>
        rw [e] at h
        exact h
end
end Vx
end

section
set_option maxHeartbeats 4000000
/-! Vx 20: writes, comprehensions assigned, slots held still. -/
namespace Vx
open PySem L2
section
variable {c : Gx} {Γ : Den} {k : Ck} {X : Cx} {Y : WX} {n : En} {σ σ1 σ2 : St} {as as1 as2 : Sl} {B H B1 H1 B2 H2 : Hp} {T T1 T2 : List A} {M N Ws : List Nat} {D : Ends}
theorem isl_ok {q : Nat × List Nat} {v : V} {w : W} (g : G c n B1 H1 (live as1 ++ T)) (pa : PAt c B1 as1 q v w) (h : isL (ers as1) q = true) : ∃ a xs, v = .ref a ∧ H1 a = some (.lst xs) := by
  unfold isL at h
  rw [pa.get] at h
  split at h
  · rename_i cs e
    have e := Option.some.inj e
    subst e
    obtain ⟨y, y1, y2⟩ := pa
    obtain ⟨a, dx, xs, z1, z2, z3⟩ := A.at_sub y2
    exact ⟨a, vals xs, z3, (g.hold (a, HO.lst (vals xs)) (mem_objsL (List.mem_append_left _ (live_mem y1)) (sub_objs z1 _ List.mem_cons_self))).1⟩
  · cases h
theorem write_core {q : Nat × List Nat} {v : V} {w : W} {f : List W → Option (List W)} {r4 : Env} {Ms : List A} (g : G c n B1 H1 (live as1 ++ (Ms ++ T))) (s1 : SR σ as1) (pa : PAt c B1 as1 q v w) (e : onL (ers as1) q f = some r4) :
    ∃ a xs cs', v = .ref a ∧ H1 a = some (.lst (vals xs)) ∧ w = .nd .lst (xs.map A.er) ∧ f (xs.map A.er) = some cs' ∧ small cs'.length = true ∧ ∀ xs' Xo, xs'.map A.er = cs' → (objsL c (xs ++ Ms)).Perm (objsL c xs' ++ Xo) → ((∀ z ∈ xs ++ Ms, z.ok c B1) → ∀ z ∈ xs', z.ok c B1) →
      ∃ as2, G c n B1 (upd H1 a (.lst (vals xs'))) (live as2 ++ T) ∧ SR σ as2 ∧ ers as2 = r4 ∧ ∀ i, i ≠ q.1 → as2[i]? = as1[i]? := by
  unfold onL at e
  rw [pa.get] at e
  split at e
  · rename_i cs ew
    have ew := Option.some.inj ew
    subst ew
    obtain ⟨y, y1, y2⟩ := pa
    obtain ⟨a, dx, xs, z1, z2, z3⟩ := A.at_sub y2
    have eg : (ers as1)[q.1]? = some (some y.er) := by
      rw [ers_get, y1]
      rfl
    rw [eg] at e
    dsimp only at e
    split at e
    · rename_i cs0 cs' _ hf
      split at e
      · rename_i hs
        obtain ⟨hs, _⟩ := and2 hs
        have e5 := Option.some.inj e
        refine ⟨a, xs, cs', z3, (g.hold (a, HO.lst (vals xs)) (mem_objsL (List.mem_append_left _ (live_mem y1)) (sub_objs z1 _ List.mem_cons_self))).1, by rw [z2], by rw [z2]; exact hf, hs, fun xs' Xo e1 hp hok => ?_⟩
        obtain ⟨R, p1, p2⟩ := A.put_at (c := c) z1
        have pv := (p2 (.nd a dx .lst xs') rfl).1
        refine ⟨as1.set q.1 (some (y.put q.2 (.nd a dx .lst xs'))), G.writeAt (k := .lst) (k' := .lst) g y1 z1 rfl trivial hp hok, s1.chg y1 pv, ?_, fun i hi => List.getElem?_set_ne (Ne.symm hi)⟩
        rw [← e5, ers_set]
        unfold W.setAt
        rw [eg]
        show (ers as1).set q.1 (some (y.put q.2 (.nd a dx .lst xs')).er) = _
        rw [A.er_put, A.er_nd, e1]
      · cases e
    · cases e
  · cases e
theorem star_few {e : Expr} {cpos : Pos} {env : PySem.Env} (ok : okE e = true) : ((backTo cpos (starEach [e] env)).all (fun x => !x.1) && (backToKw cpos (keywordEach [] env)).all (fun x => x.1.isSome)
      && decide ([e].length + ([] : List Keyword).length + (if ([] : List Keyword).isEmpty then 0 else 1) < 30)) = true := by
  rw [star_ok ok]
  rfl
/-- p.append(e) -/
theorem ssnd_app (x : XOk c k X) {o e : Expr} {Mp Me : List Nat} {sp : Sm (Nat × List Nat)} {se : Sm W} {root : Nat} {apos cpos pos : Pos} (hp : PSnd c X Y o Mp sp) (he : ESnd c X Y e Me se) (ok : okE e = true) (oo : okO o = true) (hl : (apos.endLine == cpos.line) = true)
    (st : ∀ r q r1, sp r = .ok (q, r1) → q.2 = [] ∨ q.1 ∉ Me) (hr : ∀ r q r1, sp r = .ok (q, r1) → q.1 = root) :
    SSnd c X Y (.Expr (.Call (.Attribute o "append" apos) [e] [] cpos) pos) (Mp ++ (Me ++ [root])) [] (fun r => (sp r).out fun (q, r1) => if isL r1 q then (se r1).out fun (w, r2) => match onL r2 q fun cs => some (cs ++ [w]) with
      | some r3 => .nx r3
      | none => .bad
      else .bad) := by
  obtain ⟨tp, pp, kp⟩ := hp
  obtain ⟨te, pe, _, ke⟩ := he
  have pc : PE X (.Call (.Attribute o "append" apos) [e] [] cpos) (tBM X.K "list" rAppend tp (tCons te tNil)) := pe_bm F.plainAttrs_list F.slot_list_append F.type_list_append (fun pins s σ H x xs v us Q I rx rv h => mt_append pins s σ H x xs v us Q I rx rv h) pp (pa_cons pe pa_nil (star_ok ok)) (base_ok oo) (star_few ok) hl (star_ok ok) (by rfl)
  refine ⟨_, ps_expr pc (sw_ok rfl rfl), fun n σ as B H T D g s ok => kp n σ as B H T _ g s (Kn.mono (OK.out ok) ?_ fun _ _ z => z)⟩
  rintro ⟨q, r1⟩ ea h as1 v w B1 H1 x1 (rfl : ers as1 = r1) pa
  dsimp only at h
  split at h
  · rename_i hl
    obtain ⟨a0, xs0, ev, hH⟩ := isl_ok x1.gd pa hl
    subst ev
    refine ⟨.inl ⟨rfl, xs0, .inl (.inl hH)⟩, ?_⟩
    have x1' : Sx c n (Mp ++ (Me ++ [root])) [] σ as B σ as1 T B1 H1 := x1.sx.mono (fun i z => List.mem_append_left _ z) (fun _ z => z)
    refine ke n σ as1 B1 H1 T _ x1.gd x1.sr (Kn.mono (OK.out (OK.step x1' h)) ?_ fun _ _ z => z)
    rintro ⟨w2, r2⟩ eb h2 as2 y B2 H2 x2 (ey : y.er = w2) (rfl : ers as2 = r2)
    dsimp only at h2
    split at h2
    · rename_i r3 e3
      have eg : ∃ w3, eget (ers as2) q = some w3 := by
        unfold onL at e3
        cases e4 : eget (ers as2) q with
        | some w3 => exact ⟨w3, rfl⟩
        | none =>
          rw [e4] at e3
          cases e3
      obtain ⟨w3, eg⟩ := eg
      have pa2 := pa.stab x2 x1.sr (st _ _ _ ea) eg
      obtain ⟨a, xs, cs', ev, hH2, ew, ef, hs, wr⟩ := write_core (Ms := [y]) (σ := σ) x2.gd x2.sr pa2 e3
      have ef := Option.some.inj ef
      obtain ⟨as3, g3, s3, e5, f3⟩ := wr (xs ++ [y]) [] (by rw [← ef, ← ey]; simp) (by rw [List.append_nil]) (fun z => z)
      have hsz : (vals xs).length < sizeLine := by
        have h1 := small_sz hs
        rw [← ef] at h1
        simp at h1
        have : (vals xs).length = xs.length := by simp [vals]
        omega
      have ev2 : (V.ref a0) = .ref a := ev
      refine ⟨a, vals xs, y.val, ev2, rfl, hH2, hsz, ?_⟩
      have e6 : vals (xs ++ [y]) = vals xs ++ [y.val] := by simp [vals]
      rw [← e6]
      refine h2 σ as3 B2 _ ⟨x2.sb, g3, s3, fun i hi => ?_, fun _ _ => rfl, rfl⟩ e5
      rw [f3 i fun z => hi (List.mem_append_right _ (List.mem_append_right _ (by rw [z, hr _ _ _ ea]; exact List.mem_cons_self)))]
      exact x2.fr i fun z => hi (List.mem_append_right _ (List.mem_append_left _ z))
    · exact h2.elim
  · exact h.elim
theorem sub_ok {o i : Expr} {pos : Pos} {env : PySem.Env} (h : okE i = true) : ∀ v, assign (.Subscript o i pos) env v = (do
      let ov ← holding [v] (eval o env)
      let iv ← holding [v, ov] (eval i env)
      standAt pos
      holding [v, ov, iv] (setItem ov iv v)
      release [v, ov, iv] []) := by
  cases i <;> first | (intro _; rfl) | cases h
theorem objs_setP {xs : List A} {j : Nat} {z y : A} (h : xs[j]? = some z) : (objsL c (xs ++ [y])).Perm (objsL c (xs.set j y) ++ z.objs c) := by
  obtain ⟨R, p1, p2⟩ := objsL_set (c := c) h
  rw [objsL_append]
  have e : objsL c [y] = y.objs c := by
    show y.objs c ++ [] = y.objs c
    rw [List.append_nil]
  rw [e]
  refine (List.Perm.append_right _ p1).trans (List.Perm.trans ?_ (List.Perm.append_right _ (p2 y)).symm)
  have q1 : (z.objs c ++ R ++ y.objs c).Perm (y.objs c ++ (z.objs c ++ R)) := List.perm_append_comm
  have q2 : (y.objs c ++ (z.objs c ++ R)).Perm (y.objs c ++ (R ++ z.objs c)) := List.Perm.append_left _ List.perm_append_comm
  rw [List.append_assoc (y.objs c)]
  exact q1.trans q2
/-- p[i] = e -/
theorem ssnd_seti (x : XOk c k X) {o i e : Expr} {Mp Mi Me : List Nat} {sp : Sm (Nat × List Nat)} {si se : Sm W} {root : Nat} {p pos : Pos} (he : ESnd c X Y e Me se) (hp : PSnd c X Y o Mp sp) (hi : ESnd c X Y i Mi si) (ok : okE e = true) (nl : noLc e = true) (nt : noTup e = true) (oi : okE i = true)
    (st : ∀ r q r1, sp r = .ok (q, r1) → q.2 = [] ∨ q.1 ∉ Mi) (hr : ∀ r q r1, sp r = .ok (q, r1) → q.1 = root) :
    SSnd c X Y (.Assign [.Subscript o i p] e pos) (Me ++ (Mp ++ (Mi ++ [root]))) [] (fun r => (se r).out fun (w, r1) => (sp r1).out fun (q, r2) => (si r2).out fun (k, r3) => match (eget r3 q).bind fun x => stepIx x k with
      | some j => match onL r3 q fun cs => some (cs.set j w) with
        | some r4 => .nx r4
        | none => .bad
      | none => .bad) := by
  obtain ⟨te, pe, _, ke⟩ := he
  obtain ⟨tp, pp, kp⟩ := hp
  obtain ⟨ti, pi, _, ki⟩ := hi
  refine ⟨_, ps_asg pe (pg_sub pp pi set_list (sub_ok oi)) (by unfold swapsWithSole; exact sw_ok ok nl) (sws_ok nt), fun n σ as B H T D g s ok => ke n σ as B H T _ g s (Kn.mono (OK.out ok) ?_ fun _ _ z => z)⟩
  rintro ⟨w1, r1⟩ ea h as1 y B1 H1 x1 (ey : y.er = w1) (rfl : ers as1 = r1)
  have m1 : Sx c n (Me ++ (Mp ++ (Mi ++ [root]))) [] σ as B σ as1 (y :: T) B1 H1 := x1.sx.mono (fun i z => List.mem_append_left _ z) (fun _ z => z)
  refine kp n σ as1 B1 H1 (y :: T) _ x1.gd x1.sr (Kn.mono (OK.out (OK.step m1 h)) ?_ fun _ _ z => z)
  rintro ⟨q, r2⟩ eb h2 as2 v w B2 H2 x2 (rfl : ers as2 = r2) pa
  have m2 : Sx c n (Me ++ (Mp ++ (Mi ++ [root]))) [] σ as1 B1 σ as2 (y :: T) B2 H2 := x2.sx.mono (fun i z => List.mem_append_right _ (List.mem_append_left _ z)) (fun _ z => z)
  refine ki n σ as2 B2 H2 (y :: T) _ x2.gd x2.sr (Kn.mono (OK.out (OK.step m2 h2)) ?_ fun _ _ z => z)
  rintro ⟨wi, r3⟩ ec h3 as3 u B3 H3 x3 (eu : u.er = wi) (rfl : ers as3 = r3)
  dsimp only at h3
  split at h3
  · rename_i j ej
    split at h3
    · rename_i r4 e4
      obtain ⟨w3, eg, ej⟩ := Option.bind_eq_some_iff.mp ej
      have pa3 := pa.stab x3 x2.sr (st _ _ _ eb) eg
      obtain ⟨a, xs, cs', ev, hH, ew, ef, hs, wr⟩ := write_core (Ms := [y]) (σ := σ) x3.dropT.gd x3.sr pa3 e4
      have ef := Option.some.inj ef
      subst ew
      have hk : ∃ i', u.er = .fl (.int i') ∧ ixN xs.length i' = some j := by
        unfold stepIx at ej
        rw [← eu] at ej
        have e7 : (W.nd Kd.lst (xs.map A.er)).kids = some (.lst, (xs.map A.er).length) := rfl
        rw [e7] at ej
        split at ej
        · rename_i m i' h1 h2'
          injection h1 with h1
          injection h1 with _ h1
          rw [← h1, List.length_map] at ej
          exact ⟨i', h2', ej⟩
        · rename_i m i' h1 h2'
          injection h1 with h1
          injection h1 with h1 _
          cases h1
        · cases ej
      obtain ⟨i', k1, k2⟩ := hk
      have hj := ixN_lt k2
      obtain ⟨as4, g4, s4, e5, f4⟩ := wr (xs.set j y) (xs[j].objs c) (by rw [← ef, ← ey, List.map_set]) (objs_setP (List.getElem?_eq_getElem hj)) (fun z z' hz => by
        rcases List.mem_or_eq_of_mem_set hz with hz | hz
        · exact z z' (List.mem_append_left _ hz)
        · exact z z' (List.mem_append_right _ (by rw [hz]; exact List.mem_cons_self)))
      refine ⟨a, vals xs, i', j, ev, x3.int k1, hH, by simpa [vals] using k2, ?_⟩
      have e6 : (vals xs).set j y.val = vals (xs.set j y) := by simp [vals, List.map_set]
      rw [e6]
      refine h3 σ as4 B3 _ ⟨x3.sb, g4, s4, fun i hi => ?_, fun _ _ => rfl, rfl⟩ e5
      rw [f4 i fun z => hi (List.mem_append_right _ (List.mem_append_right _ (List.mem_append_right _ (by rw [z, hr _ _ _ eb]; exact List.mem_cons_self))))]
      exact x3.fr i fun z => hi (List.mem_append_right _ (List.mem_append_right _ (List.mem_append_left _ z)))
    · exact h3.elim
  · exact h3.elim

/-! ### slots held still -/
def frzA (as : Sl) : List Nat → Sl
  | [] => as
  | i :: is => match as[i]? with
    | some (some x) => frzA (as.set i (some (.fl x.val x.er.dat))) is
    | _ => frzA as is
def thawA (as0 as : Sl) : List Nat → Sl
  | [] => as
  | i :: is => (thawA as0 as is).set i (as0[i]?.getD none)
theorem ers_thaw (as0 as : Sl) : ∀ is : List Nat, ers (thawA as0 as is) = thawE (ers as0) (ers as) is
  | [] => rfl
  | i :: is => by
    show ers ((thawA as0 as is).set i (as0[i]?.getD none)) = (thawE (ers as0) (ers as) is).set i ((ers as0)[i]?.getD none)
    rw [ers_set, ers_thaw as0 as is, ers_get]
    cases as0[i]? <;> rfl
theorem thawA_len (as0 as : Sl) : ∀ is : List Nat, (thawA as0 as is).length = as.length
  | [] => rfl
  | i :: is => by
    show ((thawA as0 as is).set i _).length = _
    rw [List.length_set, thawA_len as0 as is]
theorem thawA_out {as0 as : Sl} {j : Nat} : ∀ {is : List Nat}, j ∉ is → (thawA as0 as is)[j]? = as[j]?
  | [], _ => rfl
  | i :: is, h => by
    show ((thawA as0 as is).set i _)[j]? = _
    rw [List.getElem?_set_ne (fun z => h (by rw [z]; exact List.mem_cons_self)), thawA_out fun z => h (List.mem_cons_of_mem _ z)]
theorem thawA_in {as0 as : Sl} {j : Nat} (hj : j < as.length) : ∀ {is : List Nat}, j ∈ is → (thawA as0 as is)[j]? = some (as0[j]?.getD none)
  | [], h => by cases h
  | i :: is, h => by
    show ((thawA as0 as is).set i (as0[i]?.getD none))[j]? = _
    by_cases e : i = j
    · subst e
      rw [List.getElem?_set_self (by rw [thawA_len]; exact hj)]
    · rw [List.getElem?_set_ne e]
      exact thawA_in hj (by rcases List.mem_cons.mp h with z | z; exact (e z.symm).elim; exact z)
theorem frz_ok : ∀ (is : List Nat) {as : Sl} {B : Hp}, G c n B H (live as ++ T) → SR σ as → ∃ B1, Same B B1 ∧ G c n B1 H (live (frzA as is) ++ T) ∧ SR σ (frzA as is) ∧ ers (frzA as is) = frzE (ers as) is ∧ (∀ i, i ∉ is → (frzA as is)[i]? = as[i]?) ∧
    (∀ (i : Nat) (x : A), as[i]? = some (some x) → ∃ y : A, (frzA as is)[i]? = some (some y) ∧ y.val = x.val) ∧ ∀ i ∈ is, ∀ x : A, as[i]? = some (some x) → ∀ p ∈ x.objs c, B1 p.1 = some p.2
  | [], as, B, g, s => ⟨B, Same.refl _, g, s, rfl, fun _ _ => rfl, fun i x h => ⟨x, h, rfl⟩, fun i hi => by cases hi⟩
  | i :: is, as, B, g, s => by
    have e0 := ers_get (as := as) (i := i)
    unfold frzA frzE
    cases e : as[i]? with
    | none =>
      rw [e0, e]
      obtain ⟨B1, h1, h2, h3, h4, h5, h6, h7⟩ := frz_ok is g s
      refine ⟨B1, h1, h2, h3, h4, fun j hj => h5 j fun z => hj (List.mem_cons_of_mem _ z), h6, fun j hj x hx => ?_⟩
      rcases List.mem_cons.mp hj with z | z
      · subst z
        rw [e] at hx
        cases hx
      · exact h7 j z x hx
    | some z =>
      cases z with
      | none =>
        rw [e0, e]
        obtain ⟨B1, h1, h2, h3, h4, h5, h6, h7⟩ := frz_ok is g s
        refine ⟨B1, h1, h2, h3, h4, fun j hj => h5 j fun z => hj (List.mem_cons_of_mem _ z), h6, fun j hj x hx => ?_⟩
        rcases List.mem_cons.mp hj with z | z
        · subst z
          rw [e] at hx
          cases hx
        · exact h7 j z x hx
      | some y =>
        rw [e0, e]
        obtain ⟨B0, s0, g0, o0⟩ := G.freezeS g e
        obtain ⟨B1, h1, h2, h3, h4, h5, h6, h7⟩ := frz_ok is g0 (s.chg (y := .fl y.val y.er.dat) e rfl)
        refine ⟨B1, s0.trans h1, h2, h3, ?_, fun j hj => ?_, fun j x hx => ?_, fun j hj x hx p hp => ?_⟩
        · rw [h4, ers_set]
          rfl
        · rw [h5 j fun z => hj (List.mem_cons_of_mem _ z), List.getElem?_set_ne fun z => hj (by rw [z]; exact List.mem_cons_self)]
        · by_cases z : i = j
          · subst z
            rw [e] at hx
            have hx := Option.some.inj (Option.some.inj hx)
            subst hx
            exact h6 i (.fl y.val y.er.dat) (List.getElem?_set_self (SR.lt e))
          · exact h6 j x (by rw [List.getElem?_set_ne z]; exact hx)
        · by_cases z : i = j
          · subst z
            rw [e] at hx
            have hx := Option.some.inj (Option.some.inj hx)
            subst hx
            exact h1 _ _ (o0 p hp)
          · refine h7 j ?_ x (by rw [List.getElem?_set_ne z]; exact hx) p hp
            rcases List.mem_cons.mp hj with w | w
            · exact (z w.symm).elim
            · exact w
theorem live_sub : ∀ {as as' : Sl}, as'.length = as.length → (∀ (i : Nat) (x : A), as'[i]? = some (some x) → as[i]? = some (some x)) → (live as').Sublist (live as)
  | [], [], _, _ => List.Sublist.refl _
  | [], _ :: _, h, _ => by cases h
  | _ :: _, [], h, _ => by cases h
  | a :: as, b :: bs, h, q => by
    have ih : (live bs).Sublist (live as) := live_sub (by simpa using h) fun i x e => by simpa using q (i + 1) x (by simpa using e)
    cases b with
    | none =>
      cases a with
      | none => exact ih
      | some a => exact ih.cons _
    | some b =>
      have e := q 0 b rfl
      have e : a = some b := by simpa using e
      subst e
      exact ih.cons₂ _
theorem objsL_sub {L' L : List A} (h : L'.Sublist L) : (objsL c L').Sublist (objsL c L) := by
  induction h with
  | slnil => exact List.Sublist.refl _
  | cons x _ ih => exact ih.trans (List.sublist_append_right _ _)
  | cons_cons x _ ih => exact List.Sublist.append (List.Sublist.refl _) ih
theorem live_at : ∀ {as : Sl} {x : A}, x ∈ live as → ∃ i : Nat, as[i]? = some (some x)
  | [], x, h => by cases h
  | none :: as, x, h => by
    obtain ⟨i, e⟩ := live_at (as := as) h
    exact ⟨i + 1, by simpa using e⟩
  | some a :: as, x, h => by
    rcases List.mem_cons.mp h with z | z
    · subst z
      exact ⟨0, rfl⟩
    · obtain ⟨i, e⟩ := live_at (as := as) z
      exact ⟨i + 1, by simpa using e⟩
theorem thaw_gd {as' : Sl} {is : List Nat} {T' : List A} (g0 : G c n B H (live as ++ T)) (g2 : G c n B2 H2 (live as2 ++ T')) (hT : ∀ x ∈ T, x ∈ T') (sb : Same B B2) (hl : as'.length = as.length) (key : ∀ (i : Nat) (x : A), as'[i]? = some (some x) → as[i]? = some (some x) ∧ (i ∈ is ∨ as2[i]? = some (some x)))
    (ho : ∀ i ∈ is, ∀ x : A, as[i]? = some (some x) → ∀ p ∈ x.objs c, B2 p.1 = some p.2) : G c n B H2 (live as' ++ T) := by
  have sl : (live as' ++ T).Sublist (live as ++ T) := List.Sublist.append (live_sub hl fun i x e => (key i x e).1) (List.Sublist.refl _)
  have so := objsL_sub (c := c) sl
  exact {
    b0 := g0.b0
    sub := fun b o e => g2.sub b o (sb b o e)
    hold := fun p hp => by
      refine ⟨?_, (g0.hold p (so.subset hp)).2⟩
      rw [objsL_append] at hp
      rcases List.mem_append.mp hp with hp | hp
      · have : ∃ x ∈ live as', p ∈ x.objs c := by
          have gen : ∀ {L : List A}, p ∈ objsL c L → ∃ x ∈ L, p ∈ x.objs c := by
            intro L
            induction L with
            | nil => intro h; cases h
            | cons y L ih =>
              intro h
              have h' : p ∈ y.objs c ++ objsL c L := h
              rcases List.mem_append.mp h' with h' | h'
              · exact ⟨y, List.mem_cons_self, h'⟩
              · obtain ⟨x, h1, h2⟩ := ih h'
                exact ⟨x, List.mem_cons_of_mem _ h1, h2⟩
          exact gen hp
        obtain ⟨x, hx, hpx⟩ := this
        obtain ⟨i, e⟩ := live_at hx
        obtain ⟨k1, k2⟩ := key i x e
        rcases k2 with k2 | k2
        · exact g2.sub _ _ (ho i k2 x k1 p hpx)
        · exact (g2.hold p (mem_objsL (List.mem_append_left _ (live_mem k2)) hpx)).1
      · have gen : ∀ {L : List A}, p ∈ objsL c L → ∃ x ∈ L, p ∈ x.objs c := by
          intro L
          induction L with
          | nil => intro h; cases h
          | cons y L ih =>
            intro h
            have h' : p ∈ y.objs c ++ objsL c L := h
            rcases List.mem_append.mp h' with h' | h'
            · exact ⟨y, List.mem_cons_self, h'⟩
            · obtain ⟨x, h1, h2⟩ := ih h'
              exact ⟨x, List.mem_cons_of_mem _ h1, h2⟩
        obtain ⟨x, h1, h2⟩ := gen hp
        exact (g2.hold p (mem_objsL (List.mem_append_right _ (hT x h1)) h2)).1
    nd := List.Nodup.sublist (so.map Prod.fst) g0.nd
    lf := fun x hx => g0.lf x (sl.subset hx)
    fr := g2.fr
    nw := fun b hb => g0.nw b (hb.imp id fun z => (so.map Prod.fst).subset z) }
theorem ssnd_hold {st : Stmt} {Mb Wb is ms : List Nat} {sb : Env → Out} (hb : SSnd c X Y st Mb Wb sb) (h1 : ∀ i ∈ Mb, i ∈ ms) (h2 : ∀ i ∈ is, i ∉ ms) : SSnd c X Y st ms Wb (fun r => match sb (frzE r is) with
    | .nx r2 => .nx (thawE r (wipeE r2 ms) is)
    | .rt (.fl d) r2 => if d.flat then .rt (.fl d) (thawE r (wipeE r2 ms) is) else .bad
    | _ => .bad) := by
  obtain ⟨t, p, q⟩ := hb
  refine ⟨t, p, fun n σ as B H T D g s ok => ?_⟩
  obtain ⟨B1, sB, g1, s1, e1, f1, f2, f3⟩ := frz_ok is g s
  refine q n σ (frzA as is) B1 H T D g1 s1 ?_
  rw [e1]
  dsimp only at ok
  -- the state behind, thawed
  have main : ∀ σ2 as2 T' B2 H2, Sx c n Mb Wb σ (frzA as is) B1 σ2 as2 T' B2 H2 → (∀ x ∈ T, x ∈ T') → Sx c n ms Wb σ as B σ2 (thawA as (wipeA as2 ms) is) T B H2 := fun σ2 as2 T' B2 H2 x hT => by
    have l2 : as2.length = as.length := by rw [x.sr.1, x.ln, s.1]
    have fr' : ∀ i, i ∉ ms → as2[i]? = (frzA as is)[i]? := fun i hi => x.fr i fun z => hi (h1 i z)
    have hle : as2.length = σ2.length := x.sr.1
    have key : ∀ (i : Nat) (y : A), (thawA as (wipeA as2 ms) is)[i]? = some (some y) → as[i]? = some (some y) ∧ (i ∈ is ∨ as2[i]? = some (some y)) := fun i y e => by
      by_cases hi : i ∈ is
      · have hlt : i < (wipeA as2 ms).length := by
          have := (List.getElem?_eq_some_iff.mp e).1
          rw [thawA_len] at this
          exact this
        rw [thawA_in hlt hi] at e
        have e := Option.some.inj e
        cases e3 : as[i]? with
        | none =>
          rw [e3] at e
          cases e
        | some z =>
          rw [e3] at e
          have e : z = some y := e
          subst e
          exact ⟨rfl, .inl hi⟩
      · rw [thawA_out hi] at e
        obtain ⟨e, him⟩ := wipeA_some e
        refine ⟨?_, .inr e⟩
        rw [← f1 i hi, ← fr' i him]
        exact e
    have lw : (wipeA as2 ms).length = as.length := by rw [wipeA_len, l2]
    refine ⟨Same.refl _, thaw_gd g x.gd hT (sB.trans x.sb) (by rw [thawA_len, lw]) key fun i hi y e p hp => x.sb _ _ (f3 i hi y e p hp), ⟨by rw [thawA_len, lw, x.ln, s.1], fun i y e => ?_⟩, fun i hi => ?_, x.sig, x.ln⟩
    · obtain ⟨k1, k2⟩ := key i y e
      by_cases hi : i ∈ is
      · obtain ⟨z, z1, z2⟩ := f2 i y k1
        rw [← fr' i (h2 i hi)] at z1
        rw [← z2]
        exact x.sr.2 i z z1
      · rcases k2 with k2 | k2
        · exact (hi k2).elim
        · exact x.sr.2 i y k2
    · by_cases hs : i ∈ is
      · by_cases hlt : i < as.length
        · rw [thawA_in (by rw [lw]; exact hlt) hs, List.getElem?_eq_getElem hlt]
          rfl
        · rw [List.getElem?_eq_none (by rw [thawA_len, lw]; omega), List.getElem?_eq_none (by omega)]
      · rw [thawA_out hs, wipeA_out hi, fr' i hi, f1 i hs]
  cases e : sb (frzE (ers as) is) with
  | nx r2 =>
    rw [e] at ok
    intro σ2 as2 B2 H2 x er
    subst er
    exact ok σ2 _ B H2 (main σ2 as2 T B2 H2 x fun _ z => z) (by rw [ers_thaw, ers_wipe])
  | rt w r2 =>
    rw [e] at ok
    intro σ2 as2 y B2 H2 x ey er
    subst er
    cases w with
    | nd kd cs => exact ok.elim
    | fl d =>
      dsimp only at ok
      split at ok
      · rename_i hd
        have m := main σ2 as2 (y :: T) B2 H2 x fun _ z => List.mem_cons_of_mem _ z
        cases y with
        | nd a dx kd cs =>
          rw [A.er_nd] at ey
          cases ey
        | fl v d' =>
          have ey := W.fl.inj ey
          subst ey
          have rv : RepD c B2 d' v := x.gd.lf (.fl v d') (List.mem_append_right _ List.mem_cons_self)
          have r0 : RepD c B d' v := by
            cases d' with
            | nd kd cs => cases hd
            | _ => exact rv
          exact ok σ2 _ (.fl v d') B H2 ⟨m.sb, add_y m.gd r0, m.sr, m.fr, m.sig, m.ln⟩ rfl (by rw [ers_thaw, ers_wipe])
      · exact ok.elim
  | bk r =>
    rw [e] at ok
    exact ok.elim
  | ct r =>
    rw [e] at ok
    exact ok.elim
  | ex cl p r =>
    rw [e] at ok
    exact ok.elim
  | bad =>
    rw [e] at ok
    exact ok.elim
end
end Vx
end

section
set_option maxHeartbeats 4000000
/-! Vx 21: statements: the check of a text, and what it gives. -/
namespace Vx
open PySem L2
mutual
def S.mods : S → List Nat
  | .asg i e => e.mods ++ [i]
  | .asgC i e => e.mods ++ [i]
  | .unp g e => e.mods ++ g.slots
  | .seti p i e => e.mods ++ (p.mods ++ (i.mods ++ [p.root]))
  | .app p e => p.mods ++ (e.mods ++ [p.root])
  | .ex e => e.mods
  | .iff c a b => c.mods ++ (S.modsL a ++ S.modsL b)
  | .forr g it b => it.mods ++ (g.slots ++ S.modsL b)
  | .whl c b => c.mods ++ S.modsL b
  | .ret e => e.mods
  | .hold _ ms _ => ms
  | _ => []
def S.modsL : List S → List Nat
  | [] => []
  | s :: ss => s.mods ++ S.modsL ss
end
mutual
def S.wr : S → List Nat
  | .asg i _ => [i]
  | .asgC i _ => [i]
  | .unp g _ => g.slots
  | .iff _ a b => S.wrL a ++ S.wrL b
  | .forr g _ b => g.slots ++ S.wrL b
  | .whl _ b => S.wrL b
  | .hold _ _ b => S.wrL b
  | _ => []
def S.wrL : List S → List Nat
  | [] => []
  | s :: ss => s.wr ++ S.wrL ss
end
def lcScope (y : Str) (scope : Scope) : Bool := !(scope.names.any fun (n, k) => n == y && (k == .local || k == .cell))
mutual
def S.chk : S → Ck → Stmt → Bool
  | .asg i e, k, st => match st with
    | .Assign [.Name y _] x _ => locB k i y && (okE x && (noLc x && e.chk .v k x))
    | _ => false
  | .asgC i e, k, st => match st with
    | .Assign [.Name y py] x _ => match x with
      | .ListComp elt gs scope pos => (locB k i y && decide (k.sc.names.lookup y = some .local)) && (decide (k.sc.kind = .function) && ((py.line == pos.line) && (lcScope y scope && (match e with
        | .lc _ _ _ _ _ => true
        | _ => false) && e.chk .v k (.ListComp elt gs scope pos))))
      | _ => false
    | _ => false
  | .unp g e, k, st => match st with
    | .Assign [.Tuple es kk p] x _ => g.chk k (.Tuple es kk p) && (okE x && (noLc x && (noTup x && e.chk .v k x)))
    | _ => false
  | .seti p i e, k, st => match st with
    | .Assign [.Subscript o y _] x _ => okE x && (noLc x && (noTup x && (okE y && ((p.triv || !i.mods.contains p.root) && (e.chk .v k x && (p.chk k o && i.chk .v k y))))))
    | _ => false
  | .app p e, k, st => match st with
    | .Expr (.Call (.Attribute o m apos) [x] [] cpos) _ => decide (m = "append") && (okE x && (okO o && ((apos.endLine == cpos.line) && ((p.triv || !e.mods.contains p.root) && (p.chk k o && e.chk .v k x)))))
    | _ => false
  | .ex e, k, st => match st with
    | .Expr x _ => okE x && (noLc x && e.chk .v k x)
    | _ => false
  | .iff c a b, k, st => match st with
    | .If x y z _ => c.chk .t k x && (S.chks a k y && S.chks b k z)
    | _ => false
  | .forr g it b, k, st => match st with
    | .For tg iter body [] _ => g.chk k tg && (okE iter && (it.chk k tg iter && ((it.roots.all fun i => !g.slots.contains i && !(S.modsL b).contains i) && S.chks b k body)))
    | _ => false
  | .whl c b, k, st => match st with
    | .While x body [] _ => c.chk .t k x && S.chks b k body
    | _ => false
  | .ret e, k, st => match st with
    | .Return (some x) _ => e.chk .v k x
    | _ => false
  | .retN, _, st => match st with
    | .Return none _ => true
    | _ => false
  | .pass, _, st => match st with
    | .Pass _ => true
    | _ => false
  | .brk, _, st => match st with
    | .Break _ => true
    | _ => false
  | .cnt, _, st => match st with
    | .Continue _ => true
    | _ => false
  | .hold is ms [s], k, st => s.chk k st && ((s.mods.all fun i => ms.contains i) && is.all fun i => !ms.contains i)
  | _, _, _ => false
def S.chks : List S → Ck → List Stmt → Bool
  | [], _, xs => xs.isEmpty
  | s :: ss, k, xs => match xs with
    | x :: xs => s.chk k x && S.chks ss k xs
    | [] => false
end
section
variable {c : Gx} {Γ : Den}
structure XT (c : Gx) (Γ : Den) (k : Ck) (X : Cx) (Y : WX) : Prop extends XS c Γ k X Y where
  own : PassesOwn (model X.prog X.w) X.A X.env X.xe
theorem lc_parts {own : List (Str × Nat)} {g : Tg} {it : It} {ifs : Option E} {e : E} {k : Ck} {X : Cx} {Y : WX} {x : Expr} (s : XS c Γ k X Y) (h : (E.lc own g it ifs e).chk .v k x = true) : ∃ elt tg iter fs scope pos wi tt te, x = .ListComp elt [⟨tg, iter, fs, 0⟩] scope pos ∧
    okE iter = true ∧ PI X tg iter wi ∧ BlkOk X.N X.env.scope scope own ∧ (∀ X', Blk X scope X' → PG X' tg (g.tg c.K)) ∧ (∀ X', Blk X scope X' → PTs X' fs tt) ∧ (∀ X', Blk X scope X' → PE X' elt te) ∧
    LcK c X Y (tLc wi (g.tg c.K) tt te (own.map (·.2))) (E.lc own g it ifs e).mods ((E.lc own g it ifs e).sem Γ) := by
  cases ifs with
  | none =>
    unfold E.chk at h
    unfold E.mods
    rw [lc_none]
    obtain ⟨h1, h2⟩ := and2 h
    split at h2
    · obtain ⟨e1, h2⟩ := and2 h2
      obtain ⟨e2, h2⟩ := and2 h2
      obtain ⟨e3, h2⟩ := and2 h2
      obtain ⟨e4, h2⟩ := and2 h2
      obtain ⟨e5, h2⟩ := and2 h2
      obtain ⟨e6, h2⟩ := and2 h2
      obtain ⟨e7, e8⟩ := and2 h2
      have e9 := List.isEmpty_iff.mp e8
      subst e9
      have hsl : ∀ i ∈ g.slots, i ∈ own.map (·.2) := fun i hi => List.contains_iff_mem.mp (List.all_eq_true.mp e3 i hi)
      obtain ⟨wi, tt, te, q1, q2, q3, q4, q5, q6⟩ := snd_lc0 (Mt := []) s e1 e2 hsl (It.snd it s e5) itst_nil (fun X' hX => E.snd e (m := .v) (blk_xs s hX) e6) (fun i hi => by
        have z := List.all_eq_true.mp e7 i hi
        obtain ⟨z1, z2⟩ := and2 z
        obtain ⟨z2, z3⟩ := and2 z2
        exact ⟨fun w => noC w z1, by simp, fun w => noC w z3⟩)
      exact ⟨_, _, _, _, _, _, wi, tt, te, rfl, e4, q1, q2, q3, q4, q5, q6⟩
    · cases h2
  | some d =>
    unfold E.chk at h
    unfold E.mods
    rw [lc_some]
    obtain ⟨h1, h2⟩ := and2 h
    split at h2
    · obtain ⟨e1, h2⟩ := and2 h2
      obtain ⟨e2, h2⟩ := and2 h2
      obtain ⟨e3, h2⟩ := and2 h2
      obtain ⟨e4, h2⟩ := and2 h2
      obtain ⟨e5, h2⟩ := and2 h2
      obtain ⟨e6, h2⟩ := and2 h2
      obtain ⟨e7, e8⟩ := and2 h2
      have hsl : ∀ i ∈ g.slots, i ∈ own.map (·.2) := fun i hi => List.contains_iff_mem.mp (List.all_eq_true.mp e3 i hi)
      dsimp only at e8
      split at e8
      · obtain ⟨wi, tt, te, q1, q2, q3, q4, q5, q6⟩ := snd_lc0 (Mt := d.mods) s e1 e2 hsl (It.snd it s e5) (itst_one (sem := fun r => (d.sem Γ r).bind bool?) fun X' hX => E.snd d (m := .t) (blk_xs s hX) e8) (fun X' hX => E.snd e (m := .v) (blk_xs s hX) e6) (fun i hi => by
          have z := List.all_eq_true.mp e7 i hi
          obtain ⟨z1, z2⟩ := and2 z
          obtain ⟨z2, z3⟩ := and2 z2
          exact ⟨fun w => noC w z1, fun w => noC w z2, fun w => noC w z3⟩)
        exact ⟨_, _, _, _, _, _, wi, tt, te, rfl, e4, q1, q2, q3, q4, q5, q6⟩
      · cases e8
    · cases h2
theorem ssnd_asgC {k : Ck} {X : Cx} {Y : WX} (s : XS c Γ k X Y) {own : List (Str × Nat)} {g : Tg} {it : It} {ifs : Option E} {e : E} {i : Nat} {y : Str} {py spos pos : Pos} {elt : Expr} {gs : List Comprehension} {scope : Scope} (hl : (locB k i y && decide (k.sc.names.lookup y = some .local)) = true) (hk : k.sc.kind = .function) (hp : (py.line == pos.line) = true) (ha : lcScope y scope = true)
    (h : (E.lc own g it ifs e).chk .v k (.ListComp elt gs scope pos) = true) : SSnd c X Y (.Assign [.Name y py] (.ListComp elt gs scope pos) spos) ((E.lc own g it ifs e).mods ++ [i]) [i] (fun r => ((E.lc own g it ifs e).sem Γ r).out fun (w, r1) => if i < r1.length then .nx (r1.set i (some w)) else .bad) := by
  obtain ⟨elt, tg, iter, fs, scope, pos, wi, tt, te, ex, ok, pi, bo, pg, pts, pee, lck⟩ := lc_parts s h
  injection ex with x1 x2 x3 x4
  subst x1
  subst x2
  subst x3
  subst x4
  obtain ⟨l0, l2⟩ := and2 hl
  obtain ⟨l1, _⟩ := and2 l0
  have l2' : X.env.scope.names.lookup y = some .local := by rw [s.ok.sc]; exact of_decide_eq_true l2
  have sw := sw_true (elt := elt) (gs := [⟨tg, iter, fs, 0⟩]) (scope := scope) (pos := pos) (py := py) (y := y) (l := spos.line) (env := X.env) (by rw [s.ok.sc]; exact hk) l2' hp (by
    unfold lcScope at ha
    rw [Bool.not_eq_true'] at ha
    exact ha)
  exact ⟨_, ps_setLc (i := i) s.ok.calm (by rw [s.ok.hN]; exact s.ok.nd) (by rw [s.ok.hN]; exact of_decide_eq_true l1) l2' sw pi bo (fun s H C cl fp => pg _ ⟨s, H, C, cl, fp, rfl⟩) (fun s H C cl fp => pts _ ⟨s, H, C, cl, fp, rfl⟩) (fun s H C cl fp => pee _ ⟨s, H, C, cl, fp, rfl⟩) (fold_ok ok),
    fun n σ as B H T D gd s ok => asg_core (X := X) lck gd s ok⟩
theorem hold_sem {is ms : List Nat} {s : S} : S.sem Γ (.hold is ms [s]) = fun r => match s.sem Γ (frzE r is) with
    | .nx r2 => .nx (thawE r (wipeE r2 ms) is)
    | .rt (.fl d) r2 => if d.flat then .rt (.fl d) (thawE r (wipeE r2 ms) is) else .bad
    | _ => .bad := by
  funext r
  have e : S.sems Γ [s] (frzE r is) = s.sem Γ (frzE r is) := by
    show (s.sem Γ (frzE r is)).andThen (fun r1 => .nx r1) = _
    cases s.sem Γ (frzE r is) <;> rfl
  rw [S.sem, e]
  all_goals (cases s.sem Γ (frzE r is) <;> first | rfl | (rename_i w _; cases w <;> rfl))
theorem ssnds_one {X : Cx} {Y : WX} {st : Stmt} {M Ws : List Nat} {sem : Env → Out} (h : SSnds c X Y [st] M Ws sem) : True := trivial
theorem out_semT {c0 : E} {a b : List S} (r : Env) : True := trivial
mutual
theorem S.snd : ∀ (s : S) {k : Ck} {X : Cx} {Y : WX} {st : Stmt}, XT c Γ k X Y → s.chk k st = true → SSnd c X Y st s.mods s.wr (s.sem Γ)
  | .asg i e, k, X, Y, st, t, h => by
    unfold S.chk at h
    split at h
    · obtain ⟨h1, h⟩ := and2 h
      obtain ⟨h2, h⟩ := and2 h
      obtain ⟨h3, h4⟩ := and2 h
      exact ssnd_asg t.ok h1 (E.snd e (m := .v) t.toXS h4) h2 h3
    · cases h
  | .asgC i e, k, X, Y, st, t, h => by
    unfold S.chk at h
    split at h
    · split at h
      · obtain ⟨h1, h⟩ := and2 h
        obtain ⟨h2, h⟩ := and2 h
        obtain ⟨h3, h⟩ := and2 h
        obtain ⟨h4, h6⟩ := and2 h
        obtain ⟨h7, h5⟩ := and2 h4
        cases e with
        | lc own g it ifs e => exact ssnd_asgC t.toXS h1 (of_decide_eq_true h2) h3 h7 h6
        | _ => cases h5
      · cases h
    · cases h
  | .unp g e, k, X, Y, st, t, h => by
    unfold S.chk at h
    split at h
    · obtain ⟨h1, h⟩ := and2 h
      obtain ⟨h2, h⟩ := and2 h
      obtain ⟨h3, h⟩ := and2 h
      obtain ⟨h4, h5⟩ := and2 h
      exact ssnd_unp t.ok h1 (E.snd e (m := .v) t.toXS h5) h2 h3 h4
    · cases h
  | .seti p i e, k, X, Y, st, t, h => by
    unfold S.chk at h
    split at h
    · obtain ⟨h1, h⟩ := and2 h
      obtain ⟨h2, h⟩ := and2 h
      obtain ⟨h3, h⟩ := and2 h
      obtain ⟨h4, h⟩ := and2 h
      obtain ⟨h5, h⟩ := and2 h
      obtain ⟨h6, h⟩ := and2 h
      obtain ⟨h7, h8⟩ := and2 h
      exact ssnd_seti t.ok (E.snd e (m := .v) t.toXS h6) (Pl.snd p t.toXS h7) (E.snd i (m := .v) t.toXS h8) h1 h2 h3 h4 (Pl.stab_of h5) fun r q r1 e => Pl.root_of e
    · cases h
  | .app p e, k, X, Y, st, t, h => by
    unfold S.chk at h
    split at h
    · obtain ⟨h1, h⟩ := and2 h
      obtain ⟨h2, h⟩ := and2 h
      obtain ⟨h3, h⟩ := and2 h
      obtain ⟨h4, h⟩ := and2 h
      obtain ⟨h5, h⟩ := and2 h
      obtain ⟨h6, h7⟩ := and2 h
      have h1 := of_decide_eq_true h1
      subst h1
      exact ssnd_app t.ok (Pl.snd p t.toXS h6) (E.snd e (m := .v) t.toXS h7) h2 h3 h4 (Pl.stab_of h5) fun r q r1 e => Pl.root_of e
    · cases h
  | .ex e, k, X, Y, st, t, h => by
    unfold S.chk at h
    split at h
    · obtain ⟨h1, h⟩ := and2 h
      obtain ⟨h2, h3⟩ := and2 h
      exact ssnd_ex (E.snd e (m := .v) t.toXS h3) h1 h2
    · cases h
  | .iff d a b, k, X, Y, st, t, h => by
    unfold S.chk at h
    split at h
    · obtain ⟨h1, h⟩ := and2 h
      obtain ⟨h2, h3⟩ := and2 h
      exact ssnd_if (E.snd d (m := .t) t.toXS h1) (S.snds a t h2) (S.snds b t h3)
    · cases h
  | .forr g it b, k, X, Y, st, t, h => by
    unfold S.chk at h
    split at h
    · obtain ⟨h1, h⟩ := and2 h
      obtain ⟨h2, h⟩ := and2 h
      obtain ⟨h3, h⟩ := and2 h
      obtain ⟨h4, h5⟩ := and2 h
      exact ssnd_for t.ok t.own h1 (It.snd it t.toXS h3) (S.snds b t h5) (fun i hi => by
        obtain ⟨z1, z2⟩ := and2 (List.all_eq_true.mp h4 i hi)
        exact ⟨fun w => noC w z1, fun w => noC w z2⟩) h2
    · cases h
  | .whl d b, k, X, Y, st, t, h => by
    unfold S.chk at h
    split at h
    · obtain ⟨h1, h2⟩ := and2 h
      exact ssnd_while t.own (E.snd d (m := .t) t.toXS h1) (S.snds b t h2)
    · cases h
  | .ret e, k, X, Y, st, t, h => by
    unfold S.chk at h
    split at h
    · exact ssnd_ret (E.snd e (m := .v) t.toXS h)
    · cases h
  | .retN, k, X, Y, st, t, h => by
    unfold S.chk at h
    split at h
    · exact ssnd_retN
    · cases h
  | .pass, k, X, Y, st, t, h => by
    unfold S.chk at h
    split at h
    · exact ssnd_pass
    · cases h
  | .brk, k, X, Y, st, t, h => by
    unfold S.chk at h
    split at h
    · exact ssnd_brk
    · cases h
  | .cnt, k, X, Y, st, t, h => by
    unfold S.chk at h
    split at h
    · exact ssnd_cnt
    · cases h
  | .hold is ms [s], k, X, Y, st, t, h => by
    unfold S.chk at h
    obtain ⟨h1, h⟩ := and2 h
    obtain ⟨h2, h3⟩ := and2 h
    have q := ssnd_hold (S.snd s t h1) (fun i hi => List.contains_iff_mem.mp (List.all_eq_true.mp h2 i hi)) fun i hi w => noC w (List.all_eq_true.mp h3 i hi)
    have e1 : (S.hold is ms [s]).wr = s.wr ++ [] := rfl
    rw [e1, List.append_nil, hold_sem]
    exact q
  | .hold is ms [], k, X, Y, st, t, h => by cases h
  | .hold is ms (_ :: _ :: _), k, X, Y, st, t, h => by cases h
  | .aug .., k, X, Y, st, t, h => by cases h
  | .setk .., k, X, Y, st, t, h => by cases h
  | .ins .., k, X, Y, st, t, h => by cases h
  | .ext .., k, X, Y, st, t, h => by cases h
  | .pop0 .., k, X, Y, st, t, h => by cases h
  | .popi .., k, X, Y, st, t, h => by cases h
  | .rais .., k, X, Y, st, t, h => by cases h
theorem S.snds : ∀ (ss : List S) {k : Ck} {X : Cx} {Y : WX} {st : List Stmt}, XT c Γ k X Y → S.chks ss k st = true → SSnds c X Y st (S.modsL ss) (S.wrL ss) (S.sems Γ ss)
  | [], k, X, Y, st, t, h => by
    cases st with
    | nil => exact ssnds_nil
    | cons x xs => cases h
  | s :: ss, k, X, Y, st, t, h => by
    cases st with
    | nil => cases h
    | cons x xs =>
      obtain ⟨h1, h2⟩ := and2 h
      exact ssnds_cons (S.snd s t h1) (S.snds ss t h2)
end
end
end Vx
end

section
set_option maxHeartbeats 4000000
/-! Vx 22: defs. -/
namespace Vx
open PySem L2
section
variable {c : Gx} {Γ : Den} {P : Program} {w : World} {K : PySem.W.Frag} {mg : Str → Option Value} {base : Heap}
/-- a def stands and keeps its promise, at the level lv -/
def FT (c : Gx) (Γ : Den) (P : Program) (w : World) (K : PySem.W.Frag) (mg : Str → Option Value) (base : Heap) (lv : Nat) (f : Fn) : Prop :=
  ∃ (a : Addr) (fd : FuncData) (ps : List Str), FnOk P w K mg base (L2.CX P w) lv a fd ps (spOf c f.io (Γ f.id) f.ar) ∧ ps.length = f.ar ∧ mg f.name = some (.ref a) ∧ PySem.W.keepIn K (.ref a) = true ∧ Binds K fd ps []
theorem FT.mono {i j : Nat} {f : Fn} (h : FT c Γ P w K mg base i f) (l : i ≤ j) : FT c Γ P w K mg base j f := by
  obtain ⟨a, fd, ps, h1, h2⟩ := h
  exact ⟨a, fd, ps, h1.mono l, h2⟩
theorem ioVals_cons {i : Nat} {is : List Nat} {xs : List A} {v : V} (h : (xs[i]?).map A.val = some v) : ioVals (i :: is) xs = v :: ioVals is xs := by
  unfold ioVals
  rw [List.filterMap_cons, h]
theorem mapM_congr {f g : Nat → Option W} : ∀ {l : List Nat}, (∀ j ∈ l, f j = g j) → l.mapM f = l.mapM g
  | [], _ => rfl
  | i :: l, h => by
    rw [List.mapM_cons, List.mapM_cons, h i List.mem_cons_self, mapM_congr fun j hj => h j (List.mem_cons_of_mem _ hj)]
/-- the in-outs handed back -/
theorem io_take {n : En} {B H : Hp} {xs : List A} : ∀ {io : List Nat} {as2 : Sl} {T : List A} {us : List W}, io.Nodup → G c n B H (live as2 ++ T) → ioBack io (ers as2) = some us → (∀ i ∈ io, ∀ y : A, as2[i]? = some (some y) → (xs[i]?).map A.val = some y.val) →
    ∃ ys, ys.map A.er = us ∧ vals ys = ioVals io xs ∧ G c n B H (ys ++ T)
  | [], as2, T, us, _, g, h, _ => by
    have e : ([] : List W) = us := Option.some.inj h
    subst e
    exact ⟨[], rfl, rfl, Gd.drop g⟩
  | i :: is, as2, T, us, nd, g, h, q => by
    unfold ioBack at h
    rw [List.mapM_cons] at h
    obtain ⟨u, h1, h⟩ := Option.bind_eq_some_iff.mp h
    obtain ⟨us', h2, h⟩ := Option.bind_eq_some_iff.mp h
    have h := Option.some.inj h
    have e0 := ers_get (as := as2) (i := i)
    cases e : as2[i]? with
    | none =>
      rw [e0, e] at h1
      cases h1
    | some z =>
      cases z with
      | none =>
        rw [e0, e] at h1
        cases h1
      | some y =>
        rw [e0, e] at h1
        have h1' : (if y.er.isFl then none else some y.er) = some u := h1
        split at h1'
        · cases h1'
        · have h1' := Option.some.inj h1'
          have ni : i ∉ is := (List.nodup_cons.mp nd).1
          have h3 : ioBack is (ers (as2.set i none)) = some us' := by
            rw [← h2]
            unfold ioBack
            refine mapM_congr fun j hj => ?_
            rw [ers_set, List.getElem?_set_ne fun z => ni (by rw [z]; exact hj)]
          obtain ⟨ys, y1, y2, y3⟩ := io_take (io := is) (T := y :: T) (List.nodup_cons.mp nd).2 (g.take e) h3 fun j hj z hz => by
            have nj : i ≠ j := fun w => ni (by rw [w]; exact hj)
            rw [List.getElem?_set_ne nj] at hz
            exact q j (List.mem_cons_of_mem _ hj) z hz
          refine ⟨y :: ys, by rw [List.map_cons, y1, ← h, h1'], ?_, Gd.perm y3 List.perm_middle⟩
          rw [ioVals_cons (q i List.mem_cons_self y e), ← y2]
          rfl
theorem start_env {xs : List A} {N : List Str} : L2.start N (vals xs) = (xs.map (fun x => some x.val)) ++ List.replicate (N.length - xs.length) none := by
  unfold L2.start vals
  simp
theorem live_app : ∀ {xs : List A} {k : Nat}, live (xs.map some ++ List.replicate k none) = xs
  | [], 0 => rfl
  | [], k + 1 => by
    show live (List.replicate (k + 1) none) = []
    rw [List.replicate_succ]
    exact live_app (xs := []) (k := k)
  | x :: xs, k => by
    show x :: live (xs.map some ++ List.replicate k none) = x :: xs
    rw [live_app]
/-- THE RULE for a def: its checked body's run is what its den says -/
theorem fn_ok {x qual : Str} {params : Arguments} {body : List Stmt} {scope : Scope} {fa : Addr} {fd : FuncData} {N ps : List Str} {lv : Nat} {io : List Nat} {b : List S} {k : Ck} {den : List W → Rf} (F : FunD K x qual params body scope [] [] fa fd) (Sc : FnScope N ps scope)
    (hK : K = c.K) (hfree : ∀ x ∈ bNames, mg x = none) (hcons : ∀ p ∈ k.cons, ∃ u, mg p.1 = some u ∧ RelV p.2.v u) (hfns : ∀ f ∈ k.fns, FT c Γ P w K mg base lv f) (hN : k.N = N) (hs : k.sc = scope) (hchk : S.chks b k body = true)
    (hio : io.Nodup) (hw : ∀ i ∈ io, i ∉ S.wrL b) (hden : ∀ ws, ws.length = ps.length → den ws ≠ .bad → runF Γ N.length io b ws = den ws) : FnOk P w K mg base (L2.CX P w) (lv + 1) fa fd ps (spOf c io den ps.length) := by
  refine F.ok Sc (fun vs H Q E h => ?_) fun cdv Ao outer s H vs Q E hr h => ?_
  · obtain ⟨B, xs, e, hl, _⟩ := h
    rw [e]
    simpa [vals] using hl
  obtain ⟨B, xs, e, hl, g, hq⟩ := h
  subst e
  have xt : XT c Γ k (cxOf (L2.CX P w) P w K mg base N qual scope fa cdv Ao outer s H E) (fun cls d _ H' => E cls d H') := {
    ok := ⟨hN.symm, by rw [hN]; exact Sc.nd, hs.symm, rfl, hK, hr.mono (Nat.zero_le _), hfree, fun _ _ => rfl⟩
    tk := takes_of (X := cxOf (L2.CX P w) P w K mg base N qual scope fa cdv Ao outer s H E) rfl rfl rfl rfl
    fns := fun f hf => by
      obtain ⟨a, fd, ps, h1, h2, h3, h4, h5⟩ := hfns f hf
      exact ⟨a, fd, ps, lv, h1, h2, hr, h3, h4, h5⟩
    cons := hcons
    own := passes_of rfl }
  obtain ⟨t, pt, kt⟩ := S.snds b xt hchk
  refine ⟨t, pt, ?_⟩
  obtain ⟨n, hn⟩ : ∃ n : En, n = ⟨H, B, ads (objsL c xs)⟩ := ⟨_, rfl⟩
  rw [← hn] at g hq
  obtain ⟨as, has⟩ : ∃ as : Sl, as = xs.map some ++ List.replicate (N.length - xs.length) none := ⟨_, rfl⟩
  have hlen : ps.length ≤ N.length := by
    have := congrArg List.length Sc.pre
    rw [List.length_take] at this
    omega
  have sr : SR (L2.start N (vals xs)) as := by
    rw [has, start_env]
    refine ⟨by simp, fun i y h => ?_⟩
    by_cases hi : i < xs.length
    · rw [List.getElem?_append_left (by simpa using hi)] at h ⊢
      rw [List.getElem?_map] at h ⊢
      cases e : xs[i]? with
      | none =>
        rw [e] at h
        cases h
      | some z =>
        rw [e] at h
        have h := Option.some.inj (Option.some.inj h)
        rw [← h]
        rfl
    · rw [List.getElem?_append_right (by simpa using hi)] at h
      have := List.eq_of_mem_replicate (List.mem_of_getElem? h)
      cases this
  have ge : G c n B H (live as ++ []) := by
    rw [has, live_app, List.append_nil]
    exact g
  have ee : ers as = (xs.map A.er).map some ++ List.replicate (N.length - (xs.map A.er).length) none := by
    rw [has]
    unfold ers
    simp
  refine kt n (L2.start N (vals xs)) as B H [] _ ge sr ?_
  rw [ee]
  -- what the den says
  have back : ∀ {M2 : List Nat} {σ2 : St} {as2 : Sl} {T2 : List A} {B2 H2 : Hp} {us : List W}, Sx c n M2 (S.wrL b) (L2.start N (vals xs)) as B σ2 as2 T2 B2 H2 → ioBack io (ers as2) = some us → ∃ ys, ys.map A.er = us ∧ vals ys = ioVals io xs ∧ G c n B2 H2 (ys ++ T2) :=
    fun {M2 σ2 as2 T2 B2 H2 us} x hb => io_take hio x.gd hb fun i hi y e => by
      have e1 := x.sr.2 i y e
      rw [x.sig i (hw i hi), start_env] at e1
      by_cases hx : i < xs.length
      · rw [List.getElem?_append_left (by simpa using hx), List.getElem?_map] at e1
        cases e3 : xs[i]? with
        | none =>
          rw [e3] at e1
          cases e1
        | some z =>
          rw [e3] at e1
          exact Option.some.inj e1
      · rw [List.getElem?_append_right (by simpa using hx)] at e1
        have := List.eq_of_mem_replicate (List.mem_of_getElem? e1)
        cases this
  have hd : den (xs.map A.er) ≠ .bad := fun z => by
    rw [z] at hq
    exact hq
  have hrun := hden (xs.map A.er) (by rw [List.length_map, hl]) hd
  unfold runF at hrun
  cases e : S.sems Γ b ((xs.map A.er).map some ++ List.replicate (N.length - (xs.map A.er).length) none) with
  | bad =>
    rw [e] at hrun
    exact (hd hrun.symm).elim
  | bk r =>
    rw [e] at hrun
    exact (hd hrun.symm).elim
  | ct r =>
    rw [e] at hrun
    exact (hd hrun.symm).elim
  | nx r =>
    rw [e] at hrun
    dsimp only at hrun
    intro σ2 as2 B2 H2 x er
    cases eb : ioBack io r with
    | none =>
      rw [eb] at hrun
      exact (hd hrun.symm).elim
    | some us =>
      rw [eb] at hrun
      rw [← hrun] at hq
      rw [← er] at eb
      obtain ⟨ys, y1, y2, y3⟩ := back x eb
      rw [List.append_nil] at y3
      exact hq B2 H2 (.fl .non .non) ys x.sb (Gd.add y3 rfl) rfl y1 y2
  | rt w1 r =>
    rw [e] at hrun
    dsimp only at hrun
    intro σ2 as2 x1 B2 H2 x ex er
    cases eb : ioBack io r with
    | none =>
      rw [eb] at hrun
      exact (hd hrun.symm).elim
    | some us =>
      rw [eb] at hrun
      rw [← hrun] at hq
      rw [← er] at eb
      obtain ⟨ys, y1, y2, y3⟩ := back x eb
      exact hq B2 H2 x1 ys x.sb (Gd.perm y3 List.perm_append_comm) ex y1 y2
  | ex cl p r =>
    rw [e] at hrun
    dsimp only at hrun
    intro M2 σ2 as2 T2 B2 H2 x er
    cases eb : ioBack io r with
    | none =>
      rw [eb] at hrun
      exact (hd hrun.symm).elim
    | some us =>
      rw [eb] at hrun
      rw [← hrun] at hq
      rw [← er] at eb
      obtain ⟨ys, y1, y2, y3⟩ := back x eb
      exact hq B2 H2 ys x.sb (Gd.drop (M := T2) (Gd.perm y3 List.perm_append_comm)) y1 y2
end
end Vx
end

section
set_option maxHeartbeats 4000000
/-! Vx 23: the box of a law: the script's numbers and a seed. -/
namespace Vx
open PySem L2
/-- the seed of a script -/
def seedF (s : Int) (n : Int) : Int := (s * 31 + n + 17) % 2147483647
def seedOf (ns : List Int) : Int := ns.foldl seedF 0
theorem seed_lt {s n : Int} : 0 ≤ seedF s n ∧ seedF s n < 2147483647 := by
  unfold seedF
  omega
theorem seed_small : ∀ {ns : List Int} {s : Int}, 0 ≤ s → s < 2147483647 → 0 ≤ ns.foldl seedF s ∧ ns.foldl seedF s < 2147483647
  | [], s, h1, h2 => ⟨h1, h2⟩
  | n :: ns, s, _, _ => seed_small (ns := ns) (s := seedF s n) seed_lt.1 seed_lt.2
def boxN : List Str := ["_law_script", "_law_seed", "_law_cell"]
def spBox (K : PySem.W.Frag) : Sp := fun vs H Q _ => ∃ (a : Addr) (ns : List Int), vs = [.ref a] ∧ ns.length ≤ 63 ∧ SqL K H a (ns.map V.int) ∧
  ∀ q p H', Same H H' → H q = none → H p = none → q ≠ p → H' p = some (.lst [.ref q, .int 0, .int 0, .int 0, .int (seedOf ns)]) → H' q = some (.lst (ns.map V.int)) → Q (.ref p) H'
theorem cut63 {ns : List Int} (h : ns.length ≤ 63) : cutV (ns.map V.int) none (some 63) = ns.map V.int := by
  unfold cutV
  have e1 : HT.sIx (ns.map V.int).length 0 none = 0 := rfl
  have e2 : HT.sIx (ns.map V.int).length (ns.map V.int).length (some 63) = min 63 (ns.map V.int).length := HT.sIx_nat _ _ 63
  rw [e1, e2, List.drop_zero, List.length_map, Nat.min_eq_right h, Nat.sub_zero]
  rw [← List.length_map (f := V.int), List.take_length]
theorem sql_up {K : PySem.W.Frag} {H H' : Hp} {a : Addr} {xs : List V} (s : Same H H') (h : SqL K H a xs) : SqL K H' a xs := by
  rcases h with h | h
  · refine .inl ?_
    rcases h with h | ⟨o, h⟩
    · exact .inl (s _ _ h)
    · exact .inr ⟨o, s _ _ h⟩
  · exact .inr h
theorem same_upd {H : Hp} {p : Addr} {u : HO} (h : H p = none) : Same H (upd H p u) := fun b o e => by
  by_cases hb : b = p
  · subst hb
    rw [h] at e
    cases e
  · rw [upd_ne hb]
    exact e
section
variable {P : Program} {w : World} {K : PySem.W.Frag} {mg : Str → Option Value} {base : Heap} {fa : Addr} {fd : FuncData} {params : Arguments} {scope : Scope}
theorem box_ok {p1 p2 p3 p4 p5 p6 p7 p8 p9 p10 p11 p12 p13 p14 p15 p16 p17 p18 p19 p20 p21 p22 p23 p24 p25 p26 p27 p28 p29 p30 p31 p32 : Pos} {j1 j2 j3 j4 j5 j6 j7 j8 j9 : Nat}
    (F : FunD K "_law_box" "_law_box" params [
      .Assign [.Name "_law_seed" p1] (.Constant (.int 0) j1 p2) p3,
      .For (.Name "_law_cell" p4) (.Subscript (.Name "_law_script" p5) (.Slice none (some (.Constant (.int 63) j2 p6)) none p7) p8) [
        .Assign [.Name "_law_seed" p9] (.BinOp (.BinOp (.BinOp (.BinOp (.Name "_law_seed" p10) .Mult (.Constant (.int 31) j3 p11) p12) .Add (.Name "_law_cell" p13) p14) .Add (.Constant (.int 17) j4 p15) p16) .Mod (.Constant (.int 2147483647) j5 p17) p18) p19] [] p20,
      .Return (some (.List [.Call (.Name "list" p21) [.Subscript (.Name "_law_script" p22) (.Slice none (some (.Constant (.int 63) j6 p23)) none p24) p25] [] p26, .Constant (.int 0) j7 p27, .Constant (.int 0) j8 p28, .Constant (.int 0) j9 p29, .Name "_law_seed" p30] p31)) p32] scope [] [] fa fd)
    (S : FnScope boxN ["_law_script"] scope) (l1 : scope.names.lookup ("_law_script" : Str) = some .local) (l2 : scope.names.lookup ("_law_seed" : Str) = some .local) (l3 : scope.names.lookup ("_law_cell" : Str) = some .local) (l4 : scope.names.lookup ("list" : Str) = some .globalImplicit)
    (hm : mg "list" = none) : FnOk P w K mg base (L2.CX P w) 1 fa fd ["_law_script"] (spBox K) := by
  refine F.ok S (fun vs H Q E h => ?_) fun cdv A outer s H vs Q E hr h => ?_
  · obtain ⟨a, ns, rfl, _⟩ := h
    rfl
  have v0 : Vis scope ("_law_script" : Str) := .inl l1
  have v1 : Vis scope ("_law_seed" : Str) := .inl l2
  have v2 : Vis scope ("_law_cell" : Str) := .inl l3
  have S' : boxN.Nodup := S.nd
  have x0 : ∀ p : Pos, PE (cxOf (L2.CX P w) P w K mg base boxN "_law_box" scope fa cdv A outer s H E) (.Name ("_law_script" : Str) p) (tVar 0) := fun p => pe_var (i := 0) rfl v0
  have x1 : ∀ p : Pos, PE (cxOf (L2.CX P w) P w K mg base boxN "_law_box" scope fa cdv A outer s H E) (.Name ("_law_seed" : Str) p) (tVar 1) := fun p => pe_var (i := 1) rfl v1
  have x2 : ∀ p : Pos, PE (cxOf (L2.CX P w) P w K mg base boxN "_law_box" scope fa cdv A outer s H E) (.Name ("_law_cell" : Str) p) (tVar 2) := fun p => pe_var (i := 2) rfl v2
  have sl0 : ∀ (p q r p' : Pos) (j : Nat), PE (cxOf (L2.CX P w) P w K mg base boxN "_law_box" scope fa cdv A outer s H E) (.Subscript (.Name ("_law_script" : Str) p) (.Slice none (some (.Constant (.int 63) j q)) none r) p') (tSl (rSlL K) (tVar 0) tNoPart (tPart (tC (.int 63)))) := fun p q r p' j => pe_slice sl_list (x0 p) po_none (po_some pe_int)
  have s1 : PS (cxOf (L2.CX P w) P w K mg base boxN "_law_box" scope fa cdv A outer s H E) (.Assign [.Name "_law_seed" p1] (.Constant (.int 0) j1 p2) p3) (tAsg (tC (.int 0)) (gName 1)) := ps_set (i := 1) S' rfl (.inl l2) pe_int (by rfl) (.inr l2)
  have s2 : PS (cxOf (L2.CX P w) P w K mg base boxN "_law_box" scope fa cdv A outer s H E) (.Assign [.Name "_law_seed" p9] (.BinOp (.BinOp (.BinOp (.BinOp (.Name "_law_seed" p10) .Mult (.Constant (.int 31) j3 p11) p12) .Add (.Name "_law_cell" p13) p14) .Add (.Constant (.int 17) j4 p15) p16) .Mod (.Constant (.int 2147483647) j5 p17) p18) p19) _ := ps_set (i := 1) S' rfl (.inl l2) (pe_op op_mod (pe_op op_add (pe_op op_add (pe_op op_mul (x1 p10) pe_int) (x2 p13)) pe_int) pe_int) (by rfl) (.inr l2)
  have s3 : PE (cxOf (L2.CX P w) P w K mg base boxN "_law_box" scope fa cdv A outer s H E) (.Call (.Name "list" p21) [.Subscript (.Name "_law_script" p22) (.Slice none (some (.Constant (.int 63) j6 p23)) none p24) p25] [] p26) _ := pe_callTy call_list_of l4 hm (by decide +kernel) (pa_cons (sl0 p22 p23 p24 p25 j6) pa_nil)
  have lp : PG (cxOf (L2.CX P w) P w K mg base boxN "_law_box" scope fa cdv A outer s H E) (.Name "_law_cell" p4) (gName 2) := pg_name (i := 2) S' rfl (.inl l3) (.inr l3)
  refine ⟨_, pss_cons s1 (pss_cons (ps_for (passes_of rfl) rfl (pi_list (sl0 p5 p6 p7 p8 j2)) lp (pss_one s2)) (pss_one (ps_ret (pe_lst (pa_cons s3 (pa_cons pe_int (pa_cons pe_int (pa_cons pe_int (pa_cons (x1 p30) pa_nil))))))))), ?_⟩
  obtain ⟨a, ns, rfl, hl, hS, hQ⟩ := h
  -- the slice walked
  refine ⟨.ref a, rfl, _, rfl, a, ns.map V.int, rfl, hS, fun s1 hs1 => ?_⟩
  rw [cut63 hl]
  refine ⟨s1, rfl, ⟨ns.map V.int, .inl (.inl (upd_same))⟩, ?_⟩
  have sm1 : Same H (upd H s1 (.lst (ns.map V.int))) := same_upd hs1
  refine for_it (L2.walk_list (K := K) (a := s1) (xs := ns.map V.int)) (fun i σ H' => H' = upd H s1 (.lst (ns.map V.int)) ∧ σ.length = 3 ∧ σ[0]? = some (some (.ref a)) ∧ σ[1]? = some (some (.int ((ns.take i).foldl seedF 0)))) ?_ ?_ ?_ ?_
  · exact ⟨rfl, rfl, rfl, rfl⟩
  · rintro i σ H' _ ⟨rfl, _, _, _⟩
    exact .inl (.inl (upd_same))
  · rintro i x σ H1 H' hi ⟨rfl, e0, e1, e2⟩ ⟨rfl, ex⟩
    rw [List.length_map] at hi
    rw [List.getElem?_map, List.getElem?_eq_getElem hi] at ex
    have ex := Option.some.inj ex
    subst ex
    have q := seed_small (ns := ns.take i) (s := 0) (by omega) (by omega)
    have g1 : (σ.set 2 (some (.int ns[i])))[1]? = some (some (.int ((ns.take i).foldl seedF 0))) := by
      rw [List.getElem?_set_ne (by omega)]
      exact e2
    have g2 : (σ.set 2 (some (.int ns[i])))[2]? = some (some (.int ns[i])) := List.getElem?_set_self (by omega)
    refine ⟨_, g1, _, _, rfl, rfl, .inl (by constructor <;> omega), _, g2, _, _, rfl, rfl, _, _, rfl, rfl, _, _, rfl, rfl, by omega, rfl, by simp [e0], ?_, ?_⟩
    · rw [List.getElem?_set_ne (by omega), List.getElem?_set_ne (by omega)]
      exact e1
    · rw [List.getElem?_set_self (by simp [e0])]
      rw [List.take_add_one, List.getElem?_eq_getElem hi, List.foldl_append]
      rfl
  · rintro σ H1 ⟨rfl, e0, e1, e2⟩
    rw [List.length_map, List.take_length] at e2
    refine ⟨.ref a, e1, _, rfl, a, ns.map V.int, rfl, sql_up sm1 hS, fun s2 hs2 => ?_⟩
    rw [cut63 hl]
    refine ⟨s2, ns.map V.int, rfl, .inl (.inl (.inl (upd_same))), fun q hq => ?_⟩
    refine ⟨_, e2, by show (5 : Nat) ≤ sizeLine; decide, fun p hp => ?_⟩
    have sm2 := same_upd (u := HO.lst (ns.map V.int)) hs2
    have sm3 := same_upd (u := HO.lst (ns.map V.int)) hq
    have sm4 := same_upd (u := HO.lst [.ref q, .int 0, .int 0, .int 0, .int (seedOf ns)]) hp
    have n1 : ∀ {b : Addr}, upd (upd H s1 (.lst (ns.map V.int))) s2 (.lst (ns.map V.int)) b = none → H b = none := fun {b} hb => by
      cases e : H b with
      | none => rfl
      | some o =>
        rw [sm2 _ _ (sm1 _ _ e)] at hb
        cases hb
    have nqp : q ≠ p := fun z => by
      subst z
      rw [upd_same] at hp
      cases hp
    refine hQ q p _ (((sm1.trans sm2).trans sm3).trans sm4) (n1 hq) (n1 (by
      rw [upd_ne (Ne.symm nqp)] at hp
      exact hp)) nqp upd_same (sm4 _ _ upd_same)
end
end Vx
end

section
set_option maxHeartbeats 4000000
/-! Vx 24: a law's def. -/
namespace Vx
open PySem L2
def intsA (ns : List Int) : List A := ns.map fun i => .fl (.int i) (.int i)
def boxA (p q : Addr) (ns : List Int) : A := .nd p 0 .lst [.nd q 0 .lst (intsA ns), .fl (.int 0) (.int 0), .fl (.int 0) (.int 0), .fl (.int 0) (.int 0), .fl (.int (seedOf ns)) (.int (seedOf ns))]
def boxW (ls : List Int) (at' left turn seed : Int) : W := .nd .lst [.nd .lst (ls.map fun i => .fl (.int i)), .fl (.int at'), .fl (.int left), .fl (.int turn), .fl (.int seed)]
theorem intsA_objs (c : Gx) : ∀ ns : List Int, objsL c (intsA ns) = []
  | [] => rfl
  | n :: ns => by
    show ([] : List (Addr × HO)) ++ objsL c (intsA ns) = []
    rw [intsA_objs c ns]
    rfl
theorem intsA_vals : ∀ ns : List Int, vals (intsA ns) = ns.map V.int
  | [] => rfl
  | n :: ns => by
    show V.int n :: vals (intsA ns) = _
    rw [intsA_vals ns]
    rfl
theorem intsA_ok (c : Gx) (B : Hp) : ∀ ns : List Int, okL c B (intsA ns)
  | [] => trivial
  | n :: ns => ⟨rfl, intsA_ok c B ns⟩
theorem boxA_er {p q : Addr} {ns : List Int} : (boxA p q ns).er = boxW ns 0 0 0 (seedOf ns) := by
  unfold boxA boxW
  rw [A.er_nd]
  simp only [List.map_cons, List.map_nil, A.er_nd]
  have e : (intsA ns).map A.er = ns.map fun i => W.fl (.int i) := by
    unfold intsA
    rw [List.map_map]
    rfl
  rw [e]
  rfl
theorem boxA_objs {c : Gx} {p q : Addr} {ns : List Int} : objsL c [boxA p q ns] = [(p, .lst [.ref q, .int 0, .int 0, .int 0, .int (seedOf ns)]), (q, .lst (ns.map V.int))] := by
  show ((p, HO.lst [.ref q, .int 0, .int 0, .int 0, .int (seedOf ns)]) :: ([] ++ (((q, HO.lst (vals (intsA ns))) :: ([] ++ objsL c (intsA ns))) ++ ([] ++ ([] ++ ([] ++ ([] ++ []))))))) ++ [] = _
  rw [intsA_objs, intsA_vals]
  rfl
def spLaw (K : PySem.W.Frag) : Sp := fun vs H Q _ => ∃ (a : Addr) (ns : List Int), vs = [.ref a] ∧ ns.length ≤ 63 ∧ SqL K H a (ns.map V.int) ∧ ∀ H', Q (.bl true) H'
section
variable {c : Gx} {Γ : Den} {P : Program} {w : World} {K : PySem.W.Frag} {mg : Str → Option Value} {base : Heap}
theorem law_ok {x qual : Str} {params : Arguments} {rest : List Stmt} {scope : Scope} {fa : Addr} {fd : FuncData} {N : List Str} {lv : Nat} {b : List S} {k : Ck} {p1 p2 p3 p4 p5 : Pos}
    (F : FunD K x qual params (.Assign [.Name "_law_box_here" p1] (.Call (.Name "_law_box" p2) [.Name "_law_script" p3] [] p4) p5 :: rest) scope [] [] fa fd) (Sc : FnScope N ["_law_script"] scope)
    (hK : K = c.K) (hfree : ∀ x ∈ bNames, mg x = none) (hcons : ∀ p ∈ k.cons, ∃ u, mg p.1 = some u ∧ RelV p.2.v u) (hfns : ∀ f ∈ k.fns, FT c Γ P w K mg base lv f) (hN : k.N = N) (hs : k.sc = scope) (hchk : S.chks b k rest = true)
    {ab : Addr} {fb : FuncData} (FB : FnOk P w K mg base (L2.CX P w) 1 ab fb ["_law_script"] (spBox K)) (hmb : mg "_law_box" = some (.ref ab)) (hkb : PySem.W.keepIn K (.ref ab) = true) (hbb : Binds K fb ["_law_script"] []) (h1 : 1 ≤ lv)
    (n0 : N[0]? = some ("_law_script" : Str)) (n1 : N[1]? = some ("_law_box_here" : Str)) (l0 : scope.names.lookup ("_law_script" : Str) = some .local) (l1 : scope.names.lookup ("_law_box_here" : Str) = some .local) (l2 : scope.names.lookup ("_law_box" : Str) = some .globalImplicit)
    (hden : ∀ ns : List Int, ns.length ≤ 63 → ∃ r, S.sems Γ b (none :: some (boxW ns 0 0 0 (seedOf ns)) :: List.replicate (N.length - 2) none) = .rt (.fl (.bl true)) r) : FnOk P w K mg base (L2.CX P w) (lv + 1) fa fd ["_law_script"] (spLaw K) := by
  refine F.ok Sc (fun vs H Q E h => ?_) fun cdv Ao outer s H vs Q E hr h => ?_
  · obtain ⟨a, ns, rfl, _⟩ := h
    rfl
  obtain ⟨X, hX⟩ : ∃ X, X = cxOf (L2.CX P w) P w K mg base N qual scope fa cdv Ao outer s H E := ⟨_, rfl⟩
  have xt : XT c Γ k (cxOf (L2.CX P w) P w K mg base N qual scope fa cdv Ao outer s H E) (fun cls d _ H' => E cls d H') := {
    ok := ⟨hN.symm, by rw [hN]; exact Sc.nd, hs.symm, rfl, hK, hr.mono (Nat.zero_le _), hfree, fun _ _ => rfl⟩
    tk := takes_of (X := cxOf (L2.CX P w) P w K mg base N qual scope fa cdv Ao outer s H E) rfl rfl rfl rfl
    fns := fun f hf => by
      obtain ⟨a, fd, ps, h1, h2, h3, h4, h5⟩ := hfns f hf
      exact ⟨a, fd, ps, lv, h1, h2, hr, h3, h4, h5⟩
    cons := hcons
    own := passes_of rfl }
  obtain ⟨t, pt, kt⟩ := S.snds b xt hchk
  have x0 : PE (cxOf (L2.CX P w) P w K mg base N qual scope fa cdv Ao outer s H E) (.Name ("_law_script" : Str) p3) (tVar 0) := pe_var (i := 0) n0 (.inl l0)
  have cl : PE (cxOf (L2.CX P w) P w K mg base N qual scope fa cdv Ao outer s H E) (.Call (.Name "_law_box" p2) [.Name "_law_script" p3] [] p4) (tCall (spBox K) [] E0 (tCons (tVar 0) tNil)) := pe_call FB (hr.mono h1) l2 hmb hkb hbb .nil passL (pa_cons x0 pa_nil)
  refine ⟨_, pss_cons (ps_set (i := 1) Sc.nd n1 (.inl l1) cl (by rfl) (.inr l1)) pt, ?_⟩
  obtain ⟨a, ns, rfl, hl, hS, hQ⟩ := h
  have len : 2 ≤ N.length := by
    have := (List.getElem?_eq_some_iff.mp n1).1
    omega
  obtain ⟨m, hm⟩ : ∃ m, N.length = m + 2 := ⟨N.length - 2, by omega⟩
  have es : L2.start N [V.ref a] = some (.ref a) :: none :: List.replicate m none := by
    unfold L2.start
    rw [hm]
    show some (V.ref a) :: List.replicate (m + 2 - 1) none = _
    rw [show m + 2 - 1 = m + 1 by omega, List.replicate_succ]
  rw [es]
  refine ⟨.ref a, rfl, a, ns, rfl, hl, hS, fun q p H' sm hq hp nqp e1 e2 => ?_⟩
  obtain ⟨r, hr2⟩ := hden ns hl
  rw [show N.length - 2 = m by omega] at hr2
  have g : G c ⟨H, fun _ => none, []⟩ (fun _ => none) H' (live (none :: some (boxA p q ns) :: List.replicate m none) ++ []) := by
    have el : live (none :: some (boxA p q ns) :: List.replicate m none) ++ [] = [boxA p q ns] := by
      have e := live_app (xs := [boxA p q ns]) (k := m)
      rw [List.append_nil]
      exact e
    rw [el]
    refine { b0 := Same.refl _, sub := fun b o e => (by cases e), hold := fun z hz => ?_, nd := ?_, lf := fun z hz => ?_, fr := fun b o e _ => sm b o e, nw := fun b hb => ?_ }
    · rw [boxA_objs] at hz
      rcases List.mem_cons.mp hz with z1 | z1
      · rw [z1]
        exact ⟨e1, rfl⟩
      · rcases List.mem_cons.mp z1 with z1 | z1
        · rw [z1]
          exact ⟨e2, rfl⟩
        · cases z1
    · rw [boxA_objs]
      show [p, q].Nodup
      simp [Ne.symm nqp]
    · rcases List.mem_cons.mp hz with z1 | z1
      · rw [z1]
        exact ⟨trivial, ⟨trivial, intsA_ok c _ ns⟩, rfl, rfl, rfl, rfl, trivial⟩
      · cases z1
    · rcases hb with hb | hb
      · exact (hb rfl).elim
      · rw [boxA_objs] at hb
        have hb' : b ∈ [p, q] := hb
        rcases List.mem_cons.mp hb' with z1 | z1
        · rw [z1]
          exact .inr (.inl hp)
        · rcases List.mem_cons.mp z1 with z1 | z1
          · rw [z1]
            exact .inr (.inl hq)
          · cases z1
  have sr : SR (some (V.ref a) :: some (V.ref p) :: List.replicate m none) (none :: some (boxA p q ns) :: List.replicate m none) := by
    refine ⟨by simp, fun i y e => ?_⟩
    match i with
    | 0 => cases e
    | 1 =>
      have e : some (some (boxA p q ns)) = some (some y) := e
      have e := Option.some.inj (Option.some.inj e)
      rw [← e]
      rfl
    | i + 2 =>
      have e : (List.replicate m (none : Option A))[i]? = some (some y) := e
      have := List.eq_of_mem_replicate (List.mem_of_getElem? e)
      cases this
  refine kt _ (some (V.ref a) :: some (V.ref p) :: List.replicate m none) (none :: some (boxA p q ns) :: List.replicate m none) (fun _ => none) H' [] _ g sr ?_
  have ee : ers (none :: some (boxA p q ns) :: List.replicate m none) = none :: some (boxW ns 0 0 0 (seedOf ns)) :: List.replicate m none := by
    show none :: some (boxA p q ns).er :: ers (List.replicate m none) = _
    rw [boxA_er]
    unfold ers
    rw [List.map_replicate]
    rfl
  rw [ee, hr2]
  intro σ2 as2 x2 B2 H2 sx ex er
  have : x2.val = .bl true := by
    have r := sx.gd.lf x2 (List.mem_append_right _ List.mem_cons_self)
    cases x2 with
    | fl v d =>
      have e2 : d = .bl true := W.fl.inj ex
      subst e2
      exact r
    | nd a dx k cs =>
      rw [A.er_nd] at ex
      cases ex
  show Q x2.val H2
  rw [this]
  exact hQ H2
/-- a def that lets nothing out, whatever is wished -/
theorem to0 {k : Nat} {f : Addr} {fd : FuncData} {ps : List Str} {sp : Sp} (F : FnOk P w K mg base (L2.CX P w) k f fd ps sp) (h : ∀ vs H Q E, sp vs H Q E → sp vs H Q E0) : FnOk P w K mg base CX0 k f fd ps sp :=
  ⟨F.len, fun A outer s H args us vs Q E hr he hb hv hs => codeAny_mono (F.run A outer s H args us vs Q E0 hr he hb hv (h _ _ _ _ hs)) fun r s' c => by
    cases r with
    | ok fl => cases fl <;> exact c
    | error e =>
      obtain ⟨_, _, _, _, _, _, _, _, _, _, _, _, z⟩ := (show L2.CX P w outer H s E0 e s' from c)
      exact z.elim⟩
theorem law0 {k : Nat} {f : Addr} {fd : FuncData} {ps : List Str} (F : FnOk P w K mg base (L2.CX P w) k f fd ps (spLaw K)) : FnOk P w K mg base CX0 k f fd ps (spLaw K) := to0 F fun _ _ _ _ h => h
end
end Vx
end

section
set_option maxHeartbeats 4000000
/-! Vx 25: the evaluator, step by step (for simp). -/
namespace Vx
open PySem L2
@[simp] theorem res_bind_ok {α β : Type} (a : α) (f : α → Res β) : (Res.ok a).bind f = f a := rfl
@[simp] theorem res_bind_bad {α β : Type} (f : α → Res β) : (Res.bad : Res α).bind f = .bad := rfl
@[simp] theorem res_of_some {α : Type} (a : α) : Res.of (some a) = .ok a := rfl
@[simp] theorem res_of_none {α : Type} : Res.of (none : Option α) = .bad := rfl
section
variable (Γ : Den) (r : Env)
@[simp] theorem ev_rd (p : Pl) : E.sem Γ (.rd p) r = (p.sem Γ r).bind fun x => Res.of (readAt x.2 x.1) := rfl
@[simp] theorem ev_gt (p : Pl) : E.sem Γ (.gt p) r = (p.sem Γ r).bind fun x => match eget x.2 x.1 with
    | some (.fl d) => .ok (.fl d, x.2)
    | _ => .bad := rfl
@[simp] theorem ev_mv (i : Nat) : E.sem Γ (.mv i) r = (match r[i]? with
    | some (some w) => .ok (w, r.set i none)
    | _ => .bad) := rfl
@[simp] theorem ev_con (d : D) : E.sem Γ (.con d) r = if d.flat then .ok (.fl d, r) else .bad := rfl
@[simp] theorem ev_op (o : Rop) (xs : List O) : E.sem Γ (.op o xs) r = (O.sems Γ xs r).bind fun x => Res.of (((x.1.mapM (Rv.val x.2)).bind o.run).map fun w => (w.fzT, x.2)) := rfl
@[simp] theorem ev_ixT (a b : E) : E.sem Γ (.ixT a b) r = (a.sem Γ r).bind fun x => (b.sem Γ x.2).bind fun i => Res.of ((kids1 x.1 i.1).map fun w => (w, i.2)) := rfl
@[simp] theorem ev_lst (es : List E) : E.sem Γ (.lst es) r = (E.sems Γ es r).bind fun x => if small x.1.length then .ok (.nd .lst x.1, x.2) else .bad := rfl
@[simp] theorem ev_tup (es : List E) : E.sem Γ (.tup es) r = (E.sems Γ es r).bind fun x => if small x.1.length then .ok (mkT x.1, x.2) else .bad := rfl
@[simp] theorem ev_fz (e : E) : E.sem Γ (.fz e) r = (e.sem Γ r).bind fun x => .ok (.fl x.1.dat, x.2) := rfl
@[simp] theorem ev_call (f : Nat) (xs : List Ar) : E.sem Γ (.call f xs) r = (Ar.sems Γ xs r).bind fun x => match takeIo x.1 x.2 with
    | some (ws, r2) => match Γ f ws with
      | .ok w us => Res.of ((putIo x.1 us r2).map fun r3 => (w, r3))
      | .ex c p us => match putIo x.1 us r2 with
        | some r3 => .ex c p r3
        | none => .bad
      | .bad => .bad
    | none => .bad := rfl
@[simp] theorem ev_call0 (f : Nat) : E.sem Γ (.call0 f) r = (match Γ f [] with
    | .ok w [] => .ok (w, r)
    | _ => .bad) := rfl
@[simp] theorem ev_ite (c a b : E) : E.sem Γ (.ite c a b) r = ((c.sem Γ r).bind bool?).bind fun x => if x.1 then a.sem Γ x.2 else b.sem Γ x.2 := rfl
@[simp] theorem ev_and (a b : E) : E.sem Γ (.and a b) r = ((a.sem Γ r).bind bool?).bind fun x => if x.1 then b.sem Γ x.2 else .ok (.fl (.bl false), x.2) := rfl
@[simp] theorem ev_or (a b : E) : E.sem Γ (.or a b) r = ((a.sem Γ r).bind bool?).bind fun x => if x.1 then .ok (.fl (.bl true), x.2) else b.sem Γ x.2 := rfl
@[simp] theorem ev_not (a : E) : E.sem Γ (.not a) r = ((a.sem Γ r).bind bool?).bind fun x => .ok (.fl (.bl (!x.1)), x.2) := rfl
@[simp] theorem ev_lc0 (own : List (Str × Nat)) (g : Tg) (it : It) (e : E) : E.sem Γ (.lc own g it none e) r = (It.sem Γ it r).bind fun x => (lcFold g.bind (fun r => Res.ok (true, r)) (E.sem Γ e) (own.map (·.2)) x.1 [] (wipeE x.2 (own.map (·.2)))).bind fun y => .ok (.nd .lst y.1, y.2) := by rw [lc_none]
@[simp] theorem ev_lc1 (own : List (Str × Nat)) (g : Tg) (it : It) (d e : E) : E.sem Γ (.lc own g it (some d) e) r = (It.sem Γ it r).bind fun x => (lcFold g.bind (fun r => (E.sem Γ d r).bind bool?) (E.sem Γ e) (own.map (·.2)) x.1 [] (wipeE x.2 (own.map (·.2)))).bind fun y => .ok (.nd .lst y.1, y.2) := by rw [lc_some]
@[simp] theorem evs_nil : E.sems Γ [] r = .ok ([], r) := rfl
@[simp] theorem evs_cons (e : E) (es : List E) : E.sems Γ (e :: es) r = (e.sem Γ r).bind fun x => (E.sems Γ es x.2).bind fun y => .ok (x.1 :: y.1, y.2) := rfl
@[simp] theorem ov_tm (e : E) : O.sem Γ (.tm e) r = (e.sem Γ r).bind fun x => .ok (.t x.1, x.2) := rfl
@[simp] theorem ov_bo (p : Pl) : O.sem Γ (.bo p) r = (p.sem Γ r).bind fun x => .ok (.p x.1, x.2) := rfl
@[simp] theorem ovs_nil : O.sems Γ [] r = .ok ([], r) := rfl
@[simp] theorem ovs_cons (e : O) (es : List O) : O.sems Γ (e :: es) r = (e.sem Γ r).bind fun x => (O.sems Γ es x.2).bind fun y => .ok (x.1 :: y.1, y.2) := rfl
@[simp] theorem ar_nil : Ar.sems Γ [] r = .ok ([], r) := rfl
@[simp] theorem ar_va (e : E) (es : List Ar) : Ar.sems Γ (.va e :: es) r = (e.sem Γ r).bind fun x => (Ar.sems Γ es x.2).bind fun y => .ok (.inl x.1 :: y.1, y.2) := rfl
@[simp] theorem ar_io (i : Nat) (es : List Ar) : Ar.sems Γ (.io i :: es) r = (match r[i]? with
    | some (some _) => (Ar.sems Γ es r).bind fun y => .ok (.inr i :: y.1, y.2)
    | _ => .bad) := rfl
@[simp] theorem pl_sl (i : Nat) : Pl.sem Γ (.sl i) r = (match r[i]? with
    | some (some _) => .ok ((i, []), r)
    | _ => .bad) := rfl
@[simp] theorem pl_ix (p : Pl) (e : E) : Pl.sem Γ (.ix p e) r = (p.sem Γ r).bind fun x => (e.sem Γ x.2).bind fun i => Res.of (((eget i.2 x.1).bind fun w => stepIx w i.1).map fun j => ((x.1.1, x.1.2 ++ [j]), i.2)) := rfl
@[simp] theorem it_sq (o : O) : It.sem Γ (.sq o) r = (O.sem Γ o r).bind fun x => Res.of (((x.1.val x.2).bind W.lstD).map fun ds => (ds.map .fl, x.2)) := rfl
@[simp] theorem it_r1 (e : E) : It.sem Γ (.r1 e) r = (e.sem Γ r).bind fun x => match x.1 with
    | .fl (.int n) => if within n then .ok (rangeW 0 n, x.2) else .bad
    | _ => .bad := rfl
@[simp] theorem it_en (o : O) : It.sem Γ (.en o) r = (O.sem Γ o r).bind fun x => Res.of (((x.1.val x.2).bind W.lstD).map fun ds => (enumW 0 ds, x.2)) := rfl
@[simp] theorem it_zp (a b : O) : It.sem Γ (.zp a b) r = (O.sem Γ a r).bind fun x => (O.sem Γ b x.2).bind fun y => match (x.1.val y.2).bind W.lstD, (y.1.val y.2).bind W.lstD with
    | some ds, some es => .ok (zipW ds es, y.2)
    | _, _ => .bad := rfl
@[simp] theorem st_asg (i : Nat) (e : E) : S.sem Γ (.asg i e) r = (e.sem Γ r).out fun x => if i < x.2.length then .nx (x.2.set i (some x.1)) else .bad := rfl
@[simp] theorem st_asgC (i : Nat) (e : E) : S.sem Γ (.asgC i e) r = (e.sem Γ r).out fun x => if i < x.2.length then .nx (x.2.set i (some x.1)) else .bad := rfl
@[simp] theorem st_unp (g : Tg) (e : E) : S.sem Γ (.unp g e) r = (e.sem Γ r).out fun x => match g.bind x.1 x.2 with
    | some r2 => .nx r2
    | none => .bad := rfl
@[simp] theorem st_seti (p : Pl) (i e : E) : S.sem Γ (.seti p i e) r = (e.sem Γ r).out fun x => (p.sem Γ x.2).out fun q => (i.sem Γ q.2).out fun k => match (eget k.2 q.1).bind fun y => stepIx y k.1 with
    | some j => match onL k.2 q.1 fun cs => some (cs.set j x.1) with
      | some r4 => .nx r4
      | none => .bad
    | none => .bad := rfl
@[simp] theorem st_app (p : Pl) (e : E) : S.sem Γ (.app p e) r = (p.sem Γ r).out fun q => if isL q.2 q.1 then (e.sem Γ q.2).out fun x => match onL x.2 q.1 fun cs => some (cs ++ [x.1]) with
    | some r3 => .nx r3
    | none => .bad
    else .bad := rfl
@[simp] theorem st_iff (c : E) (a b : List S) : S.sem Γ (.iff c a b) r = ((c.sem Γ r).bind bool?).out fun x => if x.1 then S.sems Γ a x.2 else S.sems Γ b x.2 := rfl
@[simp] theorem st_for (g : Tg) (it : It) (b : List S) : S.sem Γ (.forr g it b) r = (it.sem Γ r).out fun x => forFold g.bind (S.sems Γ b) x.1 x.2 := rfl
@[simp] theorem st_ret (e : E) : S.sem Γ (.ret e) r = (e.sem Γ r).out fun x => .rt x.1 x.2 := rfl
@[simp] theorem st_retN : S.sem Γ .retN r = .rt (.fl .non) r := rfl
@[simp] theorem sts_nil : S.sems Γ [] r = .nx r := rfl
@[simp] theorem sts_cons (s : S) (ss : List S) : S.sems Γ (s :: ss) r = (s.sem Γ r).andThen (S.sems Γ ss) := rfl
end
@[simp] theorem wget_nil (w : W) : w.get [] = some w := W.get_nil
@[simp] theorem wget_nd (k : Kd) (cs : List W) (j : Nat) (p : List Nat) : (W.nd k cs).get (j :: p) = (cs[j]?).bind fun y => y.get p := rfl
@[simp] theorem wget_fl (d : D) (j : Nat) (p : List Nat) : (W.fl d).get (j :: p) = (d.get (j :: p)).map .fl := rfl
@[simp] theorem dget_nil (d : D) : d.get [] = some d := D.get_nil
@[simp] theorem dget_nd (k : Kd) (cs : List D) (j : Nat) (p : List Nat) : (D.nd k cs).get (j :: p) = (cs[j]?).bind fun y => y.get p := rfl
@[simp] theorem rval_t (r : Env) (w : W) : Rv.val r (.t w) = some (.fl w.dat) := rfl
@[simp] theorem rval_p (r : Env) (q : Nat × List Nat) : Rv.val r (.p q) = eget r q := rfl
@[simp] theorem bool_bl (b : Bool) (r : Env) : bool? (.fl (.bl b), r) = .ok (b, r) := rfl
theorem small64_of {i : Int} (h1 : -(2 ^ 64) < i) (h2 : i < 2 ^ 64) : small64 i = true := decide_eq_true ⟨h1, h2⟩
theorem for_nx {bind : W → Env → Option Env} {body : Env → Out} {w : W} {ws : List W} {r r1 r2 : Env} (h1 : bind w r = some r1) (h2 : body r1 = .nx r2) : forFold bind body (w :: ws) r = forFold bind body ws r2 := by
  rw [forFold, h1]
  dsimp only
  rw [h2]
theorem for_nil {bind : W → Env → Option Env} {body : Env → Out} {r : Env} : forFold bind body [] r = .nx r := rfl
theorem lc_yes {bind : W → Env → Option Env} {elt : Env → Res (W × Env)} {own : List Nat} {w x : W} {ws acc : List W} {r r1 r2 : Env} (h1 : bind w r = some r1) (h2 : elt r1 = .ok (x, r2)) (h3 : small acc.length = true) :
    lcFold bind (fun r => Res.ok (true, r)) elt own (w :: ws) acc r = lcFold bind (fun r => Res.ok (true, r)) elt own ws (acc ++ [x]) (wipeE r2 own) := by
  rw [lcFold, h1]
  show (elt r1).noEx.bind _ = _
  rw [h2]
  show (if small acc.length then _ else _) = _
  rw [h3]
  rfl
theorem lc_end {bind : W → Env → Option Env} {test : Env → Res (Bool × Env)} {elt : Env → Res (W × Env)} {own : List Nat} {acc : List W} {r : Env} : lcFold bind test elt own [] acc r = .ok (acc, r) := rfl
end Vx
end

section
set_option maxHeartbeats 4000000
/-! Vx 26: plain laws of the operators. -/
namespace Vx
open PySem L2
theorem leD_total : PySem.W.TotalLe leD := by
  have h := PySem.W.sortLe_total (PyProof.Rows.listOrd PyProof.Rows.itemOrd) false (fun b : D => PySem.W.keyToks (py0 b))
  exact ⟨fun a b c => h.trans a b c, fun a b => h.total a b⟩
def tp2 (p : Int × Int) : D := .nd .tup [.int p.1, .int p.2]
theorem leD_ii (p q : Int × Int) : leD (tp2 p) (tp2 q) = decide (p.1 < q.1 ∨ (p.1 = q.1 ∧ p.2 ≤ q.2)) := by
  have e := congrFun (congrFun (PySem.W.dataLe_ii (β := Int × Int) (fun b => b.1) (fun b => b.2)) p) q
  rw [← e]
  rfl
theorem leD_int (p q : Int) : leD (.int p) (.int q) = decide (p ≤ q) := by
  have e := congrFun (congrFun (PySem.W.dataLe_int (β := Int) (fun b => b)) p) q
  rw [← e]
  rfl
theorem sort_ints (ns : List Int) : (ns.map D.int).mergeSort leD = (ns.mergeSort fun a b => decide (a ≤ b)).map D.int := by
  rw [← List.map_mergeSort (r := fun a b : Int => decide (a ≤ b)) (s := leD) (f := D.int) (l := ns)]
  intro a _ b _
  exact (leD_int a b).symm
theorem sort_ii (ps : List (Int × Int)) : (ps.map tp2).mergeSort leD = (ps.mergeSort fun p q => decide (p.1 < q.1 ∨ (p.1 = q.1 ∧ p.2 ≤ q.2))).map tp2 := by
  rw [← List.map_mergeSort (r := fun p q : Int × Int => decide (p.1 < q.1 ∨ (p.1 = q.1 ∧ p.2 ≤ q.2))) (s := leD) (f := tp2) (l := ps)]
  intro a _ b _
  exact (leD_ii a b).symm
theorem pys_ints : ∀ ns : List Int, D.pys (ns.map D.int) = some (ns.map PyData.int)
  | [] => rfl
  | n :: ns => by
    show (match D.py (.int n), D.pys (ns.map D.int) with
      | some p, some q => some (p :: q)
      | _, _ => none) = _
    rw [pys_ints ns]
    rfl
theorem eqD_nil (ns : List Int) : eqD? (.nd .lst (ns.map D.int)) (.nd .lst []) = some ns.isEmpty := by
  have e1 : D.py (.nd .lst (ns.map D.int)) = some (.list (ns.map PyData.int)) := by
    show (D.pys (ns.map D.int)).map PyData.list = _
    rw [pys_ints]
    rfl
  have e2 : D.py (.nd .lst []) = some (.list []) := rfl
  unfold eqD?
  rw [e1, e2]
  have s1 : SeqAt.shaped (.list (ns.map PyData.int)) = true := PySem.W.ke_shaped_ints ns
  have s2 : SeqAt.shaped (.list []) = true := by decide
  simp only [s1, s2, Bool.and_self, if_true]
  cases ns with
  | nil => simp [PyData.eqv, PyData.eqvAll]
  | cons n ns => simp [PyData.eqv, PyData.eqvAll]
theorem eqD_self {d : D} {p : PyData} (h : d.py = some p) (hl : p.canLay0 = true) (hd : p.depth ≤ 64) : eqD? d d = some true := by
  unfold eqD?
  rw [h]
  have s1 : SeqAt.shaped p = true := by
    unfold SeqAt.shaped
    rw [hl]
    simpa using hd
  simp [s1, SeqAt.eqv_refl p hl]
theorem pys_ii : ∀ ps : List (Int × Int), D.pys (ps.map tp2) = some (ps.map fun p => PyData.tuple [.int p.1, .int p.2])
  | [] => rfl
  | n :: ns => by
    show (match D.py (tp2 n), D.pys (ns.map tp2) with
      | some p, some q => some (p :: q)
      | _, _ => none) = _
    rw [pys_ii ns]
    rfl
theorem lay_ii : ∀ ps : List (Int × Int), PyData.canLayAll0 (ps.map fun p => PyData.tuple [.int p.1, .int p.2]) = true ∧ PyData.depthAll (ps.map fun p => PyData.tuple [.int p.1, .int p.2]) ≤ 10
  | [] => by constructor <;> simp [PyData.canLayAll0, PyData.depthAll]
  | n :: ns => by
    obtain ⟨h1, h2⟩ := lay_ii ns
    constructor
    · simp [PyData.canLayAll0, PyData.canLay0, h1]
    · simp only [List.map_cons, PyData.depthAll, PyData.depth]
      omega
theorem eqD_ii (ps : List (Int × Int)) : eqD? (.nd .lst (ps.map tp2)) (.nd .lst (ps.map tp2)) = some true := by
  obtain ⟨h1, h2⟩ := lay_ii ps
  refine eqD_self (p := .list (ps.map fun p => PyData.tuple [.int p.1, .int p.2])) ?_ (by simp [PyData.canLay0, h1]) (by simp only [PyData.depth]; omega)
  show (D.pys (ps.map tp2)).map PyData.list = _
  rw [pys_ii]
  rfl
theorem canSort_ii (ps : List (Int × Int)) : canSort (ps.map tp2) = true := by
  unfold canSort
  have a1 : ∀ p : Int × Int, (tp2 p).py = some (.tuple [.int p.1, .int p.2]) := fun p => rfl
  have a2 : ∀ p q : Int × Int, PySem.W.alike (py0 (tp2 p)) (py0 (tp2 q)) = true := fun p q => by
    simp [py0, a1, PySem.W.alike, PySem.W.alikeAll]
  simp [List.all_map, Function.comp_def, a1, a2, tp2, py0, PyData.depth, PyData.depthAll, PySem.W.alike, PySem.W.alikeAll, D.py, D.pys]
theorem canSort_ints (ns : List Int) : canSort (ns.map D.int) = true := by
  unfold canSort
  simp [List.all_map, Function.comp_def, py0, PyData.depth, PySem.W.alike, D.py]
theorem lstD_newL (ds : List D) : (newL ds).lstD = some ds := by
  obtain ⟨a1, a2⟩ := map_fl ds
  have e : (newL ds).shal = some (.lst, ds) := by
    show (if (ds.map W.fl).all W.isFl then some (Kd.lst, (ds.map W.fl).map W.unfl) else none) = _
    rw [a1, a2]
    rfl
  show (match (newL ds).shal with
    | some (.lst, ds) => some ds
    | _ => none) = _
  rw [e]
theorem lstD_fl (ds : List D) : (W.fl (.nd .lst ds)).lstD = some ds := rfl
end Vx
end

section
set_option maxHeartbeats 4000000
namespace K16
open PySem L2 Vx
def holdS (is : List Nat) (s : S) : S := .hold is s.mods [s]
def top (i : Nat) : Stmt := PySem.Challenge.pw_vitrine_k16_whole_fewest_settings.main.body.getD i (.Pass ⟨0, 0, 0, 0⟩)
def N_settings : List Str := ["ranges", "order", "found", "shown", "high", "at", "pair"]
def b_settings : List S := [.asg 1 (.op .sorted [(.tm (.lc [("at", 5), ("pair", 6)] (.tp [(.nm 5), (.nm 6)]) (.en (.bo (.sl 0))) none (.tup [(.gt (.ix (.sl 6) (.con (.int 1)))), (.gt (.sl 5))])))]),
.asg 2 (.lst []),
.asg 3 (.lst []),
.forr (.tp [(.nm 4), (.nm 5)]) (.sq (.bo (.sl 1)))
[.iff (.or (.op .eqD [(.bo (.sl 2)), (.tm (.lst []))]) (.op .gt [(.bo (.ix (.ix (.sl 0) (.gt (.sl 5))) (.con (.int 0)))), (.bo (.ix (.sl 2) (.op .neg [(.tm (.con (.int 1)))])))]))
[.app (.sl 2) (.gt (.sl 4)),
.app (.sl 3) (.gt (.sl 5))]
[]],
.ret (.tup [(.mv 2), (.op .sorted [(.bo (.sl 3))])])]
def N_law_take : List Str := ["_law_box_here", "_law_size", "_law_left", "_law_cell"]
def b_law_take : List S := [.seti (.sl 0) (.con (.int 3)) (.op .add [(.bo (.ix (.sl 0) (.con (.int 3)))), (.tm (.con (.int 1)))]),
.iff (.op .gt [(.bo (.ix (.sl 0) (.con (.int 2)))), (.tm (.con (.int 0)))])
[.asg 2 (.gt (.ix (.sl 0) (.con (.int 2)))),
.seti (.sl 0) (.con (.int 2)) (.op .fdiv [(.bo (.sl 2)), (.bo (.sl 1))]),
.ret (.op .mod [(.bo (.sl 2)), (.bo (.sl 1))])]
[],
.iff (.op .ge [(.bo (.ix (.sl 0) (.con (.int 1)))), (.tm (.op .len [(.bo (.ix (.sl 0) (.con (.int 0))))]))])
[.ret (.op .mod [(.tm (.call 3 [(.va (.gt (.ix (.sl 0) (.con (.int 4))))), (.va (.gt (.ix (.sl 0) (.con (.int 3)))))])), (.bo (.sl 1))])]
[],
.asg 3 (.gt (.ix (.ix (.sl 0) (.con (.int 0))) (.gt (.ix (.sl 0) (.con (.int 1)))))),
.seti (.sl 0) (.con (.int 1)) (.op .add [(.bo (.ix (.sl 0) (.con (.int 1)))), (.tm (.con (.int 1)))]),
.iff (.op .lt [(.bo (.sl 3)), (.tm (.op .pow [(.tm (.con (.int 10))), (.tm (.con (.int 18)))]))])
[.ret (.op .mod [(.tm (.call 3 [(.va (.gt (.sl 3))), (.va (.gt (.ix (.sl 0) (.con (.int 3)))))])), (.bo (.sl 1))])]
[],
.seti (.sl 0) (.con (.int 2)) (.op .fdiv [(.bo (.sl 3)), (.bo (.sl 1))]),
.ret (.op .mod [(.bo (.sl 3)), (.bo (.sl 1))])]
def N_law_mixed : List Str := ["_law_number", "_law_turn", "_law_one", "_law_two"]
def b_law_mixed : List S := [.asg 2 (.op .mod [(.tm (.op .add [(.tm (.op .add [(.tm (.op .mul [(.bo (.sl 0)), (.tm (.con (.int 48271)))])), (.tm (.op .mul [(.bo (.sl 1)), (.tm (.con (.int 69621)))]))])), (.tm (.con (.int 12345)))])), (.tm (.con (.int 2147483647)))]),
.asg 3 (.op .mod [(.tm (.op .add [(.tm (.op .add [(.tm (.op .mul [(.bo (.sl 2)), (.tm (.op .add [(.tm (.op .mod [(.bo (.sl 2)), (.tm (.con (.int 65521)))])), (.tm (.con (.int 7)))]))])), (.tm (.op .mul [(.bo (.sl 1)), (.tm (.con (.int 40692)))]))])), (.tm (.op .mod [(.bo (.sl 0)), (.tm (.con (.int 104729)))]))])), (.tm (.con (.int 998244353)))]),
.ret (.op .fdiv [(.bo (.sl 3)), (.tm (.con (.int 7)))])]
def N_law_whole : List Str := ["_law_found"]
def b_law_whole : List S := [.ret (.and (.op (.isI "int") [(.bo (.sl 0))]) (.not (.op (.isI "bool") [(.bo (.sl 0))])))]
def N_law_wholes : List Str := ["_law_found", "_law_one"]
def b_law_wholes : List S := [.ret (.and (.op (.isI "list") [(.bo (.sl 0))]) (.op .allB [(.tm (.lc [("_law_one", 1)] (.nm 1) (.sq (.bo (.sl 0))) none (.call 4 [(.va (.gt (.sl 1)))])))]))]
def N_law_count : List Str := ["_law_box_here", "_law_few", "_law_most"]
def b_law_count : List S := [.iff (.op .eqF [(.tm (.call 2 [(.io 0), (.va (.con (.int 8)))])), (.tm (.con (.int 0)))])
[.ret (.call 2 [(.io 0), (.va (.op .add [(.bo (.sl 2)), (.tm (.con (.int 1)))]))])]
[],
.ret (.call 2 [(.io 0), (.va (.op .add [(.bo (.sl 1)), (.tm (.con (.int 1)))]))])]
def N_law_ranges : List Str := ["_law_box_here", "_law_size", "_law_found", "_law_k", "_law_low", "_law_high", "_law_other"]
def b_law_ranges : List S := [.asg 2 (.lst []),
.forr (.nm 3) (.r1 (.gt (.sl 1)))
[.asg 4 (.call 2 [(.io 0), (.va (.con (.int 101)))]),
.asg 5 (.op .min2 [(.tm (.con (.int 100))), (.tm (.op .add [(.bo (.sl 4)), (.tm (.ixT (.lst [(.con (.int 0)), (.call 2 [(.io 0), (.va (.con (.int 10)))]), (.call 2 [(.io 0), (.va (.con (.int 101)))])]) (.call 2 [(.io 0), (.va (.con (.int 3)))])))]))]),
.iff (.op .eqF [(.tm (.call 2 [(.io 0), (.va (.con (.int 8)))])), (.tm (.con (.int 0)))])
[.asg 5 (.con (.int 100))]
[],
.iff (.and (.op .gt [(.tm (.op .len [(.bo (.sl 2))])), (.tm (.con (.int 0)))]) (.op .eqF [(.tm (.call 2 [(.io 0), (.va (.con (.int 4)))])), (.tm (.con (.int 0)))]))
[.asg 6 (.gt (.ix (.sl 2) (.call 2 [(.io 0), (.va (.op .len [(.bo (.sl 2))]))]))),
.asg 4 (.op .min2 [(.tm (.con (.int 100))), (.tm (.op .add [(.bo (.ix (.sl 6) (.con (.int 1)))), (.tm (.call 2 [(.io 0), (.va (.con (.int 2)))]))]))]),
.asg 5 (.op .max2 [(.bo (.sl 4)), (.bo (.sl 5))])]
[],
.app (.sl 2) (.tup [(.gt (.sl 4)), (.gt (.sl 5))])],
.ret (.mv 2)]
def N_law_meet : List Str := ["_law_one", "_law_other"]
def b_law_meet : List S := [.ret (.op .le [(.tm (.op .max2 [(.bo (.ix (.sl 0) (.con (.int 0)))), (.bo (.ix (.sl 1) (.con (.int 0))))])), (.tm (.op .min2 [(.bo (.ix (.sl 0) (.con (.int 1)))), (.bo (.ix (.sl 1) (.con (.int 1))))]))])]
def N_law : List Str := ["_law_script", "_law_box_here", "_law_ranges_here", "_law_handed", "_law_turn", "_law_found", "_law_damps", "_law_shown", "_law_row", "_law_low", "_law_high", "_law_at", "_law_one", "_law_other", "_law_damp"]
def b_law : List S := [.asg 2 (.call 7 [(.io 1), (.va (.call 6 [(.io 1), (.va (.con (.int 12))), (.va (.con (.int 40)))]))]),
.asg 3 (.op .listOf [(.bo (.sl 2))]),
.forr (.nm 4) (.r1 (.con (.int 2)))
[.asg 5 (.call 0 [(.va (.rd (.sl 3)))]),
.iff (.or (.not (.op (.isI "tuple") [(.bo (.sl 5))])) (.or (.op .neF [(.tm (.op .len [(.bo (.sl 5))])), (.tm (.con (.int 2)))]) (.op .neD [(.bo (.sl 3)), (.bo (.sl 2))])))
[.ret (.con (.bl false))]
[],
.unp (.tp [(.nm 6), (.nm 7)]) (.mv 5),
holdS [6, 7] (.iff (.or (.not (.call 5 [(.va (.gt (.sl 6)))])) (.or (.not (.call 5 [(.va (.gt (.sl 7)))])) (.op .neF [(.tm (.op .len [(.bo (.sl 6))])), (.tm (.op .len [(.bo (.sl 7))]))])))
[.ret (.con (.bl false))]
[]),
holdS [6, 7] (.forr (.nm 8) (.sq (.tm (.lst [(.gt (.sl 6)), (.gt (.sl 7))])))
[.iff (.not (.op .allB [(.tm (.lc [("_law_one", 12), ("_law_other", 13)] (.tp [(.nm 12), (.nm 13)]) (.zp (.bo (.sl 8)) (.tm (.op (.slice true false) [(.bo (.sl 8)), (.tm (.con (.int 1)))]))) none (.op .lt [(.bo (.sl 12)), (.bo (.sl 13))])))]))
[.ret (.con (.bl false))]
[]]),
.iff (.not (.op .allB [(.tm (.lc [("_law_at", 11)] (.nm 11) (.sq (.bo (.sl 7))) none (.and (.op .le [(.tm (.con (.int 0))), (.bo (.sl 11))]) (.op .lt [(.bo (.sl 11)), (.tm (.op .len [(.bo (.sl 2))]))]))))]))
[.ret (.con (.bl false))]
[],
.forr (.tp [(.nm 9), (.nm 10)]) (.sq (.bo (.sl 2)))
[.iff (.not (.op .anyB [(.tm (.lc [("_law_damp", 14)] (.nm 14) (.sq (.bo (.sl 6))) none (.and (.op .le [(.bo (.sl 9)), (.bo (.sl 14))]) (.op .le [(.bo (.sl 14)), (.bo (.sl 10))]))))]))
[.ret (.con (.bl false))]
[]],
.forr (.nm 11) (.sq (.bo (.sl 7)))
[.iff (.op .anyB [(.tm (.lc [("_law_other", 13)] (.nm 13) (.sq (.bo (.sl 7))) none (.and (.op .neF [(.bo (.sl 13)), (.bo (.sl 11))]) (.call 8 [(.va (.gt (.ix (.sl 2) (.gt (.sl 11))))), (.va (.gt (.ix (.sl 2) (.gt (.sl 13)))))]))))])
[.ret (.con (.bl false))]
[]],
.app (.sl 6) (.con (.int 200)),
.app (.sl 7) (.con (.int 0))],
.ret (.con (.bl true))]

def fns : List Fn := [⟨"settings", 0, [], 1⟩, ⟨"_law_take", 2, [0], 2⟩, ⟨"_law_mixed", 3, [], 2⟩, ⟨"_law_whole", 4, [], 1⟩, ⟨"_law_wholes", 5, [], 1⟩, ⟨"_law_count", 6, [0], 3⟩, ⟨"_law_ranges", 7, [0], 2⟩, ⟨"_law_meet", 8, [], 2⟩]
def k_settings : Ck := ⟨N_settings, defScope (top 1), fns, [], true⟩
theorem chk_settings : S.chks b_settings k_settings (defBody (top 1)) = true := by decide +kernel
def k_law_take : Ck := ⟨N_law_take, defScope (top 4), fns, [], true⟩
theorem chk_law_take : S.chks b_law_take k_law_take (defBody (top 4)) = true := by decide +kernel
def k_law_mixed : Ck := ⟨N_law_mixed, defScope (top 5), fns, [], true⟩
theorem chk_law_mixed : S.chks b_law_mixed k_law_mixed (defBody (top 5)) = true := by decide +kernel
def k_law_whole : Ck := ⟨N_law_whole, defScope (top 6), fns, [], true⟩
theorem chk_law_whole : S.chks b_law_whole k_law_whole (defBody (top 6)) = true := by decide +kernel
def k_law_wholes : Ck := ⟨N_law_wholes, defScope (top 7), fns, [], true⟩
theorem chk_law_wholes : S.chks b_law_wholes k_law_wholes (defBody (top 7)) = true := by decide +kernel
def k_law_count : Ck := ⟨N_law_count, defScope (top 8), fns, [], true⟩
theorem chk_law_count : S.chks b_law_count k_law_count (defBody (top 8)) = true := by decide +kernel
def k_law_ranges : Ck := ⟨N_law_ranges, defScope (top 9), fns, [], true⟩
theorem chk_law_ranges : S.chks b_law_ranges k_law_ranges (defBody (top 9)) = true := by decide +kernel
def k_law_meet : Ck := ⟨N_law_meet, defScope (top 10), fns, [], true⟩
theorem chk_law_meet : S.chks b_law_meet k_law_meet (defBody (top 10)) = true := by decide +kernel
def k_law : Ck := ⟨N_law, defScope (top 11), fns, [], true⟩
theorem chk_law : S.chks b_law k_law ((defBody (top 11)).tail) = true := by decide +kernel
end K16
end

section
set_option maxHeartbeats 1000000
namespace K16
open PySem L2 Vx
def Dn : Nat → Den
  | 0 => fun _ _ => .bad
  | n + 1 => fun f ws => match f with
    | 0 => runF (Dn n) 7 [] b_settings ws
    | 2 => runF (Dn n) 4 [0] b_law_take ws
    | 3 => runF (Dn n) 4 [] b_law_mixed ws
    | 4 => runF (Dn n) 1 [] b_law_whole ws
    | 5 => runF (Dn n) 2 [] b_law_wholes ws
    | 6 => runF (Dn n) 3 [0] b_law_count ws
    | 7 => runF (Dn n) 7 [0] b_law_ranges ws
    | 8 => runF (Dn n) 2 [] b_law_meet ws
    | _ => .bad
def m1 (n t : Int) : Int := (n * 48271 + t * 69621 + 12345) % 2147483647
def mixed (n t : Int) : Int := (m1 n t * (m1 n t % 65521 + 7) + t * 40692 + n % 104729) % 998244353 / 7
theorem s64 {i : Int} (h1 : -(2 ^ 64) < i) (h2 : i < 2 ^ 64) : small64 i = true := decide_eq_true ⟨h1, h2⟩
theorem mixed_eq (m : Nat) (n t : Int) : Dn (m + 1) 3 [.fl (.int n), .fl (.int t)] = .ok (.fl (.int (mixed n t))) [] := by
  have a1 : small64 48271 = true := by decide
  have a2 : small64 69621 = true := by decide
  have a3 : small64 40692 = true := by decide
  have a4 : small64 ((n * 48271 + t * 69621 + 12345) % 2147483647) = true := s64 (by omega) (by omega)
  show runF (Dn m) 4 [] b_law_mixed _ = _
  simp [runF, b_law_mixed, eget, Rop.run, on2I, pI, Vx.W.dat, Vx.W.fzT, D.flat, a1, a2, a3, a4, ioBack, mixed, m1, Res.out]
structure Bx where
  ls : List Int
  p : Nat
  left : Int
  turn : Int
  seed : Int
def Bx.w (b : Bx) : W := boxW b.ls b.p b.left b.turn b.seed
def take (b : Bx) (z : Int) : Int × Bx :=
  if 0 < b.left then (b.left % z, { b with left := b.left / z, turn := b.turn + 1 })
  else if h : b.p < b.ls.length then
    (if b.ls[b.p] < 10 ^ 18 then (mixed b.ls[b.p] (b.turn + 1) % z, { b with p := b.p + 1, turn := b.turn + 1 })
    else (b.ls[b.p] % z, { b with p := b.p + 1, left := b.ls[b.p] / z, turn := b.turn + 1 }))
  else (mixed b.seed (b.turn + 1) % z, { b with turn := b.turn + 1 })
theorem take_eq (m : Nat) (b : Bx) (z : Int) (h1 : 0 < z) (h2 : z < 1073741824) (hl : b.ls.length ≤ 63) : Dn (m + 2) 2 [b.w, .fl (.int z)] = .ok (.fl (.int (take b z).1)) [(take b z).2.w] := by
  obtain ⟨ls, p, left, turn, seed⟩ := b
  have mx := mixed_eq m
  show runF (Dn (m + 1)) 4 [0] b_law_take _ = _
  by_cases c1 : 0 < left
  · simp [runF, b_law_take, eget, Rop.run, on2I, on1, on2, pI, pB, Vx.W.dat, Vx.W.fzT, D.flat, ioBack, Bx.w, boxW, stepIx, Vx.W.kids, ixN, onL, Vx.W.sub, small, Vx.W.setAt, Vx.W.put, Vx.W.lenD, mx, take, c1, h1, h2, W.isFl]
  · by_cases c2 : p < ls.length
    · have c3 : ¬ (ls.length ≤ p) := by omega
      by_cases c4 : ls[p] < 1000000000000000000
      · simp [runF, b_law_take, eget, Rop.run, on2I, on1, on2, pI, pB, Vx.W.dat, Vx.W.fzT, D.flat, ioBack, Bx.w, boxW, stepIx, Vx.W.kids, ixN, onL, Vx.W.sub, small, Vx.W.setAt, Vx.W.put, Vx.W.lenD, mx, take, c1, c2, c3, c4, h1, h2, W.isFl, takeIo, putIo]
      · simp [runF, b_law_take, eget, Rop.run, on2I, on1, on2, pI, pB, Vx.W.dat, Vx.W.fzT, D.flat, ioBack, Bx.w, boxW, stepIx, Vx.W.kids, ixN, onL, Vx.W.sub, small, Vx.W.setAt, Vx.W.put, Vx.W.lenD, mx, take, c1, c2, c3, c4, h1, h2, W.isFl, takeIo, putIo]
    · have c3 : ls.length ≤ p := by omega
      simp [runF, b_law_take, eget, Rop.run, on2I, on1, on2, pI, pB, Vx.W.dat, Vx.W.fzT, D.flat, ioBack, Bx.w, boxW, stepIx, Vx.W.kids, ixN, onL, Vx.W.sub, small, Vx.W.setAt, Vx.W.put, Vx.W.lenD, mx, take, c1, c2, c3, h1, h2, W.isFl, takeIo, putIo]
end K16
end

section
set_option maxHeartbeats 1000000
namespace K16
open PySem L2 Vx
theorem take_ex (m : Nat) (b : Bx) (z : Int) (h1 : 0 < z) (h2 : z < 1073741824) (hl : b.ls.length ≤ 63) : ∃ (v : Int) (b' : Bx), 0 ≤ v ∧ v < z ∧ b'.ls.length ≤ 63 ∧ Dn (m + 2) 2 [b.w, .fl (.int z)] = .ok (.fl (.int v)) [b'.w] := by
  refine ⟨_, _, ?_, ?_, ?_, take_eq m b z h1 h2 hl⟩
  · unfold take
    split
    · exact Int.emod_nonneg _ (by omega)
    · split
      · split <;> exact Int.emod_nonneg _ (by omega)
      · exact Int.emod_nonneg _ (by omega)
  · unfold take
    split
    · exact Int.emod_lt_of_pos _ h1
    · split
      · split <;> exact Int.emod_lt_of_pos _ h1
      · exact Int.emod_lt_of_pos _ h1
  · unfold take
    split
    · exact hl
    · split
      · split <;> exact hl
      · exact hl
@[simp] theorem bx_fl (b : Bx) : b.w.isFl = false := rfl
theorem count_ex (m : Nat) (b : Bx) (few most : Int) (h1 : 0 ≤ few) (h2 : few < 1000) (h3 : 0 ≤ most) (h4 : most < 1000) (hl : b.ls.length ≤ 63) : ∃ (v : Int) (b' : Bx), 0 ≤ v ∧ v ≤ 1000 ∧ b'.ls.length ≤ 63 ∧ Dn (m + 3) 6 [b.w, .fl (.int few), .fl (.int most)] = .ok (.fl (.int v)) [b'.w] := by
  obtain ⟨v1, b1, q1, q2, q3, e1⟩ := take_ex m b 8 (by omega) (by omega) hl
  obtain ⟨v2, b2, r1, r2, r3, e2⟩ := take_ex m b1 (most + 1) (by omega) (by omega) q3
  obtain ⟨v3, b3, s1, s2, s3, e3⟩ := take_ex m b1 (few + 1) (by omega) (by omega) q3
  by_cases c : v1 = 0
  · refine ⟨v2, b2, r1, by omega, r3, ?_⟩
    show runF (Dn (m + 2)) 3 [0] b_law_count _ = _
    simp [runF, b_law_count, eget, Rop.run, on2I, on1, on2, pI, pB, Vx.W.dat, Vx.W.fzT, D.flat, ioBack, takeIo, putIo, e1, e2, c, eqF?, Vx.W.flat?, scal, D.v]
  · refine ⟨v3, b3, s1, by omega, s3, ?_⟩
    show runF (Dn (m + 2)) 3 [0] b_law_count _ = _
    simp [runF, b_law_count, eget, Rop.run, on2I, on1, on2, pI, pB, Vx.W.dat, Vx.W.fzT, D.flat, ioBack, takeIo, putIo, e1, e3, c, eqF?, Vx.W.flat?, scal, D.v]
def pw (p : Int × Int) : W := .fl (.nd .tup [.int p.1, .int p.2])
def rsW (rs : List (Int × Int)) : W := .nd .lst (rs.map pw)
def bodyR : List S := match b_law_ranges with
  | [_, .forr _ _ b, _] => b
  | _ => []
theorem round (m : Nat) (b : Bx) (size : Int) (rs : List (Int × Int)) (x3 : Option W) (x4 x5 x6 : Option W) (hl : b.ls.length ≤ 63) (hr : rs.length < 1001) (hp : ∀ p ∈ rs, p.1 ≤ p.2) :
    ∃ (b' : Bx) (l h : Int) (y6 : Option W), b'.ls.length ≤ 63 ∧ l ≤ h ∧ S.sems (Dn (m + 2)) bodyR [some b.w, some (.fl (.int size)), some (rsW rs), x3, x4, x5, x6] = .nx [some b'.w, some (.fl (.int size)), some (rsW (rs ++ [(l, h)])), x3, some (.fl (.int l)), some (.fl (.int h)), y6] := by
  obtain ⟨v1, b1, q1, q2, q3, e1⟩ := take_ex m b 101 (by omega) (by omega) hl
  obtain ⟨v2, b2, r1, r2, r3, e2⟩ := take_ex m b1 10 (by omega) (by omega) q3
  obtain ⟨v3, b3, s1, s2, s3, e3⟩ := take_ex m b2 101 (by omega) (by omega) r3
  obtain ⟨v4, b4, t1, t2, t3, e4⟩ := take_ex m b3 3 (by omega) (by omega) s3
  obtain ⟨v5, b5, u1, u2, u3, e5⟩ := take_ex m b4 8 (by omega) (by omega) t3
  have st2 : ∃ hi, v1 ≤ hi ∧ S.sem (Dn (m + 2)) (.asg 5 (.op .min2 [(.tm (.con (.int 100))), (.tm (.op .add [(.bo (.sl 4)), (.tm (.ixT (.lst [(.con (.int 0)), (.call 2 [(.io 0), (.va (.con (.int 10)))]), (.call 2 [(.io 0), (.va (.con (.int 101)))])]) (.call 2 [(.io 0), (.va (.con (.int 3)))])))]))]))
      [some b1.w, some (.fl (.int size)), some (rsW rs), x3, some (.fl (.int v1)), x5, x6] = .nx [some b4.w, some (.fl (.int size)), some (rsW rs), x3, some (.fl (.int v1)), some (.fl (.int hi)), x6] := by
    have c : v4 = 0 ∨ v4 = 1 ∨ v4 = 2 := by omega
    rcases c with c | c | c
    · refine ⟨if v1 + 0 < 100 then v1 + 0 else 100, by split <;> omega, ?_⟩
      simp [eget, Rop.run, on2I, on1, on2, pI, pB, Vx.W.dat, Vx.W.fzT, D.flat, takeIo, putIo, e1, e2, e3, e4, c, kids1, stepIx, Vx.W.kids, ixN, small]
    · refine ⟨if v1 + v2 < 100 then v1 + v2 else 100, by split <;> omega, ?_⟩
      simp [eget, Rop.run, on2I, on1, on2, pI, pB, Vx.W.dat, Vx.W.fzT, D.flat, takeIo, putIo, e1, e2, e3, e4, c, kids1, stepIx, Vx.W.kids, ixN, small]
    · refine ⟨if v1 + v3 < 100 then v1 + v3 else 100, by split <;> omega, ?_⟩
      simp [eget, Rop.run, on2I, on1, on2, pI, pB, Vx.W.dat, Vx.W.fzT, D.flat, takeIo, putIo, e1, e2, e3, e4, c, kids1, stepIx, Vx.W.kids, ixN, small]
  obtain ⟨hi, k1, st2⟩ := st2
  have st3 : ∃ hi2, v1 ≤ hi2 ∧ S.sem (Dn (m + 2)) (.iff (.op .eqF [(.tm (.call 2 [(.io 0), (.va (.con (.int 8)))])), (.tm (.con (.int 0)))]) [.asg 5 (.con (.int 100))] [])
      [some b4.w, some (.fl (.int size)), some (rsW rs), x3, some (.fl (.int v1)), some (.fl (.int hi)), x6] = .nx [some b5.w, some (.fl (.int size)), some (rsW rs), x3, some (.fl (.int v1)), some (.fl (.int hi2)), x6] := by
    by_cases c : v5 = 0
    · refine ⟨100, by omega, ?_⟩
      simp [eget, Rop.run, on2I, on1, on2, pI, pB, Vx.W.dat, Vx.W.fzT, D.flat, takeIo, putIo, e5, c, eqF?, Vx.W.flat?, scal, D.v]
    · refine ⟨hi, k1, ?_⟩
      simp [eget, Rop.run, on2I, on1, on2, pI, pB, Vx.W.dat, Vx.W.fzT, D.flat, takeIo, putIo, e5, c, eqF?, Vx.W.flat?, scal, D.v]
  obtain ⟨hi2, k2, st3⟩ := st3
  have st4 : ∃ (b' : Bx) (l h : Int) (y6 : Option W), b'.ls.length ≤ 63 ∧ l ≤ h ∧ S.sem (Dn (m + 2)) (.iff (.and (.op .gt [(.tm (.op .len [(.bo (.sl 2))])), (.tm (.con (.int 0)))]) (.op .eqF [(.tm (.call 2 [(.io 0), (.va (.con (.int 4)))])), (.tm (.con (.int 0)))]))
      [.asg 6 (.gt (.ix (.sl 2) (.call 2 [(.io 0), (.va (.op .len [(.bo (.sl 2))]))]))), .asg 4 (.op .min2 [(.tm (.con (.int 100))), (.tm (.op .add [(.bo (.ix (.sl 6) (.con (.int 1)))), (.tm (.call 2 [(.io 0), (.va (.con (.int 2)))]))]))]), .asg 5 (.op .max2 [(.bo (.sl 4)), (.bo (.sl 5))])] [])
      [some b5.w, some (.fl (.int size)), some (rsW rs), x3, some (.fl (.int v1)), some (.fl (.int hi2)), x6] = .nx [some b'.w, some (.fl (.int size)), some (rsW rs), x3, some (.fl (.int l)), some (.fl (.int h)), y6] := by
    by_cases c0 : rs = []
    · refine ⟨b5, v1, hi2, x6, u3, k2, ?_⟩
      subst c0
      simp [eget, Rop.run, on2I, on1, on2, pI, pB, Vx.W.dat, Vx.W.fzT, D.flat, takeIo, putIo, rsW, Vx.W.lenD]
    · obtain ⟨v6, b6, w1, w2, w3, e6⟩ := take_ex m b5 4 (by omega) (by omega) u3
      have hpos : 0 < rs.length := List.length_pos_iff.mpr c0
      by_cases c : v6 = 0
      · obtain ⟨v7, b7, y1, y2, y3, e7⟩ := take_ex m b6 rs.length (by omega) (by omega) w3
        obtain ⟨v8, b8, z1, z2, z3, e8⟩ := take_ex m b7 2 (by omega) (by omega) y3
        have hv : v7.toNat < rs.length := by omega
        refine ⟨b8, if rs[v7.toNat].2 + v8 < 100 then rs[v7.toNat].2 + v8 else 100, if hi2 > (if rs[v7.toNat].2 + v8 < 100 then rs[v7.toNat].2 + v8 else 100) then hi2 else (if rs[v7.toNat].2 + v8 < 100 then rs[v7.toNat].2 + v8 else 100), some (pw rs[v7.toNat]), z3, by split <;> omega, ?_⟩
        simp [eget, Rop.run, on2I, on1, on2, pI, pB, Vx.W.dat, Vx.W.fzT, D.flat, takeIo, putIo, rsW, Vx.W.lenD, hpos, e6, c, eqF?, Vx.W.flat?, scal, D.v, e7, e8, stepIx, Vx.W.kids, ixN, y1, y2, hv, pw]
      · refine ⟨b6, v1, hi2, x6, w3, k2, ?_⟩
        simp [eget, Rop.run, on2I, on1, on2, pI, pB, Vx.W.dat, Vx.W.fzT, D.flat, takeIo, putIo, rsW, Vx.W.lenD, hpos, e6, c, eqF?, Vx.W.flat?, scal, D.v]
  obtain ⟨b', l, h, y6, j1, j2, st4⟩ := st4
  have st1 : S.sem (Dn (m + 2)) (.asg 4 (.call 2 [(.io 0), (.va (.con (.int 101)))])) [some b.w, some (.fl (.int size)), some (rsW rs), x3, x4, x5, x6] = .nx [some b1.w, some (.fl (.int size)), some (rsW rs), x3, some (.fl (.int v1)), x5, x6] := by
    simp [eget, D.flat, takeIo, putIo, e1]
  have st5 : S.sem (Dn (m + 2)) (.app (.sl 2) (.tup [(.gt (.sl 4)), (.gt (.sl 5))])) [some b'.w, some (.fl (.int size)), some (rsW rs), x3, some (.fl (.int l)), some (.fl (.int h)), y6] = .nx [some b'.w, some (.fl (.int size)), some (rsW (rs ++ [(l, h)])), x3, some (.fl (.int l)), some (.fl (.int h)), y6] := by
    have hle : rs.length + 1 ≤ 100000 := by omega
    simp [eget, D.flat, isL, onL, rsW, small, mkT, W.isFl, W.unfl, pw, Vx.W.sub, Vx.W.setAt, Vx.W.put, hle]
  refine ⟨b', l, h, y6, j1, j2, ?_⟩
  show S.sems (Dn (m + 2)) [_, _, _, _, _] _ = _
  rw [sts_cons, st1, Out.then_nx, sts_cons, st2, Out.then_nx, sts_cons, st3, Out.then_nx, sts_cons, st4, Out.then_nx, sts_cons, st5, Out.then_nx, sts_nil]
theorem rounds (m : Nat) (size : Int) : ∀ (ws : List W) (b : Bx) (rs : List (Int × Int)) (x3 x4 x5 x6 : Option W), b.ls.length ≤ 63 → rs.length + ws.length ≤ 1000 → (∀ p ∈ rs, p.1 ≤ p.2) →
    ∃ (b' : Bx) (rs' : List (Int × Int)) (y3 y4 y5 y6 : Option W), b'.ls.length ≤ 63 ∧ rs'.length = rs.length + ws.length ∧ (∀ p ∈ rs', p.1 ≤ p.2) ∧
      forFold (Tg.bind (.nm 3)) (S.sems (Dn (m + 2)) bodyR) ws [some b.w, some (.fl (.int size)), some (rsW rs), x3, x4, x5, x6] = .nx [some b'.w, some (.fl (.int size)), some (rsW rs'), y3, y4, y5, y6]
  | [], b, rs, x3, x4, x5, x6, hl, _, hp => ⟨b, rs, x3, x4, x5, x6, hl, rfl, hp, rfl⟩
  | w :: ws, b, rs, x3, x4, x5, x6, hl, hr, hp => by
    have hr' : rs.length + (ws.length + 1) ≤ 1000 := hr
    obtain ⟨b1, l, h, y6, j1, j2, e⟩ := round m b size rs (some w) x4 x5 x6 hl (by omega) hp
    obtain ⟨b', rs', z3, z4, z5, z6, k1, k2, k3, k4⟩ := rounds m size ws b1 (rs ++ [(l, h)]) (some w) (some (.fl (.int l))) (some (.fl (.int h))) y6 j1 (by simp; omega) (fun p hpm => by
      rcases List.mem_append.mp hpm with z | z
      · exact hp p z
      · rcases List.mem_cons.mp z with z | z
        · rw [z]
          exact j2
        · cases z)
    refine ⟨b', rs', z3, z4, z5, z6, k1, by rw [k2]; simp; omega, k3, ?_⟩
    have eb : Tg.bind (.nm 3) w [some b.w, some (.fl (.int size)), some (rsW rs), x3, x4, x5, x6] = some [some b.w, some (.fl (.int size)), some (rsW rs), some w, x4, x5, x6] := by simp [Tg.bind]
    rw [for_nx eb e]
    exact k4
theorem ranges_ex (m : Nat) (b : Bx) (size : Int) (h1 : 0 ≤ size) (h2 : size ≤ 1000) (hl : b.ls.length ≤ 63) : ∃ (b' : Bx) (rs : List (Int × Int)), (rs.length : Int) = size ∧ (∀ p ∈ rs, p.1 ≤ p.2) ∧ Dn (m + 3) 7 [b.w, .fl (.int size)] = .ok (rsW rs) [b'.w] := by
  have hw : within size = true := decide_eq_true (by omega)
  have hlen : (rangeW 0 size).length = size.toNat := by simp [rangeW]
  obtain ⟨b', rs, y3, y4, y5, y6, k1, k2, k3, k4⟩ := rounds m size (rangeW 0 size) b [] none none none none hl (by rw [hlen]; simp; omega) (fun p hp => by cases hp)
  refine ⟨b', rs, by rw [k2, hlen]; simp; omega, k3, ?_⟩
  show runF (Dn (m + 2)) 7 [0] b_law_ranges _ = _
  have e0 : S.sem (Dn (m + 2)) (.asg 2 (.lst [])) [some b.w, some (.fl (.int size)), none, none, none, none, none] = .nx [some b.w, some (.fl (.int size)), some (rsW []), none, none, none, none] := by
    simp [small, rsW]
  have e1 : S.sem (Dn (m + 2)) (.forr (.nm 3) (.r1 (.gt (.sl 1))) bodyR) [some b.w, some (.fl (.int size)), some (rsW []), none, none, none, none] = .nx [some b'.w, some (.fl (.int size)), some (rsW rs), y3, y4, y5, y6] := by
    rw [st_for]
    simp only [it_r1, ev_gt, pl_sl]
    simp only [List.getElem?_cons_succ, List.getElem?_cons_zero, res_bind_ok, eget, wget_nil, hw, Res.out_ok, if_true]
    exact k4
  have eb : b_law_ranges = [.asg 2 (.lst []), .forr (.nm 3) (.r1 (.gt (.sl 1))) bodyR, .ret (.mv 2)] := rfl
  unfold runF
  rw [eb]
  show (match S.sems (Dn (m + 2)) _ [some b.w, some (.fl (.int size)), none, none, none, none, none] with
    | .rt w r => _
    | .nx r => _
    | .ex c p r => _
    | _ => Rf.bad) = _
  rw [sts_cons, e0, Out.then_nx, sts_cons, e1, Out.then_nx]
  simp [ioBack, Res.out]
end K16
end

section
set_option maxHeartbeats 1000000
namespace K16
open PySem L2 Vx
def itF : Nat → List (Int × Int) → List (Int × Int)
  | _, [] => []
  | n, p :: rs => (p.2, (n : Int)) :: itF (n + 1) rs
def rsD (rs : List (Int × Int)) : W := .fl (.nd .lst (rs.map tp2))
theorem dats_fl : ∀ ds : List D, W.dats (ds.map W.fl) = ds
  | [] => rfl
  | d :: ds => by
    show d :: W.dats (ds.map W.fl) = d :: ds
    rw [dats_fl ds]
theorem dat_flm (ds : List D) : (W.nd .lst (ds.map W.fl)).dat = .nd .lst ds := by
  show D.nd .lst (W.dats (ds.map W.fl)) = _
  rw [dats_fl]
def eltS : E := .tup [(.gt (.ix (.sl 6) (.con (.int 1)))), (.gt (.sl 5))]
theorem lcS (Γ : Den) (x0 x1 x2 x3 x4 : Option W) : ∀ (rs : List (Int × Int)) (n : Nat) (acc : List W), acc.length + rs.length ≤ 1000 →
    lcFold (Tg.bind (.tp [.nm 5, .nm 6])) (fun r => Res.ok (true, r)) (E.sem Γ eltS) [5, 6] (enumW n (rs.map tp2)) acc [x0, x1, x2, x3, x4, none, none] = .ok (acc ++ (itF n rs).map fun p => W.fl (tp2 p), [x0, x1, x2, x3, x4, none, none])
  | [], n, acc, _ => by
    show Res.ok (acc, _) = _
    simp [itF]
  | p :: rs, n, acc, h => by
    have h' : acc.length + (rs.length + 1) ≤ 1000 := h
    have e1 : Tg.bind (.tp [.nm 5, .nm 6]) (.fl (.nd .tup [.int (n : Int), tp2 p])) [x0, x1, x2, x3, x4, none, none] = some [x0, x1, x2, x3, x4, some (.fl (.int n)), some (.fl (tp2 p))] := by
      simp [Tg.bind, Tg.binds, Vx.W.parts]
    have e2 : E.sem Γ eltS [x0, x1, x2, x3, x4, some (.fl (.int n)), some (.fl (tp2 p))] = .ok (.fl (tp2 (p.2, (n : Int))), [x0, x1, x2, x3, x4, some (.fl (.int n)), some (.fl (tp2 p))]) := by
      simp [eltS, eget, D.flat, stepIx, Vx.W.kids, ixN, tp2, mkT, small, W.isFl, W.unfl]
    have e3 : small acc.length = true := decide_eq_true (by omega)
    show lcFold _ _ _ _ (.fl (.nd .tup [.int (n : Int), tp2 p]) :: enumW (n + 1) (rs.map tp2)) acc _ = _
    rw [lc_yes e1 e2 e3]
    have e4 : wipeE [x0, x1, x2, x3, x4, some (.fl (.int n)), some (.fl (tp2 p))] [5, 6] = [x0, x1, x2, x3, x4, none, none] := by simp [wipeE]
    rw [e4, lcS Γ x0 x1 x2 x3 x4 rs (n + 1) _ (by simp; omega)]
    simp [itF]
theorem itF_len : ∀ (rs : List (Int × Int)) (n : Nat), (itF n rs).length = rs.length
  | [], _ => rfl
  | p :: rs, n => by simp [itF, itF_len rs]
theorem itF_mem : ∀ {rs : List (Int × Int)} {n : Nat} {q : Int × Int}, q ∈ itF n rs → ∃ j : Nat, q.2 = ((n + j : Nat) : Int) ∧ ∃ h : j < rs.length, rs[j].2 = q.1
  | [], _, _, h => by cases h
  | p :: rs, n, q, h => by
    rcases List.mem_cons.mp h with z | z
    · subst z
      exact ⟨0, by simp, by simp, by simp⟩
    · obtain ⟨j, h1, h2, h3⟩ := itF_mem z
      exact ⟨j + 1, by rw [h1]; congr 1; omega, by simpa using h2, by simpa using h3⟩
theorem itF_all : ∀ {rs : List (Int × Int)} {n j : Nat} (h : j < rs.length), (rs[j].2, ((n + j : Nat) : Int)) ∈ itF n rs
  | [], _, _, h => by simp at h
  | p :: rs, n, 0, h => by simp [itF]
  | p :: rs, n, j + 1, h => by
    have := itF_all (rs := rs) (n := n + 1) (j := j) (by simpa using h)
    simp only [itF, List.getElem_cons_succ]
    refine List.mem_cons_of_mem _ ?_
    have e : n + (j + 1) = n + 1 + j := by omega
    rw [e]
    exact this
def leP (p q : Int × Int) : Bool := decide (p.1 < q.1 ∨ (p.1 = q.1 ∧ p.2 ≤ q.2))
def gr (rs : List (Int × Int)) : List (Int × Int) → List Int × List Int → List Int × List Int
  | [], s => s
  | p :: so, s => if s.1 = [] ∨ s.1.getLast?.getD 0 < (rs.getD p.2.toNat (0, 0)).1 then gr rs so (s.1 ++ [p.1], s.2 ++ [p.2]) else gr rs so s
def iW (ns : List Int) : W := .nd .lst (ns.map fun i => .fl (.int i))
def bodyS : List S := match b_settings with
  | [_, _, _, .forr _ _ b, _] => b
  | _ => []
theorem iW_dat (ns : List Int) : (iW ns).dat = .nd .lst (ns.map D.int) := by
  have e : iW ns = .nd .lst ((ns.map D.int).map W.fl) := by
    unfold iW
    rw [List.map_map]
    rfl
  rw [e, dat_flm]
theorem stepS (Γ : Den) (rs : List (Int × Int)) (fo sh : List Int) (x1 x6 : Option W) (h : Int) (j : Nat) (hj : j < rs.length) (hl : fo.length ≤ 1000) (hl2 : sh.length ≤ 1000) :
    S.sems Γ bodyS [some (rsD rs), x1, some (iW fo), some (iW sh), some (.fl (.int h)), some (.fl (.int j)), x6] = .nx (if fo = [] ∨ fo.getLast?.getD 0 < rs[j].1 then [some (rsD rs), x1, some (iW (fo ++ [h])), some (iW (sh ++ [(j : Int)])), some (.fl (.int h)), some (.fl (.int j)), x6] else [some (rsD rs), x1, some (iW fo), some (iW sh), some (.fl (.int h)), some (.fl (.int j)), x6]) := by
  have z1 : fo.length + 1 ≤ 100000 := by omega
  have z2 : sh.length + 1 ≤ 100000 := by omega
  have ap : ∀ fo : List Int, fo.length + 1 ≤ 100000 → ∀ y : Option W, S.sems Γ [.app (.sl 2) (.gt (.sl 4)), .app (.sl 3) (.gt (.sl 5))] [some (rsD rs), x1, some (iW fo), some (iW sh), some (.fl (.int h)), some (.fl (.int j)), x6] = .nx [some (rsD rs), x1, some (iW (fo ++ [h])), some (iW (sh ++ [(j : Int)])), some (.fl (.int h)), some (.fl (.int j)), x6] := fun fo z1 _ => by
    simp [eget, D.flat, isL, onL, iW, small, Vx.W.sub, Vx.W.setAt, Vx.W.put, z1, z2]
  have e0 := eqD_nil fo
  have t0 : (W.fl (D.nd Kd.lst [])).dat = .nd .lst [] := rfl
  have t1 : (W.nd Kd.lst []).dat = .nd .lst [] := rfl
  show (S.sem Γ (.iff (.or (.op .eqD [(.bo (.sl 2)), (.tm (.lst []))]) (.op .gt [(.bo (.ix (.ix (.sl 0) (.gt (.sl 5))) (.con (.int 0)))), (.bo (.ix (.sl 2) (.op .neg [(.tm (.con (.int 1)))])))])) [.app (.sl 2) (.gt (.sl 4)), .app (.sl 3) (.gt (.sl 5))] []) _).andThen (S.sems Γ []) = _
  by_cases c : fo = []
  · subst c
    have a := ap [] (by simp) none
    have e0' : eqD? (.nd .lst []) (.nd .lst []) = some true := eqD_nil []
    have i0 : (iW []).dat = .nd .lst [] := rfl
    simp [small, eget, Rop.run, on2, i0, t0, t1, e0', pB, Vx.W.fzT, -sts_cons, a]
  · have hp : 0 < fo.length := List.length_pos_iff.mpr c
    have ne : fo.isEmpty = false := by cases fo <;> simp_all
    have hg : fo.getLast?.getD 0 = fo[fo.length - 1] := by
      rw [List.getLast?_eq_getElem?, List.getElem?_eq_getElem (by omega)]
      rfl
    have hn : (-1 + (fo.length : Int)).toNat = fo.length - 1 := by omega
    have hlt : fo.length - 1 < fo.length := by omega
    have h1 : (1 : Int) ≤ fo.length := by omega
    have c1 : E.sem Γ (.op .eqD [(.bo (.sl 2)), (.tm (.lst []))]) [some (rsD rs), x1, some (iW fo), some (iW sh), some (.fl (.int h)), some (.fl (.int j)), x6] = .ok (.fl (.bl false), [some (rsD rs), x1, some (iW fo), some (iW sh), some (.fl (.int h)), some (.fl (.int j)), x6]) := by
      have e0' : eqD? (D.nd Kd.lst (fo.map D.int)) (D.nd Kd.lst []) = some false := by rw [e0, ne]
      simp [small, eget, Rop.run, on2, iW_dat, t0, t1, e0', pB, Vx.W.fzT]
    have c2 : E.sem Γ (.op .gt [(.bo (.ix (.ix (.sl 0) (.gt (.sl 5))) (.con (.int 0)))), (.bo (.ix (.sl 2) (.op .neg [(.tm (.con (.int 1)))])))]) [some (rsD rs), x1, some (iW fo), some (iW sh), some (.fl (.int h)), some (.fl (.int j)), x6] = .ok (.fl (.bl (decide (fo[fo.length - 1] < rs[j].1))), [some (rsD rs), x1, some (iW fo), some (iW sh), some (.fl (.int h)), some (.fl (.int j)), x6]) := by
      have i1 : iW fo = .nd .lst (fo.map fun i => .fl (.int i)) := rfl
      simp [eget, Rop.run, on1, on2, on2I, pB, pI, Vx.W.fzT, D.flat, rsD, stepIx, Vx.W.kids, ixN, hj, tp2, Vx.W.int?, i1, hp, hn, hlt, h1]
    have cond : ((S.sem Γ (.iff (.or (.op .eqD [(.bo (.sl 2)), (.tm (.lst []))]) (.op .gt [(.bo (.ix (.ix (.sl 0) (.gt (.sl 5))) (.con (.int 0)))), (.bo (.ix (.sl 2) (.op .neg [(.tm (.con (.int 1)))])))])) [.app (.sl 2) (.gt (.sl 4)), .app (.sl 3) (.gt (.sl 5))] []) [some (rsD rs), x1, some (iW fo), some (iW sh), some (.fl (.int h)), some (.fl (.int j)), x6])) = if decide (fo[fo.length - 1] < rs[j].1) then S.sems Γ [.app (.sl 2) (.gt (.sl 4)), .app (.sl 3) (.gt (.sl 5))] [some (rsD rs), x1, some (iW fo), some (iW sh), some (.fl (.int h)), some (.fl (.int j)), x6] else .nx [some (rsD rs), x1, some (iW fo), some (iW sh), some (.fl (.int h)), some (.fl (.int j)), x6] := by
      rw [st_iff, ev_or, c1]
      simp only [res_bind_ok, bool_bl]
      rw [if_neg (by simp), c2]
      simp only [res_bind_ok, bool_bl, Res.out_ok, sts_nil]
    rw [cond]
    by_cases d : fo[fo.length - 1] < rs[j].1
    · rw [if_pos (decide_eq_true d), ap fo z1 none, if_pos (.inr (by rw [hg]; exact d))]
      rfl
    · rw [if_neg (by simpa using d), if_neg (by rw [hg]; simp [c, d])]
      rfl
end K16
end

section
set_option maxHeartbeats 1000000
namespace K16
open PySem L2 Vx
/-! the greedy choice -/
abbrev at2 (rs : List (Int × Int)) (a : Int) : Int × Int := rs.getD a.toNat (0, 0)
structure GI (rs : List (Int × Int)) (so : List (Int × Int)) (fo sh : List Int) : Prop where
  p : fo.Pairwise (· < ·)
  b : ∀ x ∈ fo, ∀ q ∈ so, x ≤ q.1
  e : fo = sh.map fun a => (at2 rs a).2
  d : sh.Pairwise fun a b => (at2 rs a).2 < (at2 rs b).1
  r : ∀ a ∈ sh, ∃ j : Nat, a = j ∧ j < rs.length
theorem le_last : ∀ {l : List Int}, l.Pairwise (· < ·) → ∀ x ∈ l, x ≤ l.getLast?.getD 0
  | [], _, x, h => by cases h
  | [a], _, x, h => by
    rcases List.mem_cons.mp h with z | z
    · rw [z]; simp
    · cases z
  | a :: c :: l, hp, x, h => by
    have hp2 := (List.pairwise_cons.mp hp)
    have ih := le_last hp2.2
    rw [List.getLast?_cons_cons]
    rcases List.mem_cons.mp h with z | z
    · have h1 := hp2.1 c List.mem_cons_self
      have h2 := ih c List.mem_cons_self
      omega
    · exact ih x z
theorem last_mem {l : List Int} (h : l ≠ []) : l.getLast?.getD 0 ∈ l := by
  rw [List.getLast?_eq_some_getLast h]
  exact List.getLast_mem h
theorem at2_nat {rs : List (Int × Int)} {j : Nat} (h : j < rs.length) : at2 rs (j : Int) = rs[j] := by
  simp [at2, List.getD, h]
theorem gr_ok {rs : List (Int × Int)} (hr : ∀ p ∈ rs, p.1 ≤ p.2) : ∀ (so : List (Int × Int)) (fo sh : List Int), so.Pairwise (fun p q => p.1 ≤ q.1) → (∀ p ∈ so, ∃ j : Nat, p.2 = j ∧ ∃ h : j < rs.length, rs[j].2 = p.1) → GI rs so fo sh →
    GI rs [] (gr rs so (fo, sh)).1 (gr rs so (fo, sh)).2 ∧ (∀ x ∈ fo, x ∈ (gr rs so (fo, sh)).1) ∧ ∀ q ∈ so, ∃ d ∈ (gr rs so (fo, sh)).1, (at2 rs q.2).1 ≤ d ∧ d ≤ q.1
  | [], fo, sh, _, _, g => ⟨⟨g.p, (fun x _ q hq => by cases hq), g.e, g.d, g.r⟩, fun x h => h, (fun q hq => by cases hq)⟩
  | p :: so, fo, sh, hs, hm, g => by
    obtain ⟨j, e1, hj, e2⟩ := hm p List.mem_cons_self
    have hs2 := List.pairwise_cons.mp hs
    have ap : at2 rs p.2 = rs[j] := by rw [e1]; exact at2_nat hj
    have lo : (at2 rs p.2).1 ≤ p.1 := by
      rw [ap, ← e2]
      exact hr _ (List.getElem_mem hj)
    have hi : (at2 rs p.2).2 = p.1 := by rw [ap, e2]
    by_cases c : fo = [] ∨ fo.getLast?.getD 0 < (at2 rs p.2).1
    · have eg : gr rs (p :: so) (fo, sh) = gr rs so (fo ++ [p.1], sh ++ [p.2]) := by
        show (if _ then _ else _) = _
        rw [if_pos c]
      have below : ∀ x ∈ fo, x < (at2 rs p.2).1 := fun x hx => by
        rcases c with c | c
        · rw [c] at hx
          cases hx
        · have := le_last g.p x hx
          omega
      have g' : GI rs so (fo ++ [p.1]) (sh ++ [p.2]) := by
        refine ⟨?_, ?_, ?_, ?_, ?_⟩
        · refine List.pairwise_append.mpr ⟨g.p, List.pairwise_singleton _ _, fun x hx y hy => ?_⟩
          rcases List.mem_cons.mp hy with z | z
          · rw [z]
            have := below x hx
            omega
          · cases z
        · intro x hx q hq
          rcases List.mem_append.mp hx with z | z
          · exact g.b x z q (List.mem_cons_of_mem _ hq)
          · rcases List.mem_cons.mp z with z | z
            · rw [z]
              exact hs2.1 q hq
            · cases z
        · rw [List.map_append, ← g.e]
          show fo ++ [p.1] = fo ++ [(at2 rs p.2).2]
          rw [hi]
        · refine List.pairwise_append.mpr ⟨g.d, List.pairwise_singleton _ _, fun x hx y hy => ?_⟩
          rcases List.mem_cons.mp hy with z | z
          · rw [z]
            refine below _ ?_
            rw [g.e]
            exact List.mem_map.mpr ⟨x, hx, rfl⟩
          · cases z
        · intro a ha
          rcases List.mem_append.mp ha with z | z
          · exact g.r a z
          · rcases List.mem_cons.mp z with z | z
            · rw [z]
              exact ⟨j, e1, hj⟩
            · cases z
      obtain ⟨k1, k2, k3⟩ := gr_ok hr so _ _ hs2.2 (fun q hq => hm q (List.mem_cons_of_mem _ hq)) g'
      rw [eg]
      refine ⟨k1, fun x hx => k2 x (List.mem_append_left _ hx), fun q hq => ?_⟩
      rcases List.mem_cons.mp hq with z | z
      · subst z
        exact ⟨q.1, k2 _ (List.mem_append_right _ List.mem_cons_self), lo, Int.le_refl _⟩
      · exact k3 q z
    · have eg : gr rs (p :: so) (fo, sh) = gr rs so (fo, sh) := by
        show (if _ then _ else _) = _
        rw [if_neg c]
      have g' : GI rs so fo sh := ⟨g.p, fun x hx q hq => g.b x hx q (List.mem_cons_of_mem _ hq), g.e, g.d, g.r⟩
      obtain ⟨k1, k2, k3⟩ := gr_ok hr so _ _ hs2.2 (fun q hq => hm q (List.mem_cons_of_mem _ hq)) g'
      rw [eg]
      have cn : fo ≠ [] := fun z => c (.inl z)
      have cl : ¬ fo.getLast?.getD 0 < (at2 rs p.2).1 := fun z => c (.inr z)
      refine ⟨k1, k2, fun q hq => ?_⟩
      rcases List.mem_cons.mp hq with z | z
      · subst z
        have lm := last_mem cn
        exact ⟨_, k2 _ lm, by omega, g.b _ lm q List.mem_cons_self⟩
      · exact k3 q z
/-! settings -/
theorem loopS (Γ : Den) (rs : List (Int × Int)) (x1 x6 : Option W) : ∀ (so : List (Int × Int)) (fo sh : List Int) (x4 x5 : Option W), (∀ p ∈ so, ∃ j : Nat, p.2 = j ∧ j < rs.length) → fo.length + so.length ≤ 1000 → sh.length + so.length ≤ 1000 →
    ∃ y4 y5, forFold (Tg.bind (.tp [.nm 4, .nm 5])) (S.sems Γ bodyS) (so.map fun p => W.fl (tp2 p)) [some (rsD rs), x1, some (iW fo), some (iW sh), x4, x5, x6] = .nx [some (rsD rs), x1, some (iW (gr rs so (fo, sh)).1), some (iW (gr rs so (fo, sh)).2), y4, y5, x6]
  | [], fo, sh, x4, x5, _, _, _ => ⟨x4, x5, rfl⟩
  | p :: so, fo, sh, x4, x5, hm, h1, h2 => by
    obtain ⟨j, e1, hj⟩ := hm p List.mem_cons_self
    have h1' : fo.length + (so.length + 1) ≤ 1000 := h1
    have h2' : sh.length + (so.length + 1) ≤ 1000 := h2
    have eb : Tg.bind (.tp [.nm 4, .nm 5]) (.fl (tp2 p)) [some (rsD rs), x1, some (iW fo), some (iW sh), x4, x5, x6] = some [some (rsD rs), x1, some (iW fo), some (iW sh), some (.fl (.int p.1)), some (.fl (.int j)), x6] := by
      simp [Tg.bind, Tg.binds, Vx.W.parts, tp2, e1]
    have st := stepS Γ rs fo sh x1 x6 p.1 j hj (by omega) (by omega)
    have ea : at2 rs p.2 = rs[j] := by rw [e1]; exact at2_nat hj
    by_cases c : fo = [] ∨ fo.getLast?.getD 0 < rs[j].1
    · rw [if_pos c] at st
      have eg : gr rs (p :: so) (fo, sh) = gr rs so (fo ++ [p.1], sh ++ [p.2]) := by
        show (if fo = [] ∨ fo.getLast?.getD 0 < (at2 rs p.2).1 then _ else _) = _
        rw [ea, if_pos c]
      obtain ⟨y4, y5, ih⟩ := loopS Γ rs x1 x6 so (fo ++ [p.1]) (sh ++ [p.2]) (some (.fl (.int p.1))) (some (.fl (.int j))) (fun q hq => hm q (List.mem_cons_of_mem _ hq)) (by simp; omega) (by simp; omega)
      refine ⟨y4, y5, ?_⟩
      rw [List.map_cons, for_nx eb st, eg, ← e1]
      rw [← e1] at ih
      exact ih
    · rw [if_neg c] at st
      have eg : gr rs (p :: so) (fo, sh) = gr rs so (fo, sh) := by
        show (if fo = [] ∨ fo.getLast?.getD 0 < (at2 rs p.2).1 then _ else _) = _
        rw [ea, if_neg c]
      obtain ⟨y4, y5, ih⟩ := loopS Γ rs x1 x6 so fo sh (some (.fl (.int p.1))) (some (.fl (.int j))) (fun q hq => hm q (List.mem_cons_of_mem _ hq)) (by omega) (by omega)
      refine ⟨y4, y5, ?_⟩
      rw [List.map_cons, for_nx eb st, eg]
      exact ih
def srt (rs : List (Int × Int)) : List (Int × Int) := (itF 0 rs).mergeSort fun p q => decide (p.1 < q.1 ∨ (p.1 = q.1 ∧ p.2 ≤ q.2))
def sI (ns : List Int) : List Int := ns.mergeSort fun a b => decide (a ≤ b)
theorem settings_eq (m : Nat) (rs : List (Int × Int)) (h : rs.length ≤ 1000) : Dn (m + 1) 0 [rsD rs] = .ok (.nd .tup [iW (gr rs (srt rs) ([], [])).1, iW (sI (gr rs (srt rs) ([], [])).2)]) [] := by
  have eb : b_settings = [.asg 1 (.op .sorted [(.tm (.lc [("at", 5), ("pair", 6)] (.tp [(.nm 5), (.nm 6)]) (.en (.bo (.sl 0))) none eltS))]), .asg 2 (.lst []), .asg 3 (.lst []), .forr (.tp [(.nm 4), (.nm 5)]) (.sq (.bo (.sl 1))) bodyS, .ret (.tup [(.mv 2), (.op .sorted [(.bo (.sl 3))])])] := rfl
  have lsrt : (srt rs).length = rs.length := by
    unfold srt
    rw [List.length_mergeSort, itF_len]
  have elc : E.sem (Dn m) (.lc [("at", 5), ("pair", 6)] (.tp [(.nm 5), (.nm 6)]) (.en (.bo (.sl 0))) none eltS) [some (rsD rs), none, none, none, none, none, none] = .ok (.nd .lst (((itF 0 rs).map tp2).map W.fl), [some (rsD rs), none, none, none, none, none, none]) := by
    have l := lcS (Dn m) (some (rsD rs)) none none none none rs 0 [] (by simp; omega)
    have ei : ((itF 0 rs).map fun p => W.fl (tp2 p)) = ((itF 0 rs).map tp2).map W.fl := by rw [List.map_map]; rfl
    have eI : It.sem (Dn m) (.en (.bo (.sl 0))) [some (rsD rs), none, none, none, none, none, none] = .ok (enumW 0 (rs.map tp2), [some (rsD rs), none, none, none, none, none, none]) := by
      simp [eget, W.lstD, W.shal, rsD]
    rw [ev_lc0, eI]
    show ((lcFold _ _ _ [5, 6] _ [] (wipeE [some (rsD rs), none, none, none, none, none, none] [5, 6])).bind _) = _
    have ew : wipeE [some (rsD rs), none, none, none, none, none, none] [5, 6] = [some (rsD rs), none, none, none, none, none, none] := by simp [wipeE]
    rw [ew, l, ei]
    rfl
  have e1 : S.sem (Dn m) (.asg 1 (.op .sorted [(.tm (.lc [("at", 5), ("pair", 6)] (.tp [(.nm 5), (.nm 6)]) (.en (.bo (.sl 0))) none eltS))])) [some (rsD rs), none, none, none, none, none, none] = .nx [some (rsD rs), some (newL ((srt rs).map tp2)), none, none, none, none, none] := by
    rw [st_asg, ev_op, ovs_cons, ov_tm, elc]
    have es : ((itF 0 rs).map tp2).mergeSort leD = (srt rs).map tp2 := sort_ii _
    have ed : W.lstD (.fl (.nd .lst ((itF 0 rs).map tp2))) = some ((itF 0 rs).map tp2) := rfl
    have e3 : (W.nd .lst (((itF 0 rs).map tp2).map W.fl)).dat = .nd .lst ((itF 0 rs).map tp2) := dat_flm _
    simp only [res_bind_ok, ovs_nil, List.mapM_cons, List.mapM_nil, rval_t, e3]
    simp [Rop.run, on1, ed, canSort_ii, es, Vx.W.fzT, newL]
  have hin : ∀ p ∈ srt rs, ∃ j : Nat, p.2 = j ∧ ∃ h : j < rs.length, rs[j].2 = p.1 := fun p hp => by
    have hp' : p ∈ itF 0 rs := by
      unfold srt at hp
      exact List.mem_mergeSort.mp hp
    obtain ⟨j, h1, h2, h3⟩ := itF_mem hp'
    exact ⟨j, by simpa using h1, h2, h3⟩
  obtain ⟨y4, y5, lp⟩ := loopS (Dn m) rs (some (newL ((srt rs).map tp2))) none (srt rs) [] [] none none (fun p hp => by
    obtain ⟨j, h1, h2, _⟩ := hin p hp
    exact ⟨j, h1, h2⟩) (by simp; omega) (by simp; omega)
  obtain ⟨fo, hfo⟩ : ∃ fo, fo = (gr rs (srt rs) ([], [])).1 := ⟨_, rfl⟩
  obtain ⟨sh, hsh⟩ : ∃ sh, sh = (gr rs (srt rs) ([], [])).2 := ⟨_, rfl⟩
  rw [← hfo, ← hsh] at lp ⊢
  have e2 : S.sem (Dn m) (.forr (.tp [(.nm 4), (.nm 5)]) (.sq (.bo (.sl 1))) bodyS) [some (rsD rs), some (newL ((srt rs).map tp2)), some (iW []), some (iW []), none, none, none] = .nx [some (rsD rs), some (newL ((srt rs).map tp2)), some (iW fo), some (iW sh), y4, y5, none] := by
    have eI : It.sem (Dn m) (.sq (.bo (.sl 1))) [some (rsD rs), some (newL ((srt rs).map tp2)), some (iW []), some (iW []), none, none, none] = .ok (((srt rs).map tp2).map W.fl, [some (rsD rs), some (newL ((srt rs).map tp2)), some (iW []), some (iW []), none, none, none]) := by
      have ew : W.lstD (newL ((srt rs).map tp2)) = some ((srt rs).map tp2) := lstD_newL _
      simp [eget, ew]
    rw [st_for, eI]
    have em : ((srt rs).map tp2).map W.fl = (srt rs).map fun p => W.fl (tp2 p) := by rw [List.map_map]; rfl
    rw [em]
    exact lp
  have e3 : S.sem (Dn m) (.ret (.tup [(.mv 2), (.op .sorted [(.bo (.sl 3))])])) [some (rsD rs), some (newL ((srt rs).map tp2)), some (iW fo), some (iW sh), y4, y5, none] = .rt (.nd .tup [iW fo, iW (sI sh)]) [some (rsD rs), some (newL ((srt rs).map tp2)), none, some (iW sh), y4, y5, none] := by
    have ei : ∀ ns : List Int, iW ns = newL (ns.map D.int) := fun ns => by
      unfold iW newL
      rw [List.map_map]
      rfl
    have ew : W.lstD (iW sh) = some (sh.map D.int) := by
      rw [ei]
      exact lstD_newL _
    have es : (sh.map D.int).mergeSort leD = (sI sh).map D.int := sort_ints _
    have ek : E.sem (Dn m) (.op .sorted [(.bo (.sl 3))]) [some (rsD rs), some (newL ((srt rs).map tp2)), none, some (iW sh), y4, y5, none] = .ok (iW (sI sh), [some (rsD rs), some (newL ((srt rs).map tp2)), none, some (iW sh), y4, y5, none]) := by
      rw [ei (sI sh)]
      simp [eget, Rop.run, on1, ew, canSort_ints, es, Vx.W.fzT, newL]
    have f1 : (iW fo).isFl = false := rfl
    have em : E.sem (Dn m) (.mv 2) [some (rsD rs), some (newL ((srt rs).map tp2)), some (iW fo), some (iW sh), y4, y5, none] = .ok (iW fo, [some (rsD rs), some (newL ((srt rs).map tp2)), none, some (iW sh), y4, y5, none]) := by simp
    rw [st_ret, ev_tup, evs_cons, em]
    simp only [res_bind_ok]
    rw [evs_cons, ek]
    simp [small, mkT, f1]
  show runF (Dn m) 7 [] b_settings [rsD rs] = _
  unfold runF
  rw [eb]
  show (match S.sems (Dn m) _ [some (rsD rs), none, none, none, none, none, none] with
    | .rt w r => _
    | .nx r => _
    | .ex c p r => _
    | _ => Rf.bad) = _
  have i0 : S.sem (Dn m) (.asg 2 (.lst [])) [some (rsD rs), some (newL ((srt rs).map tp2)), none, none, none, none, none] = .nx [some (rsD rs), some (newL ((srt rs).map tp2)), some (iW []), none, none, none, none] := by
    simp [small, iW]
  have i1 : S.sem (Dn m) (.asg 3 (.lst [])) [some (rsD rs), some (newL ((srt rs).map tp2)), some (iW []), none, none, none, none] = .nx [some (rsD rs), some (newL ((srt rs).map tp2)), some (iW []), some (iW []), none, none, none] := by
    simp [small, iW]
  rw [sts_cons, e1, Out.then_nx, sts_cons, i0, Out.then_nx, sts_cons, i1, Out.then_nx, sts_cons, e2, Out.then_nx, sts_cons, e3]
  simp [ioBack]
end K16
end

section
set_option maxHeartbeats 1000000
namespace K16
open PySem L2 Vx
theorem Dn4 (m : Nat) (ws : List W) : Dn (m + 1) 4 ws = runF (Dn m) 1 [] b_law_whole ws := rfl
theorem Dn8 (m : Nat) (ws : List W) : Dn (m + 1) 8 ws = runF (Dn m) 2 [] b_law_meet ws := rfl
theorem whole_eq (m : Nat) (i : Int) : Dn (m + 1) 4 [.fl (.int i)] = .ok (.fl (.bl true)) [] := by
  rw [Dn4]
  have a1 : isOf "int" (.int i) = some true := by simp [isOf]
  have a2 : isOf "bool" (.int i) = some false := by simp [isOf]
  simp [runF, b_law_whole, eget, Rop.run, on1, pB, Vx.W.fzT, a1, a2, ioBack]
theorem lcW (m : Nat) (x0 : Option W) : ∀ (ns : List Int) (acc : List W), acc.length + ns.length ≤ 1000 →
    lcFold (Tg.bind (.nm 1)) (fun r => Res.ok (true, r)) (E.sem (Dn (m + 1)) (.call 4 [(.va (.gt (.sl 1)))])) [1] (ns.map fun i => W.fl (.int i)) acc [x0, none] = .ok (acc ++ ns.map fun _ => W.fl (.bl true), [x0, none])
  | [], acc, _ => by
    show Res.ok (acc, _) = _
    simp
  | i :: ns, acc, h => by
    have h' : acc.length + (ns.length + 1) ≤ 1000 := h
    have w := whole_eq m i
    have e1 : Tg.bind (.nm 1) (.fl (.int i)) [x0, none] = some [x0, some (.fl (.int i))] := by simp [Tg.bind]
    have e2 : E.sem (Dn (m + 1)) (.call 4 [(.va (.gt (.sl 1)))]) [x0, some (.fl (.int i))] = .ok (.fl (.bl true), [x0, some (.fl (.int i))]) := by
      simp [eget, takeIo, putIo, w]
    have e3 : small acc.length = true := decide_eq_true (by omega)
    rw [List.map_cons, lc_yes e1 e2 e3]
    have e4 : wipeE [x0, some (.fl (.int i))] [1] = [x0, none] := by simp [wipeE]
    rw [e4, lcW m x0 ns _ (by simp; omega)]
    simp
theorem wholes_eq (m : Nat) (ns : List Int) (h : ns.length ≤ 1000) : Dn (m + 2) 5 [.fl (.nd .lst (ns.map D.int))] = .ok (.fl (.bl true)) [] := by
  show runF (Dn (m + 1)) 2 [] b_law_wholes _ = _
  have a1 : isOf "list" (.nd .lst (ns.map D.int)) = some true := by simp [isOf]
  have el : E.sem (Dn (m + 1)) (.lc [("_law_one", 1)] (.nm 1) (.sq (.bo (.sl 0))) none (.call 4 [(.va (.gt (.sl 1)))])) [some (.fl (.nd .lst (ns.map D.int))), none] = .ok (.nd .lst (ns.map fun _ => W.fl (.bl true)), [some (.fl (.nd .lst (ns.map D.int))), none]) := by
    have eI : It.sem (Dn (m + 1)) (.sq (.bo (.sl 0))) [some (.fl (.nd .lst (ns.map D.int))), none] = .ok ((ns.map D.int).map W.fl, [some (.fl (.nd .lst (ns.map D.int))), none]) := by
      simp [eget, lstD_fl]
    have em : (ns.map D.int).map W.fl = ns.map fun i => W.fl (.int i) := by rw [List.map_map]; rfl
    rw [ev_lc0, eI, em]
    show ((lcFold _ _ _ [1] _ [] (wipeE [some (.fl (.nd .lst (ns.map D.int))), none] [1])).bind _) = _
    have ew : wipeE [some (.fl (.nd .lst (ns.map D.int))), none] [1] = [some (.fl (.nd .lst (ns.map D.int))), none] := by simp [wipeE]
    rw [ew, lcW m _ ns [] (by simp; omega)]
    simp
  have ed : (W.nd .lst (ns.map fun _ => W.fl (.bl true))).dat = .nd .lst (ns.map fun _ => D.bl true) := by
    have e : (ns.map fun _ => W.fl (.bl true)) = (ns.map fun _ => D.bl true).map W.fl := by rw [List.map_map]; rfl
    rw [e]
    exact dat_flm _
  have eb : dBls (ns.map fun _ => D.bl true) = some (ns.map fun _ => true) := by
    clear h el ed a1
    induction ns with
    | nil => rfl
    | cons n ns ih =>
      show (dBls (ns.map fun _ => D.bl true)).map (true :: ·) = _
      rw [ih]
      rfl
  have ea : (ns.map fun _ => true).all id = true := by simp
  have eA : E.sem (Dn (m + 1)) (.op .allB [(.tm (.lc [("_law_one", 1)] (.nm 1) (.sq (.bo (.sl 0))) none (.call 4 [(.va (.gt (.sl 1)))])))]) [some (.fl (.nd .lst (ns.map D.int))), none] = .ok (.fl (.bl true), [some (.fl (.nd .lst (ns.map D.int))), none]) := by
    rw [ev_op, ovs_cons, ov_tm, el]
    simp only [res_bind_ok, ovs_nil, List.mapM_cons, List.mapM_nil, rval_t, ed]
    simp [Rop.run, on1, lstD_fl, eb, pB, Vx.W.fzT]
  have e1 : E.sem (Dn (m + 1)) (.op (.isI "list") [(.bo (.sl 0))]) [some (.fl (.nd .lst (ns.map D.int))), none] = .ok (.fl (.bl true), [some (.fl (.nd .lst (ns.map D.int))), none]) := by
    simp [eget, Rop.run, on1, pB, Vx.W.fzT, a1]
  have ebb : b_law_wholes = [.ret (.and (.op (.isI "list") [(.bo (.sl 0))]) (.op .allB [(.tm (.lc [("_law_one", 1)] (.nm 1) (.sq (.bo (.sl 0))) none (.call 4 [(.va (.gt (.sl 1)))])))]))] := rfl
  unfold runF
  rw [ebb]
  show (match S.sems (Dn (m + 1)) _ [some (.fl (.nd .lst (ns.map D.int))), none] with
    | .rt w r => _
    | .nx r => _
    | .ex c p r => _
    | _ => Rf.bad) = _
  rw [sts_cons, st_ret, ev_and, e1]
  simp only [res_bind_ok, bool_bl, if_true]
  rw [eA]
  simp [ioBack]
def mx (i j : Int) : Int := if j > i then j else i
def mn (i j : Int) : Int := if j < i then j else i
theorem meet_eq (m : Nat) (p q : Int × Int) : Dn (m + 1) 8 [.fl (tp2 p), .fl (tp2 q)] = .ok (.fl (.bl (decide (mx p.1 q.1 ≤ mn p.2 q.2)))) [] := by
  rw [Dn8]
  simp [runF, b_law_meet, eget, Rop.run, on2I, pI, pB, Vx.W.fzT, D.flat, stepIx, Vx.W.kids, ixN, tp2, mx, mn, ioBack]
end K16
end

section
set_option maxHeartbeats 1000000
namespace K16
open PySem L2 Vx
/-! comprehensions of tests over lists of ints -/
/-- a test of each int, in slot v, all of it true or not -/
theorem lcB {Γ : Den} {e : E} {v : Nat} {r0 : Vx.Env} {f : Int → Bool} (h0 : r0[v]? = some none) : ∀ (ns : List Int) (acc : List W), (∀ i ∈ ns, E.sem Γ e (r0.set v (some (.fl (.int i)))) = .ok (.fl (.bl (f i)), r0.set v (some (.fl (.int i))))) → acc.length + ns.length ≤ 1000 →
    lcFold (Tg.bind (.nm v)) (fun r => Res.ok (true, r)) (E.sem Γ e) [v] (ns.map fun i => W.fl (.int i)) acc r0 = .ok (acc ++ ns.map fun i => W.fl (.bl (f i)), r0)
  | [], acc, _, _ => by
    show Res.ok (acc, _) = _
    simp
  | i :: ns, acc, he, h => by
    have h' : acc.length + (ns.length + 1) ≤ 1000 := h
    have hv : v < r0.length := (List.getElem?_eq_some_iff.mp h0).1
    have e1 : Tg.bind (.nm v) (.fl (.int i)) r0 = some (r0.set v (some (.fl (.int i)))) := by
      show (if v < r0.length then some (r0.set v (some (.fl (.int i)))) else none) = _
      rw [if_pos hv]
    have e3 : small acc.length = true := decide_eq_true (by omega)
    rw [List.map_cons, lc_yes e1 (he i List.mem_cons_self) e3]
    have e4 : wipeE (r0.set v (some (.fl (.int i)))) [v] = r0 := by
      show (r0.set v (some (.fl (.int i)))).set v none = r0
      rw [List.set_set]
      refine List.ext_getElem? fun j => ?_
      by_cases hj : v = j
      · subst hj
        rw [List.getElem?_set_self hv, h0]
      · rw [List.getElem?_set_ne hj]
    rw [e4, lcB h0 ns _ (fun j hj => he j (List.mem_cons_of_mem _ hj)) (by simp; omega)]
    simp
theorem bls_dat (f : Int → Bool) (ns : List Int) : (W.nd .lst (ns.map fun i => W.fl (.bl (f i)))).dat = .nd .lst (ns.map fun i => D.bl (f i)) := by
  have e : (ns.map fun i => W.fl (.bl (f i))) = (ns.map fun i => D.bl (f i)).map W.fl := by rw [List.map_map]; rfl
  rw [e]
  exact dat_flm _
theorem bls (f : Int → Bool) : ∀ ns : List Int, dBls (ns.map fun i => D.bl (f i)) = some (ns.map f)
  | [] => rfl
  | n :: ns => by
    show (dBls (ns.map fun i => D.bl (f i))).map (f n :: ·) = _
    rw [bls f ns]
    rfl
end K16
end

section
set_option maxHeartbeats 1000000
namespace K16
open PySem L2 Vx
theorem allW {Γ : Den} {e : E} {x : Str} {v : Nat} {o : O} {r0 : Vx.Env} {f : Int → Bool} {ns : List Int} (hv : v < r0.length) (hl : ns.length ≤ 1000) (ho : It.sem Γ (.sq o) r0 = .ok (ns.map fun i => W.fl (.int i), r0)) (he : ∀ i ∈ ns, E.sem Γ e (r0.set v (some (.fl (.int i)))) = .ok (.fl (.bl (f i)), r0.set v (some (.fl (.int i))))) :
    E.sem Γ (.op .allB [(.tm (.lc [(x, v)] (.nm v) (.sq o) none e))]) r0 = .ok (.fl (.bl (ns.all f)), r0.set v none) ∧ E.sem Γ (.op .anyB [(.tm (.lc [(x, v)] (.nm v) (.sq o) none e))]) r0 = .ok (.fl (.bl (ns.any f)), r0.set v none) := by
  have h0 : (r0.set v none)[v]? = some none := List.getElem?_set_self hv
  have el : E.sem Γ (.lc [(x, v)] (.nm v) (.sq o) none e) r0 = .ok (.nd .lst (ns.map fun i => W.fl (.bl (f i))), r0.set v none) := by
    rw [ev_lc0, ho]
    show ((lcFold _ _ _ [v] _ [] (r0.set v none)).bind _) = _
    rw [lcB h0 ns [] (fun i hi => by rw [List.set_set]; exact he i hi) (by simp; omega)]
    simp
  constructor
  · rw [ev_op, ovs_cons, ov_tm, el]
    simp only [res_bind_ok, ovs_nil, List.mapM_cons, List.mapM_nil, rval_t, bls_dat]
    simp [Rop.run, on1, lstD_fl, bls, pB, Vx.W.fzT, List.all_map, Function.comp_def]
  · rw [ev_op, ovs_cons, ov_tm, el]
    simp only [res_bind_ok, ovs_nil, List.mapM_cons, List.mapM_nil, rval_t, bls_dat]
    simp [Rop.run, on1, lstD_fl, bls, pB, Vx.W.fzT, List.any_map, Function.comp_def]
theorem rs_dat (rs : List (Int × Int)) : (rsW rs).dat = .nd .lst (rs.map tp2) := by
  have e : rsW rs = .nd .lst ((rs.map tp2).map W.fl) := by
    unfold rsW
    rw [List.map_map]
    rfl
  rw [e, dat_flm]
section
variable (B : W) (rs : List (Int × Int)) (t : Option W) (x5 x6 x7 x8 x9 x10 x11 x12 x13 x14 : Option W) (fo sh : List Int)
theorem l1 (hd : W) (h : hd = rsW rs ∨ hd = rsD rs) (hl : rs.length ≤ 1000) : S.sem (Dn 3) (.asg 5 (.call 0 [(.va (.rd (.sl 3)))])) [none, some B, some (rsW rs), some hd, t, x5, x6, x7, x8, x9, x10, x11, x12, x13, x14] =
    .nx [none, some B, some (rsW rs), some (rsD rs), t, some (.nd .tup [iW (gr rs (srt rs) ([], [])).1, iW (sI (gr rs (srt rs) ([], [])).2)]), x6, x7, x8, x9, x10, x11, x12, x13, x14] := by
  have e := settings_eq 2 rs hl
  have er : E.sem (Dn 3) (.rd (.sl 3)) [none, some B, some (rsW rs), some hd, t, x5, x6, x7, x8, x9, x10, x11, x12, x13, x14] = .ok (rsD rs, [none, some B, some (rsW rs), some (rsD rs), t, x5, x6, x7, x8, x9, x10, x11, x12, x13, x14]) := by
    rcases h with h | h
    · subst h
      have : rsW rs = .nd .lst (rs.map pw) := rfl
      have d := rs_dat rs
      rw [this] at d
      simp [readAt, eget, this, Vx.W.setAt, Vx.W.put, rsD]
      intro a b _
      rfl
    · subst h
      simp [readAt, eget, rsD]
  rw [st_asg, ev_call, ar_va, er]
  simp [takeIo, putIo, e]
theorem l2 : S.sem (Dn 3) (.iff (.or (.not (.op (.isI "tuple") [(.bo (.sl 5))])) (.or (.op .neF [(.tm (.op .len [(.bo (.sl 5))])), (.tm (.con (.int 2)))]) (.op .neD [(.bo (.sl 3)), (.bo (.sl 2))]))) [.ret (.con (.bl false))] [])
    [none, some B, some (rsW rs), some (rsD rs), t, some (.nd .tup [iW fo, iW sh]), x6, x7, x8, x9, x10, x11, x12, x13, x14] = .nx [none, some B, some (rsW rs), some (rsD rs), t, some (.nd .tup [iW fo, iW sh]), x6, x7, x8, x9, x10, x11, x12, x13, x14] := by
  have e1 : isOf "tuple" (.nd .tup [(iW fo).dat, (iW sh).dat]) = some true := by simp [isOf]
  have e2 := eqD_ii rs
  have e3 : (rsD rs).dat = .nd .lst (rs.map tp2) := rfl
  simp [eget, Rop.run, on1, on2, pB, pI, Vx.W.fzT, e1, e2, rs_dat, e3, Vx.W.lenD, eqF?, Vx.W.flat?, scal, D.v, D.flat]
theorem l3 : S.sem (Dn 3) (.unp (.tp [(.nm 6), (.nm 7)]) (.mv 5)) [none, some B, some (rsW rs), some (rsD rs), t, some (.nd .tup [iW fo, iW sh]), x6, x7, x8, x9, x10, x11, x12, x13, x14] =
    .nx [none, some B, some (rsW rs), some (rsD rs), t, none, some (iW fo), some (iW sh), x8, x9, x10, x11, x12, x13, x14] := by
  simp [Tg.bind, Tg.binds, Vx.W.parts]
def st4 : S := .iff (.or (.not (.call 5 [(.va (.gt (.sl 6)))])) (.or (.not (.call 5 [(.va (.gt (.sl 7)))])) (.op .neF [(.tm (.op .len [(.bo (.sl 6))])), (.tm (.op .len [(.bo (.sl 7))]))]))) [.ret (.con (.bl false))] []
theorem l4 (h1 : fo.length ≤ 1000) (h2 : sh.length ≤ 1000) (h3 : fo.length = sh.length) : S.sem (Dn 3) (holdS [6, 7] st4) [none, some B, some (rsW rs), some (rsD rs), t, none, some (iW fo), some (iW sh), x8, x9, x10, x11, x12, x13, x14] =
    .nx [none, some B, some (rsW rs), some (rsD rs), t, none, some (iW fo), some (iW sh), x8, x9, x10, x11, x12, x13, x14] := by
  have e1 := wholes_eq 1 fo h1
  have e2 := wholes_eq 1 sh h2
  have ms : st4.mods = [] := by decide +kernel
  have fz : frzE [none, some B, some (rsW rs), some (rsD rs), t, none, some (iW fo), some (iW sh), x8, x9, x10, x11, x12, x13, x14] [6, 7] = [none, some B, some (rsW rs), some (rsD rs), t, none, some (.fl (.nd .lst (fo.map D.int))), some (.fl (.nd .lst (sh.map D.int))), x8, x9, x10, x11, x12, x13, x14] := by
    simp [frzE, iW_dat]
  have e : S.sem (Dn 3) st4 [none, some B, some (rsW rs), some (rsD rs), t, none, some (.fl (.nd .lst (fo.map D.int))), some (.fl (.nd .lst (sh.map D.int))), x8, x9, x10, x11, x12, x13, x14] = .nx [none, some B, some (rsW rs), some (rsD rs), t, none, some (.fl (.nd .lst (fo.map D.int))), some (.fl (.nd .lst (sh.map D.int))), x8, x9, x10, x11, x12, x13, x14] := by
    simp [st4, eget, Rop.run, on1, on2, pB, pI, Vx.W.fzT, Vx.W.lenD, eqF?, Vx.W.flat?, scal, D.v, D.flat, takeIo, putIo, e1, e2, h3]
  unfold holdS
  rw [hold_sem, ms]
  dsimp only
  rw [fz, e]
  simp [thawE, wipeE]
/-! the lists rise -/
def cmpE : E := .lc [("_law_one", 12), ("_law_other", 13)] (.tp [(.nm 12), (.nm 13)]) (.zp (.bo (.sl 8)) (.tm (.op (.slice true false) [(.bo (.sl 8)), (.tm (.con (.int 1)))]))) none (.op .lt [(.bo (.sl 12)), (.bo (.sl 13))])
theorem lcZ {Γ : Den} {r0 : Vx.Env} (h12 : r0[12]? = some none) (h13 : r0[13]? = some none) : ∀ (ps : List (Int × Int)) (acc : List W), acc.length + ps.length ≤ 1000 →
    lcFold (Tg.bind (.tp [(.nm 12), (.nm 13)])) (fun r => Res.ok (true, r)) (E.sem Γ (.op .lt [(.bo (.sl 12)), (.bo (.sl 13))])) [12, 13] (ps.map fun p => W.fl (tp2 p)) acc r0 = .ok (acc ++ ps.map fun p => W.fl (.bl (decide (p.1 < p.2))), r0)
  | [], acc, _ => by
    show Res.ok (acc, _) = _
    simp
  | p :: ps, acc, h => by
    have h' : acc.length + (ps.length + 1) ≤ 1000 := h
    have v12 : 12 < r0.length := (List.getElem?_eq_some_iff.mp h12).1
    have v13 : 13 < r0.length := (List.getElem?_eq_some_iff.mp h13).1
    have e1 : Tg.bind (.tp [(.nm 12), (.nm 13)]) (.fl (tp2 p)) r0 = some ((r0.set 12 (some (.fl (.int p.1)))).set 13 (some (.fl (.int p.2)))) := by
      simp [Tg.bind, Tg.binds, Vx.W.parts, tp2, v12, v13]
    have e2 : E.sem Γ (.op .lt [(.bo (.sl 12)), (.bo (.sl 13))]) ((r0.set 12 (some (.fl (.int p.1)))).set 13 (some (.fl (.int p.2)))) = .ok (.fl (.bl (decide (p.1 < p.2))), (r0.set 12 (some (.fl (.int p.1)))).set 13 (some (.fl (.int p.2)))) := by
      have g1 : ((r0.set 12 (some (.fl (.int p.1)))).set 13 (some (.fl (.int p.2))))[12]? = some (some (.fl (.int p.1))) := by
        rw [List.getElem?_set_ne (by omega), List.getElem?_set_self v12]
      have g2 : ((r0.set 12 (some (.fl (.int p.1)))).set 13 (some (.fl (.int p.2))))[13]? = some (some (.fl (.int p.2))) := List.getElem?_set_self (by rw [List.length_set]; exact v13)
      simp [eget, Rop.run, on2I, pB, Vx.W.fzT, g1, g2]
    have e3 : small acc.length = true := decide_eq_true (by omega)
    rw [List.map_cons, lc_yes e1 e2 e3]
    have e4 : wipeE ((r0.set 12 (some (.fl (.int p.1)))).set 13 (some (.fl (.int p.2)))) [12, 13] = r0 := by
      show (((r0.set 12 (some (.fl (.int p.1)))).set 13 (some (.fl (.int p.2)))).set 13 none).set 12 none = r0
      refine List.ext_getElem? fun j => ?_
      by_cases j12 : 12 = j
      · subst j12
        rw [List.getElem?_set_self (by simp [v12]), h12]
      · rw [List.getElem?_set_ne j12, List.set_set]
        by_cases j13 : 13 = j
        · subst j13
          rw [List.getElem?_set_self (by simp [v13]), h13]
        · rw [List.getElem?_set_ne j13, List.getElem?_set_ne j12]
    rw [e4, lcZ h12 h13 ps _ (by simp; omega)]
    simp
def st6 : S := .iff (.not (.op .allB [(.tm (.lc [("_law_at", 11)] (.nm 11) (.sq (.bo (.sl 7))) none (.and (.op .le [(.tm (.con (.int 0))), (.bo (.sl 11))]) (.op .lt [(.bo (.sl 11)), (.tm (.op .len [(.bo (.sl 2))]))]))))])) [.ret (.con (.bl false))] []
theorem iW_new (ns : List Int) : iW ns = newL (ns.map D.int) := by
  unfold iW newL
  rw [List.map_map]
  rfl
theorem it_iW {Γ : Den} {r : Vx.Env} {i : Nat} {ns : List Int} (h : r[i]? = some (some (iW ns))) : It.sem Γ (.sq (.bo (.sl i))) r = .ok (ns.map fun i => W.fl (.int i), r) := by
  have e : (iW ns).lstD = some (ns.map D.int) := by
    rw [iW_new]
    exact lstD_newL _
  simp [h, eget, e]
theorem l6 (h2 : sh.length ≤ 1000) (hr : rs.length ≤ 1000) (hs : ∀ a ∈ sh, 0 ≤ a ∧ a < rs.length) : S.sem (Dn 3) st6 [none, some B, some (rsW rs), some (rsD rs), t, none, some (iW fo), some (iW sh), x8, x9, x10, x11, x12, x13, x14] =
    .nx [none, some B, some (rsW rs), some (rsD rs), t, none, some (iW fo), some (iW sh), x8, x9, x10, none, x12, x13, x14] := by
  have a := (allW (Γ := Dn 3) (x := "_law_at") (v := 11) (o := .bo (.sl 7)) (r0 := [none, some B, some (rsW rs), some (rsD rs), t, none, some (iW fo), some (iW sh), x8, x9, x10, x11, x12, x13, x14]) (ns := sh) (f := fun i => decide (0 ≤ i) && decide (i < (rs.length : Int)))
    (e := .and (.op .le [(.tm (.con (.int 0))), (.bo (.sl 11))]) (.op .lt [(.bo (.sl 11)), (.tm (.op .len [(.bo (.sl 2))]))])) (by simp) h2 (it_iW rfl) (fun i _ => by
      by_cases c : 0 ≤ i
      · simp [eget, Rop.run, on1, on2I, pB, pI, Vx.W.fzT, D.flat, Vx.W.lenD, rsW, c]
      · simp [eget, Rop.run, on1, on2I, pB, pI, Vx.W.fzT, D.flat, c])).1
  have ha : (sh.all fun i => decide (0 ≤ i) && decide (i < (rs.length : Int))) = true := by
    rw [List.all_eq_true]
    intro i hi
    have := hs i hi
    simp [this.1, this.2]
  unfold st6
  rw [st_iff, ev_not, a, ha]
  simp
end
end K16
end

section
set_option maxHeartbeats 1000000
namespace K16
open PySem L2 Vx
section
variable (B : W) (rs : List (Int × Int)) (t : Option W) (fo sh : List Int)
def b7 : List S := [.iff (.not (.op .anyB [(.tm (.lc [("_law_damp", 14)] (.nm 14) (.sq (.bo (.sl 6))) none (.and (.op .le [(.bo (.sl 9)), (.bo (.sl 14))]) (.op .le [(.bo (.sl 14)), (.bo (.sl 10))]))))])) [.ret (.con (.bl false))] []]
theorem loop7 (x8 x11 x12 x13 : Option W) (h1 : fo.length ≤ 1000) : ∀ (ps : List (Int × Int)) (x9 x10 x14 : Option W), (∀ p ∈ ps, ∃ d ∈ fo, p.1 ≤ d ∧ d ≤ p.2) → ∃ y9 y10 y14, forFold (Tg.bind (.tp [.nm 9, .nm 10])) (S.sems (Dn 3) b7) (ps.map fun p => W.fl (tp2 p)) [none, some B, some (rsW rs), some (rsD rs), t, none, some (iW fo), some (iW sh), x8, x9, x10, x11, x12, x13, x14] =
    .nx [none, some B, some (rsW rs), some (rsD rs), t, none, some (iW fo), some (iW sh), x8, y9, y10, x11, x12, x13, y14]
  | [], x9, x10, x14, _ => ⟨x9, x10, x14, rfl⟩
  | p :: ps, x9, x10, x14, hp => by
    have eb : Tg.bind (.tp [.nm 9, .nm 10]) (.fl (tp2 p)) [none, some B, some (rsW rs), some (rsD rs), t, none, some (iW fo), some (iW sh), x8, x9, x10, x11, x12, x13, x14] = some [none, some B, some (rsW rs), some (rsD rs), t, none, some (iW fo), some (iW sh), x8, some (.fl (.int p.1)), some (.fl (.int p.2)), x11, x12, x13, x14] := by
      simp [Tg.bind, Tg.binds, Vx.W.parts, tp2]
    have a := (allW (Γ := Dn 3) (x := "_law_damp") (v := 14) (o := .bo (.sl 6)) (r0 := [none, some B, some (rsW rs), some (rsD rs), t, none, some (iW fo), some (iW sh), x8, some (.fl (.int p.1)), some (.fl (.int p.2)), x11, x12, x13, x14]) (ns := fo) (f := fun i => decide (p.1 ≤ i) && decide (i ≤ p.2))
      (e := .and (.op .le [(.bo (.sl 9)), (.bo (.sl 14))]) (.op .le [(.bo (.sl 14)), (.bo (.sl 10))])) (by simp) h1 (it_iW rfl) (fun i _ => by
        by_cases c : p.1 ≤ i
        · simp [eget, Rop.run, on2I, pB, Vx.W.fzT, c]
        · simp [eget, Rop.run, on2I, pB, Vx.W.fzT, c])).2
    have ha : (fo.any fun i => decide (p.1 ≤ i) && decide (i ≤ p.2)) = true := by
      rw [List.any_eq_true]
      obtain ⟨d, d1, d2, d3⟩ := hp p List.mem_cons_self
      exact ⟨d, d1, by simp [d2, d3]⟩
    have st : S.sems (Dn 3) b7 [none, some B, some (rsW rs), some (rsD rs), t, none, some (iW fo), some (iW sh), x8, some (.fl (.int p.1)), some (.fl (.int p.2)), x11, x12, x13, x14] = .nx [none, some B, some (rsW rs), some (rsD rs), t, none, some (iW fo), some (iW sh), x8, some (.fl (.int p.1)), some (.fl (.int p.2)), x11, x12, x13, none] := by
      unfold b7
      rw [sts_cons, st_iff, ev_not, a, ha]
      simp
    obtain ⟨y9, y10, y14, ih⟩ := loop7 x8 x11 x12 x13 h1 ps (some (.fl (.int p.1))) (some (.fl (.int p.2))) none fun q hq => hp q (List.mem_cons_of_mem _ hq)
    exact ⟨y9, y10, y14, by rw [List.map_cons, for_nx eb st]; exact ih⟩
theorem l7 (x8 x9 x10 x11 x12 x13 x14 : Option W) (h1 : fo.length ≤ 1000) (hp : ∀ p ∈ rs, ∃ d ∈ fo, p.1 ≤ d ∧ d ≤ p.2) : ∃ y9 y10 y14, S.sem (Dn 3) (.forr (.tp [.nm 9, .nm 10]) (.sq (.bo (.sl 2))) b7) [none, some B, some (rsW rs), some (rsD rs), t, none, some (iW fo), some (iW sh), x8, x9, x10, x11, x12, x13, x14] =
    .nx [none, some B, some (rsW rs), some (rsD rs), t, none, some (iW fo), some (iW sh), x8, y9, y10, x11, x12, x13, y14] := by
  obtain ⟨y9, y10, y14, e⟩ := loop7 B rs t fo sh x8 x11 x12 x13 h1 rs x9 x10 x14 hp
  refine ⟨y9, y10, y14, ?_⟩
  have er : rsW rs = newL (rs.map tp2) := by
    unfold rsW newL
    rw [List.map_map]
    rfl
  have el : (rsW rs).lstD = some (rs.map tp2) := by
    rw [er]
    exact lstD_newL _
  have eI : It.sem (Dn 3) (.sq (.bo (.sl 2))) [none, some B, some (rsW rs), some (rsD rs), t, none, some (iW fo), some (iW sh), x8, x9, x10, x11, x12, x13, x14] = .ok (rs.map fun p => W.fl (tp2 p), [none, some B, some (rsW rs), some (rsD rs), t, none, some (iW fo), some (iW sh), x8, x9, x10, x11, x12, x13, x14]) := by
    simp [eget, el]
  rw [st_for, eI]
  exact e
def b8 : List S := [.iff (.op .anyB [(.tm (.lc [("_law_other", 13)] (.nm 13) (.sq (.bo (.sl 7))) none (.and (.op .neF [(.bo (.sl 13)), (.bo (.sl 11))]) (.call 8 [(.va (.gt (.ix (.sl 2) (.gt (.sl 11))))), (.va (.gt (.ix (.sl 2) (.gt (.sl 13)))))]))))]) [.ret (.con (.bl false))] []]
theorem loop8 (x8 x9 x10 x12 x14 : Option W) (h1 : sh.length ≤ 1000) (hs : ∀ a ∈ sh, ∃ j : Nat, a = j ∧ j < rs.length) : ∀ (ps : List Int) (x11 x13 : Option W), (∀ a ∈ ps, a ∈ sh) → (∀ a ∈ sh, ∀ b ∈ sh, b ≠ a → ¬ mx (at2 rs a).1 (at2 rs b).1 ≤ mn (at2 rs a).2 (at2 rs b).2) → ∃ y11 y13, forFold (Tg.bind (.nm 11)) (S.sems (Dn 3) b8) (ps.map fun i => W.fl (.int i)) [none, some B, some (rsW rs), some (rsD rs), t, none, some (iW fo), some (iW sh), x8, x9, x10, x11, x12, x13, x14] =
    .nx [none, some B, some (rsW rs), some (rsD rs), t, none, some (iW fo), some (iW sh), x8, x9, x10, y11, x12, y13, x14]
  | [], x11, x13, _, _ => ⟨x11, x13, rfl⟩
  | p :: ps, x11, x13, hp, hd => by
    have pm := hp p List.mem_cons_self
    obtain ⟨j, e1, hj⟩ := hs p pm
    have eb : Tg.bind (.nm 11) (.fl (.int p)) [none, some B, some (rsW rs), some (rsD rs), t, none, some (iW fo), some (iW sh), x8, x9, x10, x11, x12, x13, x14] = some [none, some B, some (rsW rs), some (rsD rs), t, none, some (iW fo), some (iW sh), x8, x9, x10, some (.fl (.int p)), x12, x13, x14] := by
      simp [Tg.bind]
    have a := (allW (Γ := Dn 3) (x := "_law_other") (v := 13) (o := .bo (.sl 7)) (r0 := [none, some B, some (rsW rs), some (rsD rs), t, none, some (iW fo), some (iW sh), x8, x9, x10, some (.fl (.int p)), x12, x13, x14]) (ns := sh) (f := fun i => decide (i ≠ p) && decide (mx (at2 rs p).1 (at2 rs i).1 ≤ mn (at2 rs p).2 (at2 rs i).2))
      (e := .and (.op .neF [(.bo (.sl 13)), (.bo (.sl 11))]) (.call 8 [(.va (.gt (.ix (.sl 2) (.gt (.sl 11))))), (.va (.gt (.ix (.sl 2) (.gt (.sl 13)))))])) (by simp) h1 (it_iW rfl) (fun i hi => by
        obtain ⟨k, k1, hk⟩ := hs i hi
        have m := meet_eq 2 rs[j] rs[k]
        have a1 : at2 rs p = rs[j] := by rw [e1]; exact at2_nat hj
        have a2 : at2 rs i = rs[k] := by rw [k1]; exact at2_nat hk
        rw [a1, a2]
        by_cases c : i = p
        · simp [eget, Rop.run, on2, pB, Vx.W.fzT, eqF?, Vx.W.flat?, scal, D.v, c]
        · have g1 : (rsW rs).get [j] = some (.fl (tp2 rs[j])) := by simp [rsW, hj, pw, tp2]
          have g2 : (rsW rs).get [k] = some (.fl (tp2 rs[k])) := by simp [rsW, hk, pw, tp2]
          have s1 : stepIx (rsW rs) (.fl (.int p)) = some j := by simp [stepIx, rsW, Vx.W.kids, ixN, e1, hj]
          have s2 : stepIx (rsW rs) (.fl (.int i)) = some k := by simp [stepIx, rsW, Vx.W.kids, ixN, k1, hk]
          simp [eget, Rop.run, on2, pB, Vx.W.fzT, eqF?, Vx.W.flat?, scal, D.v, c, takeIo, putIo, g1, g2, s1, s2, m])).2
    have ha : (sh.any fun i => decide (i ≠ p) && decide (mx (at2 rs p).1 (at2 rs i).1 ≤ mn (at2 rs p).2 (at2 rs i).2)) = false := by
      rw [List.any_eq_false]
      intro i hi
      by_cases c : i = p
      · simp [c]
      · have := hd p pm i hi c
        simp only [this, decide_false, Bool.and_false]
        simp
    have st : S.sems (Dn 3) b8 [none, some B, some (rsW rs), some (rsD rs), t, none, some (iW fo), some (iW sh), x8, x9, x10, some (.fl (.int p)), x12, x13, x14] = .nx [none, some B, some (rsW rs), some (rsD rs), t, none, some (iW fo), some (iW sh), x8, x9, x10, some (.fl (.int p)), x12, none, x14] := by
      unfold b8
      rw [sts_cons, st_iff, a, ha]
      simp
    obtain ⟨y11, y13, ih⟩ := loop8 x8 x9 x10 x12 x14 h1 hs ps (some (.fl (.int p))) none (fun q hq => hp q (List.mem_cons_of_mem _ hq)) hd
    exact ⟨y11, y13, by rw [List.map_cons, for_nx eb st]; exact ih⟩
end
end K16
end

section
set_option maxHeartbeats 1000000
namespace K16
open PySem L2 Vx
theorem zip_lt : ∀ {ns : List Int}, ns.Pairwise (· < ·) → ∀ p ∈ ns.zip ns.tail, p.1 < p.2
  | [], _, p, h => by simp at h
  | [a], _, p, h => by simp at h
  | a :: c :: l, hp, p, h => by
    have hp2 := List.pairwise_cons.mp hp
    have h' : p ∈ (a, c) :: (c :: l).zip l := h
    rcases List.mem_cons.mp h' with z | z
    · rw [z]
      exact hp2.1 c List.mem_cons_self
    · exact zip_lt hp2.2 p z
theorem zipW_ii : ∀ (xs ys : List Int), zipW (xs.map D.int) (ys.map D.int) = (xs.zip ys).map fun p => W.fl (tp2 p)
  | [], _ => rfl
  | _ :: _, [] => rfl
  | x :: xs, y :: ys => by
    show W.fl (.nd .tup [.int x, .int y]) :: zipW (xs.map D.int) (ys.map D.int) = _
    rw [zipW_ii xs ys]
    rfl
theorem cut1 (ds : List D) : cutD ds (some 1) none = ds.drop 1 := by
  unfold cutD
  have e1 : HT.sIx ds.length 0 (some 1) = min 1 ds.length := HT.sIx_nat _ _ 1
  have e2 : HT.sIx ds.length ds.length none = ds.length := rfl
  rw [e1, e2]
  cases ds with
  | nil => rfl
  | cons d ds =>
    have e : min 1 (d :: ds).length = 1 := by simp
    rw [e]
    simp
section
variable (B : W) (rs : List (Int × Int)) (t : Option W) (fo sh : List Int)
def b5 : List S := [.iff (.not (.op .allB [(.tm cmpE)])) [.ret (.con (.bl false))] []]
def dL (ns : List Int) : W := .fl (.nd .lst (ns.map D.int))
theorem row_ok (x9 x10 x11 x12 x13 x14 : Option W) (ns : List Int) (hl : ns.length ≤ 1000) (hp : ns.Pairwise (· < ·)) : S.sems (Dn 3) b5 [none, some B, some (rsW rs), some (rsD rs), t, none, some (dL fo), some (dL sh), some (dL ns), x9, x10, x11, x12, x13, x14] =
    .nx [none, some B, some (rsW rs), some (rsD rs), t, none, some (dL fo), some (dL sh), some (dL ns), x9, x10, x11, none, none, x14] := by
  have eI : It.sem (Dn 3) (.zp (.bo (.sl 8)) (.tm (.op (.slice true false) [(.bo (.sl 8)), (.tm (.con (.int 1)))]))) [none, some B, some (rsW rs), some (rsD rs), t, none, some (dL fo), some (dL sh), some (dL ns), x9, x10, x11, x12, x13, x14] = .ok ((ns.zip ns.tail).map fun p => W.fl (tp2 p), [none, some B, some (rsW rs), some (rsD rs), t, none, some (dL fo), some (dL sh), some (dL ns), x9, x10, x11, x12, x13, x14]) := by
    have e1 : slice? (dL ns) (some 1) none = some (newL ((ns.tail).map D.int)) := by
      show some (newL (cutD (ns.map D.int) (some 1) none)) = _
      rw [cut1, ← List.map_drop, List.drop_one]
    have e2 : (newL ((ns.tail).map D.int)).dat = .nd .lst ((ns.tail).map D.int) := dat_flm _
    have e3 : (dL ns).lstD = some (ns.map D.int) := rfl
    have e4 : ∀ l : List D, (newL l).fzT = newL l := fun _ => rfl
    have es : E.sem (Dn 3) (.op (.slice true false) [(.bo (.sl 8)), (.tm (.con (.int 1)))]) [none, some B, some (rsW rs), some (rsD rs), t, none, some (dL fo), some (dL sh), some (dL ns), x9, x10, x11, x12, x13, x14] = .ok (newL ((ns.tail).map D.int), [none, some B, some (rsW rs), some (rsD rs), t, none, some (dL fo), some (dL sh), some (dL ns), x9, x10, x11, x12, x13, x14]) := by
      simp [eget, Rop.run, on2, Vx.W.int?, D.flat, e1, e4]
    have eo : O.sem (Dn 3) (.bo (.sl 8)) [none, some B, some (rsW rs), some (rsD rs), t, none, some (dL fo), some (dL sh), some (dL ns), x9, x10, x11, x12, x13, x14] = .ok (.p (8, []), [none, some B, some (rsW rs), some (rsD rs), t, none, some (dL fo), some (dL sh), some (dL ns), x9, x10, x11, x12, x13, x14]) := by simp
    rw [it_zp, eo]
    simp only [res_bind_ok]
    rw [ov_tm, es]
    simp only [res_bind_ok, List.getElem?_cons_succ, List.getElem?_cons_zero, rval_t, rval_p, e2, eget, wget_nil, Option.bind_some, e3, lstD_fl, zipW_ii]
  have el : E.sem (Dn 3) cmpE [none, some B, some (rsW rs), some (rsD rs), t, none, some (dL fo), some (dL sh), some (dL ns), x9, x10, x11, x12, x13, x14] = .ok (.nd .lst ((ns.zip ns.tail).map fun p => W.fl (.bl (decide (p.1 < p.2)))), [none, some B, some (rsW rs), some (rsD rs), t, none, some (dL fo), some (dL sh), some (dL ns), x9, x10, x11, none, none, x14]) := by
    have hz : (ns.zip ns.tail).length ≤ 1000 := by
      rw [List.length_zip]
      omega
    unfold cmpE
    rw [ev_lc0, eI]
    show ((lcFold _ _ _ [12, 13] _ [] [none, some B, some (rsW rs), some (rsD rs), t, none, some (dL fo), some (dL sh), some (dL ns), x9, x10, x11, none, none, x14]).bind _) = _
    rw [lcZ (by simp) (by simp) (ns.zip ns.tail) [] (by simpa using hz)]
    simp
  have ht : ((ns.zip ns.tail).map fun p => W.fl (.bl (decide (p.1 < p.2)))) = ((ns.zip ns.tail).map fun _ => D.bl true).map W.fl := by
    rw [List.map_map]
    refine List.map_congr_left fun p hpm => ?_
    have := zip_lt hp p hpm
    simp [this]
  have eb : ∀ l : List (Int × Int), dBls (l.map fun _ => D.bl true) = some (l.map fun _ => true) := fun l => by
    induction l with
    | nil => rfl
    | cons n l ih =>
      show (dBls (l.map fun _ => D.bl true)).map (true :: ·) = _
      rw [ih]
      rfl
  have eA : E.sem (Dn 3) (.op .allB [(.tm cmpE)]) [none, some B, some (rsW rs), some (rsD rs), t, none, some (dL fo), some (dL sh), some (dL ns), x9, x10, x11, x12, x13, x14] = .ok (.fl (.bl true), [none, some B, some (rsW rs), some (rsD rs), t, none, some (dL fo), some (dL sh), some (dL ns), x9, x10, x11, none, none, x14]) := by
    rw [ev_op, ovs_cons, ov_tm, el]
    simp only [res_bind_ok, ovs_nil, List.mapM_cons, List.mapM_nil, rval_t, ht, dat_flm]
    simp [Rop.run, on1, lstD_fl, eb, pB, Vx.W.fzT]
  unfold b5
  rw [sts_cons, st_iff, ev_not, eA]
  simp
def st5 : S := .forr (.nm 8) (.sq (.tm (.lst [(.gt (.sl 6)), (.gt (.sl 7))]))) b5
theorem l5 (x8 x9 x10 x11 x12 x13 x14 : Option W) (h1 : fo.length ≤ 1000) (h2 : sh.length ≤ 1000) (p1 : fo.Pairwise (· < ·)) (p2 : sh.Pairwise (· < ·)) : S.sem (Dn 3) (holdS [6, 7] st5) [none, some B, some (rsW rs), some (rsD rs), t, none, some (iW fo), some (iW sh), x8, x9, x10, x11, x12, x13, x14] =
    .nx [none, some B, some (rsW rs), some (rsD rs), t, none, some (iW fo), some (iW sh), none, x9, x10, x11, none, none, x14] := by
  have ms : st5.mods = [8, 12, 13] := by decide +kernel
  have fz : frzE [none, some B, some (rsW rs), some (rsD rs), t, none, some (iW fo), some (iW sh), x8, x9, x10, x11, x12, x13, x14] [6, 7] = [none, some B, some (rsW rs), some (rsD rs), t, none, some (dL fo), some (dL sh), x8, x9, x10, x11, x12, x13, x14] := by
    simp [frzE, iW_dat, dL]
  have e : S.sem (Dn 3) st5 [none, some B, some (rsW rs), some (rsD rs), t, none, some (dL fo), some (dL sh), x8, x9, x10, x11, x12, x13, x14] = .nx [none, some B, some (rsW rs), some (rsD rs), t, none, some (dL fo), some (dL sh), some (dL sh), x9, x10, x11, none, none, x14] := by
    have eI : It.sem (Dn 3) (.sq (.tm (.lst [(.gt (.sl 6)), (.gt (.sl 7))]))) [none, some B, some (rsW rs), some (rsD rs), t, none, some (dL fo), some (dL sh), x8, x9, x10, x11, x12, x13, x14] = .ok ([dL fo, dL sh], [none, some B, some (rsW rs), some (rsD rs), t, none, some (dL fo), some (dL sh), x8, x9, x10, x11, x12, x13, x14]) := by
      simp [eget, dL, small, lstD_fl]
    have eb1 : Tg.bind (.nm 8) (dL fo) [none, some B, some (rsW rs), some (rsD rs), t, none, some (dL fo), some (dL sh), x8, x9, x10, x11, x12, x13, x14] = some [none, some B, some (rsW rs), some (rsD rs), t, none, some (dL fo), some (dL sh), some (dL fo), x9, x10, x11, x12, x13, x14] := by simp [Tg.bind]
    have eb2 : Tg.bind (.nm 8) (dL sh) [none, some B, some (rsW rs), some (rsD rs), t, none, some (dL fo), some (dL sh), some (dL fo), x9, x10, x11, none, none, x14] = some [none, some B, some (rsW rs), some (rsD rs), t, none, some (dL fo), some (dL sh), some (dL sh), x9, x10, x11, none, none, x14] := by simp [Tg.bind]
    unfold st5
    rw [st_for, eI, Res.out_ok]
    dsimp only
    rw [for_nx eb1 (row_ok B rs t fo sh x9 x10 x11 x12 x13 x14 fo h1 p1), for_nx eb2 (row_ok B rs t fo sh x9 x10 x11 none none x14 sh h2 p2), for_nil]
  unfold holdS
  rw [hold_sem, ms]
  dsimp only
  rw [fz, e]
  simp [thawE, wipeE]
end
end K16
end

section
set_option maxHeartbeats 1000000
namespace K16
open PySem L2 Vx
theorem gr_len (rs : List (Int × Int)) : ∀ (so : List (Int × Int)) (s : List Int × List Int), (gr rs so s).2.length ≤ s.2.length + so.length
  | [], s => Nat.le_refl _
  | p :: so, s => by
    show (if _ then gr rs so (s.1 ++ [p.1], s.2 ++ [p.2]) else gr rs so s).2.length ≤ s.2.length + (so.length + 1)
    split
    · have := gr_len rs so (s.1 ++ [p.1], s.2 ++ [p.2])
      simp at this
      omega
    · have := gr_len rs so s
      omega
theorem pw_any {R : Int → Int → Prop} : ∀ {l : List Int}, l.Pairwise R → ∀ a ∈ l, ∀ b ∈ l, b ≠ a → R a b ∨ R b a
  | [], _, a, ha, _, _, _ => by cases ha
  | x :: l, hp, a, ha, b, hb, hne => by
    have hp2 := List.pairwise_cons.mp hp
    rcases List.mem_cons.mp ha with z | z
    · rcases List.mem_cons.mp hb with y | y
      · exact (hne (y.trans z.symm)).elim
      · rw [z]
        exact .inl (hp2.1 b y)
    · rcases List.mem_cons.mp hb with y | y
      · rw [y]
        exact .inr (hp2.1 a z)
      · exact pw_any hp2.2 a z b y hne
structure Fin16 (rs : List (Int × Int)) (fo sh : List Int) : Prop where
  p : fo.Pairwise (· < ·)
  q : sh.Pairwise (· < ·)
  l1 : fo.length ≤ 1000
  l2 : sh.length ≤ 1000
  l3 : fo.length = sh.length
  r : ∀ a ∈ sh, ∃ j : Nat, a = j ∧ j < rs.length
  c : ∀ p ∈ rs, ∃ d ∈ fo, p.1 ≤ d ∧ d ≤ p.2
  d : ∀ a ∈ sh, ∀ b ∈ sh, b ≠ a → ¬ mx (at2 rs a).1 (at2 rs b).1 ≤ mn (at2 rs a).2 (at2 rs b).2
theorem fin16 (rs : List (Int × Int)) (hl : rs.length ≤ 1000) (hr : ∀ p ∈ rs, p.1 ≤ p.2) : Fin16 rs (gr rs (srt rs) ([], [])).1 (sI (gr rs (srt rs) ([], [])).2) := by
  have hs : (srt rs).Pairwise (fun p q => p.1 ≤ q.1) := by
    have h := List.pairwise_mergeSort (le := fun p q : Int × Int => decide (p.1 < q.1 ∨ (p.1 = q.1 ∧ p.2 ≤ q.2))) (by
      intro a b c h1 h2
      simp only [decide_eq_true_eq] at *
      omega) (by
      intro a b
      simp only [Bool.or_eq_true, decide_eq_true_eq]
      omega) (itF 0 rs)
    refine List.Pairwise.imp ?_ h
    intro a b h
    simp only [decide_eq_true_eq] at h
    omega
  have hin : ∀ p ∈ srt rs, ∃ j : Nat, p.2 = j ∧ ∃ h : j < rs.length, rs[j].2 = p.1 := fun p hp => by
    have hp' : p ∈ itF 0 rs := by
      unfold srt at hp
      exact List.mem_mergeSort.mp hp
    obtain ⟨j, h1, h2, h3⟩ := itF_mem hp'
    exact ⟨j, by simpa using h1, h2, h3⟩
  obtain ⟨g, _, cov⟩ := gr_ok hr (srt rs) [] [] hs hin ⟨List.Pairwise.nil, (fun x hx => by cases hx), rfl, List.Pairwise.nil, (fun a ha => by cases ha)⟩
  have len := gr_len rs (srt rs) ([], [])
  have lsrt : (srt rs).length = rs.length := by
    unfold srt
    rw [List.length_mergeSort, itF_len]
  obtain ⟨fo, hfo⟩ : ∃ fo, fo = (gr rs (srt rs) ([], [])).1 := ⟨_, rfl⟩
  obtain ⟨sh, hsh⟩ : ∃ sh, sh = (gr rs (srt rs) ([], [])).2 := ⟨_, rfl⟩
  rw [← hfo, ← hsh] at g ⊢
  rw [← hfo] at cov
  rw [← hsh] at len
  have ms : ∀ a, a ∈ sI sh ↔ a ∈ sh := fun a => by
    unfold sI
    exact List.mem_mergeSort
  have lms : (sI sh).length = sh.length := by
    unfold sI
    exact List.length_mergeSort _
  have lfo : fo.length = sh.length := by rw [g.e, List.length_map]
  have hlow : ∀ a ∈ sh, (at2 rs a).1 ≤ (at2 rs a).2 := fun a ha => by
    obtain ⟨j, e, hj⟩ := g.r a ha
    rw [e, at2_nat hj]
    exact hr _ (List.getElem_mem hj)
  have nd : sh.Nodup := by
    have h2 : sh.Pairwise (fun a b => a ∈ sh ∧ (at2 rs a).2 < (at2 rs b).1 ∧ (at2 rs b).1 ≤ (at2 rs b).2) := by
      refine List.Pairwise.imp_of_mem ?_ g.d
      intro a b ha hb h
      exact ⟨ha, h, hlow b hb⟩
    refine List.Pairwise.imp ?_ h2
    rintro a b ⟨_, h1, h2⟩ e
    subst e
    omega
  simp only [List.length_nil, Nat.zero_add] at len
  refine ⟨g.p, ?_, by omega, by omega, by omega, fun a ha => g.r a ((ms a).mp ha), fun p hp => ?_, fun a ha b hb hne => ?_⟩
  · have h := List.pairwise_mergeSort (le := fun a b : Int => decide (a ≤ b)) (by
      intro a b c h1 h2
      simp only [decide_eq_true_eq] at *
      omega) (by
      intro a b
      simp only [Bool.or_eq_true, decide_eq_true_eq]
      omega) sh
    have nd2 : (sI sh).Nodup := (List.mergeSort_perm sh _).nodup_iff.mpr nd
    have h' : (sI sh).Pairwise (fun a b => a ≤ b) := List.Pairwise.imp (fun h => of_decide_eq_true h) h
    refine List.Pairwise.imp ?_ (List.Pairwise.and h' nd2)
    rintro a b ⟨h1, h2⟩
    omega
  · obtain ⟨j, hj, e⟩ := List.mem_iff_getElem.mp hp
    have hm : (rs[j].2, ((0 + j : Nat) : Int)) ∈ srt rs := by
      unfold srt
      exact List.mem_mergeSort.mpr (itF_all hj)
    obtain ⟨d, d1, d2, d3⟩ := cov _ hm
    have e2 : at2 rs ((0 + j : Nat) : Int) = rs[j] := by
      rw [Nat.zero_add]
      exact at2_nat hj
    dsimp only at d2 d3
    rw [e2, e] at d2
    rw [e] at d3
    exact ⟨d, d1, d2, d3⟩
  · have h := pw_any g.d a ((ms a).mp ha) b ((ms b).mp hb) hne
    have l1 := hlow a ((ms a).mp ha)
    have l2 := hlow b ((ms b).mp hb)
    unfold mx mn
    rcases h with h | h <;> (split <;> split <;> omega)
end K16
end

section
set_option maxHeartbeats 1000000
namespace K16
open PySem L2 Vx
def bt : List S := match b_law with
  | [_, _, .forr _ _ b, _] => b
  | _ => []
theorem app2 (B : W) (rs : List (Int × Int)) (t x8 x9 x10 x11 x12 x13 x14 : Option W) (fo sh : List Int) (h1 : fo.length ≤ 1000) (h2 : sh.length ≤ 1000) : S.sems (Dn 3) [.app (.sl 6) (.con (.int 200)), .app (.sl 7) (.con (.int 0))] [none, some B, some (rsW rs), some (rsD rs), t, none, some (iW fo), some (iW sh), x8, x9, x10, x11, x12, x13, x14] =
    .nx [none, some B, some (rsW rs), some (rsD rs), t, none, some (iW (fo ++ [200])), some (iW (sh ++ [0])), x8, x9, x10, x11, x12, x13, x14] := by
  have z1 : fo.length + 1 ≤ 100000 := by omega
  have z2 : sh.length + 1 ≤ 100000 := by omega
  simp [eget, D.flat, isL, onL, iW, small, Vx.W.sub, Vx.W.setAt, Vx.W.put, z1, z2]
theorem turn (B : W) (rs : List (Int × Int)) (hl : rs.length ≤ 1000) (hr : ∀ p ∈ rs, p.1 ≤ p.2) (hd : W) (h : hd = rsW rs ∨ hd = rsD rs) (t x5 x6 x7 x8 x9 x10 x11 x12 x13 x14 : Option W) : ∃ y6 y7 y9 y10 y11 y13 y14, S.sems (Dn 3) bt [none, some B, some (rsW rs), some hd, t, x5, x6, x7, x8, x9, x10, x11, x12, x13, x14] =
    .nx [none, some B, some (rsW rs), some (rsD rs), t, none, y6, y7, none, y9, y10, y11, none, y13, y14] := by
  have F := fin16 rs hl hr
  obtain ⟨fo, hfo⟩ : ∃ fo, fo = (gr rs (srt rs) ([], [])).1 := ⟨_, rfl⟩
  obtain ⟨sh, hsh⟩ : ∃ sh, sh = sI (gr rs (srt rs) ([], [])).2 := ⟨_, rfl⟩
  have a1 := l1 B rs t x5 x6 x7 x8 x9 x10 x11 x12 x13 x14 hd h hl
  rw [← hfo, ← hsh] at F a1
  have a2 := l2 B rs t x6 x7 x8 x9 x10 x11 x12 x13 x14 fo sh
  have a3 := l3 B rs t x6 x7 x8 x9 x10 x11 x12 x13 x14 fo sh
  have a4 := l4 B rs t x8 x9 x10 x11 x12 x13 x14 fo sh F.l1 F.l2 F.l3
  have a5 := l5 B rs t fo sh x8 x9 x10 x11 x12 x13 x14 F.l1 F.l2 F.p F.q
  have a6 := l6 B rs t none x9 x10 x11 none none x14 fo sh F.l2 hl (fun a ha => by
    obtain ⟨j, e, hj⟩ := F.r a ha
    omega)
  obtain ⟨y9, y10, y14, a7⟩ := l7 B rs t fo sh none x9 x10 none none none x14 F.l1 F.c
  obtain ⟨y11, y13, e8⟩ := loop8 B rs t fo sh none y9 y10 none y14 F.l2 F.r sh none none (fun a ha => ha) F.d
  have a8 : S.sem (Dn 3) (.forr (.nm 11) (.sq (.bo (.sl 7))) b8) [none, some B, some (rsW rs), some (rsD rs), t, none, some (iW fo), some (iW sh), none, y9, y10, none, none, none, y14] = .nx [none, some B, some (rsW rs), some (rsD rs), t, none, some (iW fo), some (iW sh), none, y9, y10, y11, none, y13, y14] := by
    rw [st_for, it_iW rfl]
    exact e8
  have a9 := app2 B rs t none y9 y10 y11 none y13 y14 fo sh F.l1 F.l2
  refine ⟨some (iW (fo ++ [200])), some (iW (sh ++ [0])), y9, y10, y11, y13, y14, ?_⟩
  have eb : bt = [.asg 5 (.call 0 [(.va (.rd (.sl 3)))]), .iff (.or (.not (.op (.isI "tuple") [(.bo (.sl 5))])) (.or (.op .neF [(.tm (.op .len [(.bo (.sl 5))])), (.tm (.con (.int 2)))]) (.op .neD [(.bo (.sl 3)), (.bo (.sl 2))]))) [.ret (.con (.bl false))] [], .unp (.tp [(.nm 6), (.nm 7)]) (.mv 5), holdS [6, 7] st4, holdS [6, 7] st5, st6,
    .forr (.tp [.nm 9, .nm 10]) (.sq (.bo (.sl 2))) b7, .forr (.nm 11) (.sq (.bo (.sl 7))) b8, .app (.sl 6) (.con (.int 200)), .app (.sl 7) (.con (.int 0))] := rfl
  rw [eb, sts_cons, a1, Out.then_nx, sts_cons, a2, Out.then_nx, sts_cons, a3, Out.then_nx, sts_cons, a4, Out.then_nx, sts_cons, a5, Out.then_nx, sts_cons, a6, Out.then_nx, sts_cons, a7, Out.then_nx, sts_cons, a8, Out.then_nx]
  exact a9
theorem law_den : ∀ ns : List Int, ns.length ≤ 63 → ∃ r, S.sems (Dn 3) b_law (none :: some (boxW ns 0 0 0 (seedOf ns)) :: List.replicate (N_law.length - 2) none) = .rt (.fl (.bl true)) r := fun ns hn => by
  obtain ⟨v, b1, c1, c2, c3, e1⟩ := count_ex 0 ⟨ns, 0, 0, 0, seedOf ns⟩ 12 40 (by omega) (by omega) (by omega) (by omega) hn
  obtain ⟨b2, rs, d1, d2, e2⟩ := ranges_ex 0 b1 v c1 c2 c3
  have hl : rs.length ≤ 1000 := by omega
  have s1 : S.sem (Dn 3) (.asg 2 (.call 7 [(.io 1), (.va (.call 6 [(.io 1), (.va (.con (.int 12))), (.va (.con (.int 40)))]))])) [none, some (Bx.w ⟨ns, 0, 0, 0, seedOf ns⟩), none, none, none, none, none, none, none, none, none, none, none, none, none] = .nx [none, some b2.w, some (rsW rs), none, none, none, none, none, none, none, none, none, none, none, none] := by
    simp [D.flat, takeIo, putIo, e1, e2]
  have er : rsW rs = newL (rs.map tp2) := by
    unfold rsW newL
    rw [List.map_map]
    rfl
  have sq : (rsW rs).seqD = some (rs.map tp2) := by
    have h := lstD_newL (rs.map tp2)
    rw [← er] at h
    have h2 := lstD_inv h
    unfold W.seqD
    rw [h2]
  have s2 : S.sem (Dn 3) (.asg 3 (.op .listOf [(.bo (.sl 2))])) [none, some b2.w, some (rsW rs), none, none, none, none, none, none, none, none, none, none, none, none] = .nx [none, some b2.w, some (rsW rs), some (rsW rs), none, none, none, none, none, none, none, none, none, none, none] := by
    have ef : (newL (rs.map tp2)).fzT = newL (rs.map tp2) := rfl
    simp [eget, Rop.run, on1, sq, ← er]
    rw [er]
    exact ef
  obtain ⟨y6, y7, y9, y10, y11, y13, y14, t1⟩ := turn b2.w rs hl d2 (rsW rs) (.inl rfl) (some (.fl (.int 0))) none none none none none none none none none none
  obtain ⟨z6, z7, z9, z10, z11, z13, z14, t2⟩ := turn b2.w rs hl d2 (rsD rs) (.inr rfl) (some (.fl (.int 1))) none y6 y7 none y9 y10 y11 none y13 y14
  have s3 : S.sem (Dn 3) (.forr (.nm 4) (.r1 (.con (.int 2))) bt) [none, some b2.w, some (rsW rs), some (rsW rs), none, none, none, none, none, none, none, none, none, none, none] = .nx [none, some b2.w, some (rsW rs), some (rsD rs), some (.fl (.int 1)), none, z6, z7, none, z9, z10, z11, none, z13, z14] := by
    have eI : It.sem (Dn 3) (.r1 (.con (.int 2))) [none, some b2.w, some (rsW rs), some (rsW rs), none, none, none, none, none, none, none, none, none, none, none] = .ok ([.fl (.int 0), .fl (.int 1)], [none, some b2.w, some (rsW rs), some (rsW rs), none, none, none, none, none, none, none, none, none, none, none]) := by
      simp [D.flat, within, rangeW]
      rfl
    have b1 : Tg.bind (.nm 4) (.fl (.int 0)) [none, some b2.w, some (rsW rs), some (rsW rs), none, none, none, none, none, none, none, none, none, none, none] = some [none, some b2.w, some (rsW rs), some (rsW rs), some (.fl (.int 0)), none, none, none, none, none, none, none, none, none, none] := by simp [Tg.bind]
    have b2' : Tg.bind (.nm 4) (.fl (.int 1)) [none, some b2.w, some (rsW rs), some (rsD rs), some (.fl (.int 0)), none, y6, y7, none, y9, y10, y11, none, y13, y14] = some [none, some b2.w, some (rsW rs), some (rsD rs), some (.fl (.int 1)), none, y6, y7, none, y9, y10, y11, none, y13, y14] := by simp [Tg.bind]
    rw [st_for, eI, Res.out_ok]
    dsimp only
    rw [for_nx b1 t1, for_nx b2' t2, for_nil]
  have eb : b_law = [.asg 2 (.call 7 [(.io 1), (.va (.call 6 [(.io 1), (.va (.con (.int 12))), (.va (.con (.int 40)))]))]), .asg 3 (.op .listOf [(.bo (.sl 2))]), .forr (.nm 4) (.r1 (.con (.int 2))) bt, .ret (.con (.bl true))] := rfl
  refine ⟨[none, some b2.w, some (rsW rs), some (rsD rs), some (.fl (.int 1)), none, z6, z7, none, z9, z10, z11, none, z13, z14], ?_⟩
  rw [eb]
  show S.sems (Dn 3) _ [none, some (Bx.w ⟨ns, 0, 0, 0, seedOf ns⟩), none, none, none, none, none, none, none, none, none, none, none, none, none] = _
  rw [sts_cons, s1, Out.then_nx, sts_cons, s2, Out.then_nx, sts_cons, s3, Out.then_nx, sts_cons, st_ret]
  simp [D.flat]
end K16
end

section
set_option maxHeartbeats 0
namespace K16
open PySem PySem.Spec PyProof.Rows L2 Vx
abbrev FnP (K : PySem.W.Frag) (x : Str) (st : Stmt) (f : Addr) (fd : FuncData) : Prop := FunD K x x (defArgs st) (defBody st) (defScope st) [] [] f fd
def gx (K : PySem.W.Frag) : Gx := ⟨K, fun _ => 0⟩
section
variable {P : Program} {w : World} {K : PySem.W.Frag} {mg : Str → Option Value} {base : Heap}
/-- one def of the row, by its number and its place -/
theorem one_ok {n : Nat} {f : Fn} {i : Nat} {k : Ck} {ps : List Str} {a : Addr} {fd : FuncData} {b : List S} (F : FnP K f.name (top i) a fd) (Sc : FnScope k.N ps (defScope (top i))) (hs : k.sc = defScope (top i)) (hchk : S.chks b k (defBody (top i)) = true) (hc : k.cons = [])
    (hfree : ∀ x ∈ bNames, mg x = none) (hg : mg f.name = some (.ref a)) (hfns : ∀ g ∈ k.fns, FT (gx K) (Dn n) P w K mg base n g) (hio : f.io.Nodup) (hw : ∀ i ∈ f.io, i ∉ S.wrL b) (hden : ∀ ws, Dn (n + 1) f.id ws = runF (Dn n) k.N.length f.io b ws) (hps : ps.length = f.ar)
    (hb : ∀ (kV doc pm : Value) (an : Option Addr) (cdv ct : Value) (us : List Value), us.length = ps.length → bindArgs (PySem.W.fnOf f.name f.name (defArgs (top i)) (defBody (top i)) (defScope (top i)) .none kV doc pm an cdv ct) ⟨us, []⟩ = pure (ps.zip us)) :
    FT (gx K) (Dn (n + 1)) P w K mg base (n + 1) f := by
  have q := fn_ok (c := gx K) (Γ := Dn n) (P := P) (w := w) (mg := mg) (base := base) (den := Dn (n + 1) f.id) F Sc rfl hfree (fun p hp => by rw [hc] at hp; cases hp) hfns rfl hs hchk hio hw (fun ws _ _ => (hden ws).symm)
  rw [hps] at q
  exact ⟨a, fd, ps, q, hps, hg, F.kp, F.bindsN hb⟩
def kk (k : Ck) (l : List Nat) : Ck := { k with fns := k.fns.filter fun f => l.contains f.id }
def f_settings : Fn := ⟨"settings", 0, [], 1⟩
def f_take : Fn := ⟨"_law_take", 2, [0], 2⟩
def f_mixed : Fn := ⟨"_law_mixed", 3, [], 2⟩
def f_whole : Fn := ⟨"_law_whole", 4, [], 1⟩
def f_wholes : Fn := ⟨"_law_wholes", 5, [], 1⟩
def f_count : Fn := ⟨"_law_count", 6, [0], 3⟩
def f_ranges : Fn := ⟨"_law_ranges", 7, [0], 2⟩
def f_meet : Fn := ⟨"_law_meet", 8, [], 2⟩
def c_settings : Ck := ⟨N_settings, defScope (top 1), [], [], true⟩
def c_take : Ck := ⟨N_law_take, defScope (top 4), [f_mixed], [], true⟩
def c_mixed : Ck := ⟨N_law_mixed, defScope (top 5), [], [], true⟩
def c_whole : Ck := ⟨N_law_whole, defScope (top 6), [], [], true⟩
def c_wholes : Ck := ⟨N_law_wholes, defScope (top 7), [f_whole], [], true⟩
def c_count : Ck := ⟨N_law_count, defScope (top 8), [f_take], [], true⟩
def c_ranges : Ck := ⟨N_law_ranges, defScope (top 9), [f_take], [], true⟩
def c_meet : Ck := ⟨N_law_meet, defScope (top 10), [], [], true⟩
def c_law : Ck := ⟨N_law, defScope (top 11), [f_settings, f_wholes, f_count, f_ranges, f_meet], [], true⟩
theorem h_settings : S.chks b_settings c_settings (defBody (top 1)) = true := by decide +kernel
theorem h_take : S.chks b_law_take c_take (defBody (top 4)) = true := by decide +kernel
theorem h_mixed : S.chks b_law_mixed c_mixed (defBody (top 5)) = true := by decide +kernel
theorem h_whole : S.chks b_law_whole c_whole (defBody (top 6)) = true := by decide +kernel
theorem h_wholes : S.chks b_law_wholes c_wholes (defBody (top 7)) = true := by decide +kernel
theorem h_count : S.chks b_law_count c_count (defBody (top 8)) = true := by decide +kernel
theorem h_ranges : S.chks b_law_ranges c_ranges (defBody (top 9)) = true := by decide +kernel
theorem h_meet : S.chks b_law_meet c_meet (defBody (top 10)) = true := by decide +kernel
theorem h_law : S.chks b_law c_law (defBody (top 11)).tail = true := by decide +kernel
theorem sc_settings : FnScope c_settings.N ["ranges"] (defScope (top 1)) := ⟨rfl, rfl, rfl, by decide +kernel, rfl, by decide +kernel, by decide +kernel⟩
theorem sc_box : FnScope boxN ["_law_script"] (defScope (top 3)) := ⟨rfl, rfl, rfl, by decide +kernel, rfl, by decide +kernel, by decide +kernel⟩
theorem sc_take : FnScope c_take.N ["_law_box_here", "_law_size"] (defScope (top 4)) := ⟨rfl, rfl, rfl, by decide +kernel, rfl, by decide +kernel, by decide +kernel⟩
theorem sc_mixed : FnScope c_mixed.N ["_law_number", "_law_turn"] (defScope (top 5)) := ⟨rfl, rfl, rfl, by decide +kernel, rfl, by decide +kernel, by decide +kernel⟩
theorem sc_whole : FnScope c_whole.N ["_law_found"] (defScope (top 6)) := ⟨rfl, rfl, rfl, by decide +kernel, rfl, by decide +kernel, by decide +kernel⟩
theorem sc_wholes : FnScope c_wholes.N ["_law_found"] (defScope (top 7)) := ⟨rfl, rfl, rfl, by decide +kernel, rfl, by decide +kernel, by decide +kernel⟩
theorem sc_count : FnScope c_count.N ["_law_box_here", "_law_few", "_law_most"] (defScope (top 8)) := ⟨rfl, rfl, rfl, by decide +kernel, rfl, by decide +kernel, by decide +kernel⟩
theorem sc_ranges : FnScope c_ranges.N ["_law_box_here", "_law_size"] (defScope (top 9)) := ⟨rfl, rfl, rfl, by decide +kernel, rfl, by decide +kernel, by decide +kernel⟩
theorem sc_meet : FnScope c_meet.N ["_law_one", "_law_other"] (defScope (top 10)) := ⟨rfl, rfl, rfl, by decide +kernel, rfl, by decide +kernel, by decide +kernel⟩
theorem sc_law : FnScope c_law.N ["_law_script"] (defScope (top 11)) := ⟨rfl, rfl, rfl, by decide +kernel, rfl, by decide +kernel, by decide +kernel⟩
end
def dD (i : Nat) (x : Str) : He.DefD := ⟨(x, none), x, x, defArgs (top i), defBody (top i), defScope (top i), [], []⟩
def fn : List He.DefD := [dD 1 "settings", dD 3 "_law_box", dD 4 "_law_take", dD 5 "_law_mixed", dD 6 "_law_whole", dD 7 "_law_wholes", dD 8 "_law_count", dD 9 "_law_ranges", dD 10 "_law_meet", dD 11 "law"]
def fa : List He.Fa := [.glo "settings", .glo "_law_box", .glo "_law_take", .glo "_law_mixed", .glo "_law_whole", .glo "_law_wholes", .glo "_law_count", .glo "_law_ranges", .glo "_law_meet", .glo "law"] ++ bNames.map He.Fa.free
abbrev R : PySem.W.OpenRow := PySem.W.OpenLaw.row PySem.Challenge.rw_vitrine_k16_whole_fewest_settings
abbrev hk : PySem.W.Hook := He.hookD 4 fa fn
def ob (s : PySem.W.SharedT) : He.AlD := He.obsDG 4 fa fn (HandSHeadRun.getT s)
theorem ob_eq (s : PySem.W.SharedT) : ob s = hk.obs s.abs := He.obsDG_eq (HandSHeadRun.getT_eq s)
theorem run (w : World) : HandSHeadRun.RunEq R (PySem.W.view R.prog [11]) hk ob 2000 ["settings", "_law_box", "_law_take", "_law_mixed", "_law_whole", "_law_wholes", "_law_count", "_law_ranges", "_law_meet"] w := by
  intro os
  kernel_rfl
theorem facts {P : Program} {w : World} {K : PySem.W.Frag} {h : Heap} {mg : Str → Option Value} {f : Addr} (X : K.In h) (G : h.Ns mainGlobals mg) (hfa : mg ("law" : Str) = some (.ref f)) (c : He.SaysD fa fn K) :
    ∃ fd : FuncData, (∀ (s : Shared) (v : Value), BindsTo s fd ⟨[v], []⟩ [("_law_script", v)]) ∧ ∀ base : Heap, K.In base → base.Ns mainGlobals mg → FnOk P w K mg base CX0 4 f fd ["_law_script"] (spLaw K) := by
  obtain ⟨fd_settings, F_settings⟩ := c.def_ 0 (d := dD 1 "settings") rfl
  obtain ⟨fd_box, F_box⟩ := c.def_ 1 (d := dD 3 "_law_box") rfl
  obtain ⟨fd_take, F_take⟩ := c.def_ 2 (d := dD 4 "_law_take") rfl
  obtain ⟨fd_mixed, F_mixed⟩ := c.def_ 3 (d := dD 5 "_law_mixed") rfl
  obtain ⟨fd_whole, F_whole⟩ := c.def_ 4 (d := dD 6 "_law_whole") rfl
  obtain ⟨fd_wholes, F_wholes⟩ := c.def_ 5 (d := dD 7 "_law_wholes") rfl
  obtain ⟨fd_count, F_count⟩ := c.def_ 6 (d := dD 8 "_law_count") rfl
  obtain ⟨fd_ranges, F_ranges⟩ := c.def_ 7 (d := dD 9 "_law_ranges") rfl
  obtain ⟨fd_meet, F_meet⟩ := c.def_ 8 (d := dD 10 "_law_meet") rfl
  obtain ⟨fd_law, F_law⟩ := c.def_ 9 (d := dD 11 "law") rfl
  have g_settings := He.glo_ok X G (c.fact 0 (f := .glo "settings") rfl)
  have g_box := He.glo_ok X G (c.fact 1 (f := .glo "_law_box") rfl)
  have g_take := He.glo_ok X G (c.fact 2 (f := .glo "_law_take") rfl)
  have g_mixed := He.glo_ok X G (c.fact 3 (f := .glo "_law_mixed") rfl)
  have g_whole := He.glo_ok X G (c.fact 4 (f := .glo "_law_whole") rfl)
  have g_wholes := He.glo_ok X G (c.fact 5 (f := .glo "_law_wholes") rfl)
  have g_count := He.glo_ok X G (c.fact 6 (f := .glo "_law_count") rfl)
  have g_ranges := He.glo_ok X G (c.fact 7 (f := .glo "_law_ranges") rfl)
  have g_meet := He.glo_ok X G (c.fact 8 (f := .glo "_law_meet") rfl)
  have hfree : ∀ x ∈ bNames, mg x = none := by
    intro x hx
    have hm : He.Fa.free x ∈ fa := List.mem_append_right _ (List.mem_map.mpr ⟨x, hx, rfl⟩)
    obtain ⟨i, hi, e⟩ := List.mem_iff_getElem.mp hm
    exact He.free_ok X G (c.fact i (f := .free x) (by rw [List.getElem?_eq_getElem hi, e]))
  have e := hfa.symm.trans (He.glo_ok X G (c.fact 9 (f := .glo "law") rfl))
  cases e
  have b := FunD.bindsA (ps := ["_law_script"]) F_law fun _ _ _ _ _ _ us hl => match us, hl with | [_], _ => rfl
  refine ⟨fd_law, fun s v => b s [v] rfl, fun base _ _ => ?_⟩
  have bb : Binds K fd_box ["_law_script"] [] := F_box.bindsN fun _ _ _ _ _ _ us hl => match us, hl with | [_], _ => rfl
  have BX : FnOk P w K mg base (L2.CX P w) 1 _ fd_box ["_law_script"] (spBox K) := box_ok F_box sc_box rfl rfl rfl rfl (hfree _ (by decide))
  have T1_settings : FT (gx K) (Dn 1) P w K mg base 1 f_settings := one_ok (i := 1) (f := f_settings) (k := c_settings) (b := b_settings) F_settings sc_settings rfl h_settings rfl hfree g_settings (fun g hg => by cases hg) (by decide) (fun i hi => by cases hi) (fun ws => rfl) rfl (fun _ _ _ _ _ _ us hl => match us, hl with | [_], _ => rfl)
  have T1_mixed : FT (gx K) (Dn 1) P w K mg base 1 f_mixed := one_ok (i := 5) (f := f_mixed) (k := c_mixed) (b := b_law_mixed) F_mixed sc_mixed rfl h_mixed rfl hfree g_mixed (fun g hg => by cases hg) (by decide) (fun i hi => by cases hi) (fun ws => rfl) rfl (fun _ _ _ _ _ _ us hl => match us, hl with | [_, _], _ => rfl)
  have T1_whole : FT (gx K) (Dn 1) P w K mg base 1 f_whole := one_ok (i := 6) (f := f_whole) (k := c_whole) (b := b_law_whole) F_whole sc_whole rfl h_whole rfl hfree g_whole (fun g hg => by cases hg) (by decide) (fun i hi => by cases hi) (fun ws => rfl) rfl (fun _ _ _ _ _ _ us hl => match us, hl with | [_], _ => rfl)
  have T1_meet : FT (gx K) (Dn 1) P w K mg base 1 f_meet := one_ok (i := 10) (f := f_meet) (k := c_meet) (b := b_law_meet) F_meet sc_meet rfl h_meet rfl hfree g_meet (fun g hg => by cases hg) (by decide) (fun i hi => by cases hi) (fun ws => rfl) rfl (fun _ _ _ _ _ _ us hl => match us, hl with | [_, _], _ => rfl)
  have T2_settings : FT (gx K) (Dn 2) P w K mg base 2 f_settings := one_ok (i := 1) (f := f_settings) (k := c_settings) (b := b_settings) F_settings sc_settings rfl h_settings rfl hfree g_settings (fun g hg => by cases hg) (by decide) (fun i hi => by cases hi) (fun ws => rfl) rfl (fun _ _ _ _ _ _ us hl => match us, hl with | [_], _ => rfl)
  have T2_mixed : FT (gx K) (Dn 2) P w K mg base 2 f_mixed := one_ok (i := 5) (f := f_mixed) (k := c_mixed) (b := b_law_mixed) F_mixed sc_mixed rfl h_mixed rfl hfree g_mixed (fun g hg => by cases hg) (by decide) (fun i hi => by cases hi) (fun ws => rfl) rfl (fun _ _ _ _ _ _ us hl => match us, hl with | [_, _], _ => rfl)
  have T2_whole : FT (gx K) (Dn 2) P w K mg base 2 f_whole := one_ok (i := 6) (f := f_whole) (k := c_whole) (b := b_law_whole) F_whole sc_whole rfl h_whole rfl hfree g_whole (fun g hg => by cases hg) (by decide) (fun i hi => by cases hi) (fun ws => rfl) rfl (fun _ _ _ _ _ _ us hl => match us, hl with | [_], _ => rfl)
  have T2_meet : FT (gx K) (Dn 2) P w K mg base 2 f_meet := one_ok (i := 10) (f := f_meet) (k := c_meet) (b := b_law_meet) F_meet sc_meet rfl h_meet rfl hfree g_meet (fun g hg => by cases hg) (by decide) (fun i hi => by cases hi) (fun ws => rfl) rfl (fun _ _ _ _ _ _ us hl => match us, hl with | [_, _], _ => rfl)
  have T2_take : FT (gx K) (Dn 2) P w K mg base 2 f_take := one_ok (i := 4) (f := f_take) (k := c_take) (b := b_law_take) F_take sc_take rfl h_take rfl hfree g_take (fun g hg => by
      rcases List.mem_cons.mp hg with z | z
      · rw [z]; exact T1_mixed
      · cases z) (by decide) (fun i hi => by
      have : i = 0 := List.mem_singleton.mp (show i ∈ [0] from hi)
      subst this
      decide +kernel) (fun ws => rfl) rfl (fun _ _ _ _ _ _ us hl => match us, hl with | [_, _], _ => rfl)
  have T2_wholes : FT (gx K) (Dn 2) P w K mg base 2 f_wholes := one_ok (i := 7) (f := f_wholes) (k := c_wholes) (b := b_law_wholes) F_wholes sc_wholes rfl h_wholes rfl hfree g_wholes (fun g hg => by
      rcases List.mem_cons.mp hg with z | z
      · rw [z]; exact T1_whole
      · cases z) (by decide) (fun i hi => by cases hi) (fun ws => rfl) rfl (fun _ _ _ _ _ _ us hl => match us, hl with | [_], _ => rfl)
  have T3_settings : FT (gx K) (Dn 3) P w K mg base 3 f_settings := one_ok (i := 1) (f := f_settings) (k := c_settings) (b := b_settings) F_settings sc_settings rfl h_settings rfl hfree g_settings (fun g hg => by cases hg) (by decide) (fun i hi => by cases hi) (fun ws => rfl) rfl (fun _ _ _ _ _ _ us hl => match us, hl with | [_], _ => rfl)
  have T3_mixed : FT (gx K) (Dn 3) P w K mg base 3 f_mixed := one_ok (i := 5) (f := f_mixed) (k := c_mixed) (b := b_law_mixed) F_mixed sc_mixed rfl h_mixed rfl hfree g_mixed (fun g hg => by cases hg) (by decide) (fun i hi => by cases hi) (fun ws => rfl) rfl (fun _ _ _ _ _ _ us hl => match us, hl with | [_, _], _ => rfl)
  have T3_whole : FT (gx K) (Dn 3) P w K mg base 3 f_whole := one_ok (i := 6) (f := f_whole) (k := c_whole) (b := b_law_whole) F_whole sc_whole rfl h_whole rfl hfree g_whole (fun g hg => by cases hg) (by decide) (fun i hi => by cases hi) (fun ws => rfl) rfl (fun _ _ _ _ _ _ us hl => match us, hl with | [_], _ => rfl)
  have T3_meet : FT (gx K) (Dn 3) P w K mg base 3 f_meet := one_ok (i := 10) (f := f_meet) (k := c_meet) (b := b_law_meet) F_meet sc_meet rfl h_meet rfl hfree g_meet (fun g hg => by cases hg) (by decide) (fun i hi => by cases hi) (fun ws => rfl) rfl (fun _ _ _ _ _ _ us hl => match us, hl with | [_, _], _ => rfl)
  have T3_take : FT (gx K) (Dn 3) P w K mg base 3 f_take := one_ok (i := 4) (f := f_take) (k := c_take) (b := b_law_take) F_take sc_take rfl h_take rfl hfree g_take (fun g hg => by
      rcases List.mem_cons.mp hg with z | z
      · rw [z]; exact T2_mixed
      · cases z) (by decide) (fun i hi => by
      have : i = 0 := List.mem_singleton.mp (show i ∈ [0] from hi)
      subst this
      decide +kernel) (fun ws => rfl) rfl (fun _ _ _ _ _ _ us hl => match us, hl with | [_, _], _ => rfl)
  have T3_wholes : FT (gx K) (Dn 3) P w K mg base 3 f_wholes := one_ok (i := 7) (f := f_wholes) (k := c_wholes) (b := b_law_wholes) F_wholes sc_wholes rfl h_wholes rfl hfree g_wholes (fun g hg => by
      rcases List.mem_cons.mp hg with z | z
      · rw [z]; exact T2_whole
      · cases z) (by decide) (fun i hi => by cases hi) (fun ws => rfl) rfl (fun _ _ _ _ _ _ us hl => match us, hl with | [_], _ => rfl)
  have T3_count : FT (gx K) (Dn 3) P w K mg base 3 f_count := one_ok (i := 8) (f := f_count) (k := c_count) (b := b_law_count) F_count sc_count rfl h_count rfl hfree g_count (fun g hg => by
      rcases List.mem_cons.mp hg with z | z
      · rw [z]; exact T2_take
      · cases z) (by decide) (fun i hi => by
      have : i = 0 := List.mem_singleton.mp (show i ∈ [0] from hi)
      subst this
      decide +kernel) (fun ws => rfl) rfl (fun _ _ _ _ _ _ us hl => match us, hl with | [_, _, _], _ => rfl)
  have T3_ranges : FT (gx K) (Dn 3) P w K mg base 3 f_ranges := one_ok (i := 9) (f := f_ranges) (k := c_ranges) (b := b_law_ranges) F_ranges sc_ranges rfl h_ranges rfl hfree g_ranges (fun g hg => by
      rcases List.mem_cons.mp hg with z | z
      · rw [z]; exact T2_take
      · cases z) (by decide) (fun i hi => by
      have : i = 0 := List.mem_singleton.mp (show i ∈ [0] from hi)
      subst this
      decide +kernel) (fun ws => rfl) rfl (fun _ _ _ _ _ _ us hl => match us, hl with | [_, _], _ => rfl)
  exact law0 <| law_ok (c := gx K) (Γ := Dn 3) (lv := 3) (k := c_law) (N := N_law) (b := b_law) F_law sc_law rfl hfree (fun p hp => by cases hp) (fun g hg => by
    rcases List.mem_cons.mp hg with z | z
    · rw [z]; exact T3_settings
    · rcases List.mem_cons.mp z with z | z
      · rw [z]; exact T3_wholes
      · rcases List.mem_cons.mp z with z | z
        · rw [z]; exact T3_count
        · rcases List.mem_cons.mp z with z | z
          · rw [z]; exact T3_ranges
          · rcases List.mem_cons.mp z with z | z
            · rw [z]; exact T3_meet
            · cases z) rfl rfl h_law BX g_box F_box.kp bb (by omega) rfl rfl rfl rfl rfl law_den
end K16
open PySem PySem.W PySem.Calls PyProof.Rows
theorem PySem.Challenge.cw_vitrine_k16_whole_fewest_settings_holds : PySem.Challenge.rw_vitrine_k16_whole_fewest_settings.Holds := by
  w_on; o_law
  refine HandSHeadRun.head_any (r := OpenLaw.row PySem.Challenge.rw_vitrine_k16_whole_fewest_settings) (q := view (OpenLaw.row PySem.Challenge.rw_vitrine_k16_whole_fewest_settings).prog [11]) (H := K16.hk) (ob := K16.ob) (M := 2000) (loose := ["settings", "_law_box", "_law_take", "_law_mixed", "_law_whole", "_law_wholes", "_law_count", "_law_ranges", "_law_meet"]) (d := HandSHeadRun.topDef (OpenLaw.row PySem.Challenge.rw_vitrine_k16_whole_fewest_settings).prog 11) (kwd := []) K16.ob_eq
    (by kernel_rfl) (fun s => by kernel_rfl) K16.run (by kernel_rfl) (by kernel_rfl) (by kernel_rfl) (by rfl) (by first | assumption | decide +kernel) (by decide +kernel) ⟨rfl, rfl, rfl, rfl, rfl, by decide +kernel⟩ ?hw ?hc
  case hw => w_witness2
  case hc =>
    refine L2.walk_ofE (l := PySem.Challenge.rw_vitrine_k16_whole_fewest_settings) (n := 63) (k := 4) (x := "_law_script") (CX := L2.CX0) rfl (by decide) (by kernel_rfl) ⟨rfl, by decide, by decide⟩ ?F (fun _ _ _ _ z => z)
    case F =>
      intro w mg fa h Y G hmg0
      obtain ⟨K, KX, c⟩ := Y
      have hmg : mg ("law" : PySem.Str) = some (.ref fa) := by
        have e : (HandSHeadRun.topDef (OpenLaw.row PySem.Challenge.rw_vitrine_k16_whole_fewest_settings).prog 11).name = ("law" : PySem.Str) := by kernel_rfl
        rw [← e]
        exact hmg0
      obtain ⟨fd, hb, hF⟩ := K16.facts (P := (PySem.Challenge.rw_vitrine_k16_whole_fewest_settings).prog) (w := w) KX G hmg c
      exact ⟨K, fd, Vx.spLaw K, KX, hb, fun H a ns hl _ hS => ⟨a, ns, rfl, hl, hS, fun _ => rfl⟩, hF⟩
end
