import PyProof.Rows.All
import Wide.All
import OpenK.AllK
import Wide.FinOn
import HandS.ForMost
import HandS.EndBits
import HandS.EndTab
import HandS.Nested
import HandS.NestedK
import KE.KNestM
import KE.SortData
import KE.SortKeyHeap
import KE.DataMinKey
import KE.KeyNested
import KE.DataCmp
import KE.DataMinMax
import KE.BitLaws
import HandS.TupAny
import HandS.Deep
import HandS.Style
import HandS.Flow
import HandS.RevTup
import HandS.Rev
import HandS.SortRule
import HandS.SortInts
import HandS.WideBits
import HandS.TupSets
import HandS.SetFor
import HandS.Strs
import PyProof.Rows.SetFrom
import HandS.Conv
import PyProof.TupleOfSeq
import HandS.SortKw
import HandS.HeadWalk
import HandS.HeadHook4
import HandS.Head2
import PySem.Challenge.RW_graphkinds_k75_whole_colours_and_complem
set_option Elab.async false
set_option linter.all false
set_option maxRecDepth 100000
set_option maxHeartbeats 4000000
namespace W3
open PySem PySem.Spec PyProof.Rows L2 NdefX LamX

abbrev D := PyData
/-- the world of a run: the volatile counter's address (of the pool), the tables of code objects -/
structure Pw where
  r : Option Addr
  T : List NTab
  bad : List Addr
/-- these footprints have neither the counter nor a barred place -/
def nr (P : Pw) (fp : List Addr) : Prop := ∀ a, P.r = some a ∨ a ∈ P.bad → a ∉ fp
/-- what evaluation keeps: all but tables and the counter -/
structure Ext (P : Pw) (H H' : Hp) : Prop where
  keep : ∀ b o, H b = some o → (∀ ps, o ≠ .tbl ps) → P.r ≠ some b → H' b = some o
  free : ∀ b, H' b = none → H b = none
/-- the counter stands at no more than g; the tables -/
structure WI (P : Pw) (g : Nat) (H : Hp) : Prop where
  cnt : ∀ r, P.r = some r → ∃ n : Nat, n ≤ g ∧ H r = some (.lst [.int n])
  tab : TabsN P.T H
  bad : ∀ a ∈ P.bad, H a ≠ none
theorem Ext.refl (P : Pw) (H : Hp) : Ext P H H := ⟨fun _ _ h _ _ => h, fun _ h => h⟩
theorem Ext.trans {P : Pw} {H H1 H2 : Hp} (a : Ext P H H1) (b : Ext P H1 H2) : Ext P H H2 := ⟨fun c o h n r => b.keep c o (a.keep c o h n r) n r, fun c h => a.free c (b.free c h)⟩
theorem Ext.upd {P : Pw} {H : Hp} {p : Addr} {o : HO} (h : H p = none) : Ext P H (upd H p o) := ⟨fun b u e _ _ => by
  rw [upd_ne (ne_of_none e h)]
  exact e, fun b e => by
  by_cases hb : b = p
  · subst hb; exact h
  · rwa [upd_ne hb] at e⟩
/-- a new object that is no table, no counter -/
theorem WI.upd {P : Pw} {g : Nat} {H : Hp} {p : Addr} {o : HO} (w : WI P g H) (h : H p = none) : WI P g (upd H p o) := by
  refine ⟨fun r hr => ?_, (w.tab.ext fun b u e => by rw [upd_ne (ne_of_none e h)]; exact e), fun a ha => ?_⟩
  rotate_left
  · intro z
    by_cases hb : a = p
    · rw [hb, upd_same] at z; cases z
    · rw [upd_ne hb] at z; exact w.bad a ha z
  obtain ⟨n, hn, e⟩ := w.cnt r hr
  exact ⟨n, hn, by rw [upd_ne (ne_of_none e h)]; exact e⟩
theorem WI.mono {P : Pw} {g g' : Nat} {H : Hp} (w : WI P g H) (h : g ≤ g') : WI P g' H :=
  ⟨fun r hr => let ⟨n, hn, e⟩ := w.cnt r hr; ⟨n, Nat.le_trans hn h, e⟩, w.tab, w.bad⟩

mutual
/-- v is the data d in H; fp: the lists that it holds -/
inductive Rp (K : PySem.W.Frag) (H : Hp) : V → D → List Addr → Prop
  | non : Rp K H .non .none []
  | bl (b : Bool) : Rp K H (.bl b) (.bool b) []
  | int (i : Int) : Rp K H (.int i) (.int i) []
  | str (x : Str) : PyData.strOk x = true → Rp K H (.str x) (.str x) []
  | tup {a : Addr} {vs : List V} {ds : List D} {fp : List Addr} : SqT K H a vs → Rps K H vs ds fp → Rp K H (.ref a) (.tuple ds) fp
  | lst {a : Addr} {vs : List V} {ds : List D} {fp : List Addr} : H a = some (.lst vs) → Rps K H vs ds fp → Rp K H (.ref a) (.list ds) (a :: fp)
inductive Rps (K : PySem.W.Frag) (H : Hp) : List V → List D → List Addr → Prop
  | nil : Rps K H [] [] []
  | cons {v : V} {vs : List V} {d : D} {ds : List D} {f1 f2 : List Addr} : Rp K H v d f1 → Rps K H vs ds f2 → Rps K H (v :: vs) (d :: ds) (f1 ++ f2)
end

section
variable {P : Pw} {K : PySem.W.Frag} {H H' : Hp}
theorem sqt_stay {a : Addr} {vs : List V} (h : SqT K H a vs) (k : ∀ b xs, H b = some (.tup xs) → H' b = some (.tup xs)) (kz : ∀ b o u, H b = some (.frz o u) → H' b = some (.frz o u)) : SqT K H' a vs := by
  rcases h with (h | ⟨o, h⟩) | h
  · exact .inl (.inl (k _ _ h))
  · exact .inl (.inr ⟨o, kz _ _ _ h⟩)
  · exact .inr h
mutual
theorem Rp.stay (k : ∀ b xs, H b = some (.tup xs) → H' b = some (.tup xs)) (kz : ∀ b o u, H b = some (.frz o u) → H' b = some (.frz o u)) :
    ∀ {v : V} {d : D} {fp : List Addr}, Rp K H v d fp → (∀ p ∈ fp, H' p = H p) → Rp K H' v d fp
  | _, _, _, .non, _ => .non
  | _, _, _, .bl b, _ => .bl b
  | _, _, _, .int i, _ => .int i
  | _, _, _, .str x h, _ => .str x h
  | _, _, _, .tup h hs, hp => .tup (sqt_stay h k kz) (Rps.stay k kz hs hp)
  | _, _, _, .lst h hs, hp => .lst ((hp _ List.mem_cons_self).trans h) (Rps.stay k kz hs fun p hm => hp p (List.mem_cons_of_mem _ hm))
theorem Rps.stay (k : ∀ b xs, H b = some (.tup xs) → H' b = some (.tup xs)) (kz : ∀ b o u, H b = some (.frz o u) → H' b = some (.frz o u)) :
    ∀ {vs : List V} {ds : List D} {fp : List Addr}, Rps K H vs ds fp → (∀ p ∈ fp, H' p = H p) → Rps K H' vs ds fp
  | _, _, _, .nil, _ => .nil
  | _, _, _, .cons h hs, hp => .cons (Rp.stay k kz h fun p hm => hp p (List.mem_append_left _ hm)) (Rps.stay k kz hs fun p hm => hp p (List.mem_append_right _ hm))
end
mutual
/-- the lists of a footprint stand there -/
theorem Rp.there : ∀ {v : V} {d : D} {fp : List Addr}, Rp K H v d fp → ∀ p ∈ fp, ∃ xs, H p = some (.lst xs)
  | _, _, _, .non, _, h => (nomatch h)
  | _, _, _, .bl b, _, h => (nomatch h)
  | _, _, _, .int i, _, h => (nomatch h)
  | _, _, _, .str x _, _, h => (nomatch h)
  | _, _, _, .tup _ hs, p, h => Rps.there hs p h
  | _, _, _, .lst h hs, p, hm => by
    rcases List.mem_cons.mp hm with e | hm
    · subst e; exact ⟨_, h⟩
    · exact Rps.there hs p hm
theorem Rps.there : ∀ {vs : List V} {ds : List D} {fp : List Addr}, Rps K H vs ds fp → ∀ p ∈ fp, ∃ xs, H p = some (.lst xs)
  | _, _, _, .nil, _, h => (nomatch h)
  | _, _, _, .cons h hs, p, hm => by
    rcases List.mem_append.mp hm with hm | hm
    · exact Rp.there h p hm
    · exact Rps.there hs p hm
end
/-- under an extension, where the counter is not in the footprint -/
theorem Rp.ext {v : V} {d : D} {fp : List Addr} (h : Rp K H v d fp) (e : Ext P H H') (w : WI P g H) (hr : nr P fp) : Rp K H' v d fp := by
  refine h.stay (fun b xs q => e.keep b _ q (fun ps z => by cases z) fun z => ?_) (fun b o u q => e.keep b _ q (fun ps z => by cases z) fun z => ?_) fun p hp => ?_
  · obtain ⟨n, _, y⟩ := w.cnt b z
    rw [q] at y; cases y
  · obtain ⟨n, _, y⟩ := w.cnt b z
    rw [q] at y; cases y
  · obtain ⟨xs, q⟩ := h.there p hp
    rw [q]
    exact e.keep p _ q (fun ps z => by cases z) fun z => hr p (.inl z) hp
theorem Rps.ext {vs : List V} {ds : List D} {fp : List Addr} (h : Rps K H vs ds fp) (e : Ext P H H') (w : WI P g H) (hr : nr P fp) : Rps K H' vs ds fp := by
  refine h.stay (fun b xs q => e.keep b _ q (fun ps z => by cases z) fun z => ?_) (fun b o u q => e.keep b _ q (fun ps z => by cases z) fun z => ?_) fun p hp => ?_
  · obtain ⟨n, _, y⟩ := w.cnt b z
    rw [q] at y; cases y
  · obtain ⟨n, _, y⟩ := w.cnt b z
    rw [q] at y; cases y
  · obtain ⟨xs, q⟩ := h.there p hp
    rw [q]
    exact e.keep p _ q (fun ps z => by cases z) fun z => hr p (.inl z) hp
theorem Rps.length : ∀ {vs : List V} {ds : List D} {fp : List Addr}, Rps K H vs ds fp → vs.length = ds.length
  | _, _, _, .nil => rfl
  | _, _, _, .cons _ hs => by simp [Rps.length hs]
theorem Rps.get : ∀ {vs : List V} {ds : List D} {fp : List Addr} {i : Nat} {d : D}, Rps K H vs ds fp → ds[i]? = some d → ∃ v f, vs[i]? = some v ∧ Rp K H v d f ∧ f.Sublist fp
  | _, _, _, _, _, .nil, e => by simp at e
  | _, _, _, 0, d, .cons (f1 := f1) (f2 := f2) h _, e => by
    simp at e; subst e
    exact ⟨_, _, rfl, h, List.sublist_append_left f1 f2⟩
  | _, _, _, i + 1, d, .cons (f1 := f1) (f2 := f2) _ hs, e => by
    obtain ⟨v, f, h1, h2, h3⟩ := Rps.get (i := i) hs (by simpa using e)
    exact ⟨v, f, by simpa using h1, h2, h3.trans (List.sublist_append_right f1 f2)⟩
theorem Rps.append : ∀ {vs ws : List V} {ds es : List D} {f1 f2 : List Addr}, Rps K H vs ds f1 → Rps K H ws es f2 → Rps K H (vs ++ ws) (ds ++ es) (f1 ++ f2)
  | _, _, _, _, _, _, .nil, h => h
  | _, _, _, _, _, _, .cons h hs, h2 => by
    rw [List.append_assoc]
    exact .cons h (Rps.append hs h2)
theorem Rps.one {v : V} {d : D} {f : List Addr} (h : Rp K H v d f) : Rps K H [v] [d] f := by
  have := Rps.cons h (.nil (K := K) (H := H))
  rwa [List.append_nil] at this
end

/-- no list, no dict in it; not deeper than n -/
def okd : Nat → D → Bool
  | _, .none => true
  | _, .bool _ => true
  | _, .int _ => true
  | _, .str _ => true
  | n + 1, .tuple ds => ds.all (okd n)
  | _, _ => false
mutual
/-- data without lists and dicts: footprint empty -/
def flat : D → Bool
  | .list _ => false
  | .dict _ => false
  | .tuple ds => flats ds
  | _ => true
def flats : List D → Bool
  | [] => true
  | d :: ds => flat d && flats ds
end
theorem flats_all : ∀ ds : List D, flats ds = ds.all flat
  | [] => rfl
  | d :: ds => by simp [flats, flats_all ds]
section
variable {P : Pw} {K : PySem.W.Frag} {H H' : Hp}
mutual
theorem Rp.flat : ∀ {v : V} {d : D} {fp : List Addr}, Rp K H v d fp → flat d = true → fp = []
  | _, _, _, .non, _ => rfl
  | _, _, _, .bl b, _ => rfl
  | _, _, _, .int i, _ => rfl
  | _, _, _, .str x _, _ => rfl
  | _, _, _, .tup _ hs, e => Rps.flat hs (by simpa [W3.flat] using e)
  | _, _, _, .lst _ _, e => by simp [W3.flat] at e
theorem Rps.flat : ∀ {vs : List V} {ds : List D} {fp : List Addr}, Rps K H vs ds fp → flats ds = true → fp = []
  | _, _, _, .nil, _ => rfl
  | _, _, _, .cons h hs, e => by
    simp [flats] at e
    rw [Rp.flat h e.1, Rps.flat hs e.2]
    rfl
end
mutual
theorem Rp.dp : ∀ {v : V} {d : D} {fp : List Addr}, Rp K H v d fp → Dp K H v d
  | _, _, _, .non => .non
  | _, _, _, .bl b => .bl b
  | _, _, _, .int i => .int i
  | _, _, _, .str x _ => .str x
  | _, _, _, .tup h hs => .tup h (Rps.dps hs)
  | _, _, _, .lst h hs => .lst (SqL.of h) (Rps.dps hs)
theorem Rps.dps : ∀ {vs : List V} {ds : List D} {fp : List Addr}, Rps K H vs ds fp → DpAll K H vs ds
  | _, _, _, .nil => .nil
  | _, _, _, .cons h hs => .cons (Rp.dp h) (Rps.dps hs)
end
mutual
theorem Rp.lay : ∀ {v : V} {d : D} {fp : List Addr}, Rp K H v d fp → d.canLay0 = true
  | _, _, _, .non => rfl
  | _, _, _, .bl b => rfl
  | _, _, _, .int i => rfl
  | _, _, _, .str x h => by simpa [PyData.canLay0] using h
  | _, _, _, .tup h hs => by simpa [PyData.canLay0] using Rps.lays hs
  | _, _, _, .lst h hs => by simpa [PyData.canLay0] using Rps.lays hs
theorem Rps.lays : ∀ {vs : List V} {ds : List D} {fp : List Addr}, Rps K H vs ds fp → PyData.canLayAll0 ds = true
  | _, _, _, .nil => rfl
  | _, _, _, .cons h hs => by simp [PyData.canLayAll0, Rp.lay h, Rps.lays hs]
end
theorem Rps.all : ∀ {vs : List V} {ds : List D} {fp : List Addr}, Rps K H vs ds fp → ∀ d ∈ ds, ∃ v f, Rp K H v d f ∧ v ∈ vs ∧ f.Sublist fp
  | _, _, _, .nil, _, h => (nomatch h)
  | _, _, _, .cons (f1 := f1) (f2 := f2) h hs, d, hm => by
    rcases List.mem_cons.mp hm with e | hm
    · subst e; exact ⟨_, _, h, by simp, List.sublist_append_left f1 f2⟩
    · obtain ⟨v, f, h1, h2, h3⟩ := Rps.all hs d hm
      exact ⟨v, f, h1, by simp [h2], h3.trans (List.sublist_append_right f1 f2)⟩
end
/-- what a heap keeps for sure: tuples, lists but the counter and the barred ones -/
structure StP (P : Pw) (H H' : Hp) : Prop where
  tup : ∀ b xs, H b = some (.tup xs) → H' b = some (.tup xs)
  frz : ∀ b o u, H b = some (.frz o u) → H' b = some (.frz o u)
  lst : ∀ b xs, H b = some (.lst xs) → P.r ≠ some b → b ∉ P.bad → H' b = some (.lst xs)
theorem StP.refl (P : Pw) (H : Hp) : StP P H H := ⟨fun _ _ h => h, fun _ _ _ h => h, fun _ _ h _ _ => h⟩
theorem StP.trans {P : Pw} {H H1 H2 : Hp} (a : StP P H H1) (b : StP P H1 H2) : StP P H H2 := ⟨fun c x h => b.tup c x (a.tup c x h), fun c x u h => b.frz c x u (a.frz c x u h), fun c x h n m => b.lst c x (a.lst c x h n m) n m⟩
theorem Ext.stp {P : Pw} {g : Nat} {H H' : Hp} (e : Ext P H H') (w : WI P g H) : StP P H H' := by
  refine ⟨fun b xs q => e.keep b _ q (fun ps z => by cases z) fun z => ?_, fun b o u q => e.keep b _ q (fun ps z => by cases z) fun z => ?_, fun b xs q n _ => e.keep b _ q (fun ps z => by cases z) n⟩
  · obtain ⟨n, _, y⟩ := w.cnt b z
    rw [q] at y; cases y
  · obtain ⟨n, _, y⟩ := w.cnt b z
    rw [q] at y; cases y
/-- a barred list is written -/
theorem StP.write {P : Pw} {H : Hp} {D : Addr} {xs : List V} {o : HO} (h : H D = some (.lst xs)) (hb : D ∈ P.bad) : StP P H (upd H D o) := by
  refine ⟨fun b ys q => ?_, fun b z u q => ?_, fun b ys q _ n => ?_⟩
  · rw [upd_ne]
    · exact q
    · intro e
      rw [e, h] at q; cases q
  · rw [upd_ne]
    · exact q
    · intro e
      rw [e, h] at q; cases q
  · rw [upd_ne]
    · exact q
    · exact fun e => n (e ▸ hb)
section
variable {P : Pw} {K : PySem.W.Frag} {H H' : Hp}
theorem Rp.stp {v : V} {d : D} {fp : List Addr} (h : Rp K H v d fp) (e : StP P H H') (n : nr P fp) : Rp K H' v d fp := h.stay e.tup e.frz fun p hp => by
  obtain ⟨xs, q⟩ := h.there p hp
  rw [q]
  exact e.lst p xs q (fun z => n p (.inl z) hp) fun z => n p (.inr z) hp
theorem Rps.stp {v : List V} {d : List D} {fp : List Addr} (h : Rps K H v d fp) (e : StP P H H') (n : nr P fp) : Rps K H' v d fp := h.stay e.tup e.frz fun p hp => by
  obtain ⟨xs, q⟩ := h.there p hp
  rw [q]
  exact e.lst p xs q (fun z => n p (.inl z) hp) fun z => n p (.inr z) hp
end
/-- the pool's place: a list of the rows and the counter -/
structure PoolAt (P : Pw) (H : Hp) (p : Addr) : Prop where
  ex : ∃ (q r : Addr) (rows : List Int), P.r = some r ∧ H p = some (.lst [.ref q, .ref r]) ∧ H q = some (.lst (rows.map V.int)) ∧ (rows ≠ [] ∧ rows.length ≤ 1000) ∧ (∀ x ∈ rows, 0 ≤ x) ∧ p ≠ r ∧ q ≠ r ∧ p ∉ P.bad ∧ q ∉ P.bad
theorem PoolAt.stay {P : Pw} {H H' : Hp} {p : Addr} (h : PoolAt P H p) (k : ∀ a xs, H a = some (.lst xs) → P.r ≠ some a → a ∉ P.bad → H' a = some (.lst xs)) : PoolAt P H' p := by
  obtain ⟨q, r, rows, hr, h1, h2, h3, h4, h5, h6, h7, h8⟩ := h.ex
  exact ⟨q, r, rows, hr, k _ _ h1 (fun z => h5 (Option.some.inj (z.symm.trans hr))) h7, k _ _ h2 (fun z => h6 (Option.some.inj (z.symm.trans hr))) h8, h3, h4, h5, h6, h7, h8⟩
theorem PoolAt.ext {P : Pw} {H H' : Hp} {p : Addr} (h : PoolAt P H p) (e : Ext P H H') : PoolAt P H' p :=
  h.stay fun a xs q hr _ => e.keep a _ q (fun ps z => by cases z) hr
theorem PoolAt.stp {P : Pw} {H H' : Hp} {p : Addr} (h : PoolAt P H p) (e : StP P H H') : PoolAt P H' p := h.stay e.lst
/-- fewer barred places -/
theorem PoolAt.few {r : Option Addr} {T : List NTab} {bad bad' : List Addr} {H : Hp} {p : Addr} (h : PoolAt ⟨r, T, bad⟩ H p) (k : ∀ a ∈ bad', a ∈ bad) : PoolAt ⟨r, T, bad'⟩ H p := by
  obtain ⟨q, r, rows, hr, h1, h2, h3, h4, h5, h6, h7, h8⟩ := h.ex
  exact ⟨q, r, rows, hr, h1, h2, h3, h4, h5, h6, fun z => h7 (k _ z), fun z => h8 (k _ z)⟩
/-- one more, that stands for something else -/
theorem PoolAt.bar {r : Option Addr} {T : List NTab} {bad : List Addr} {H H1 : Hp} {p a : Addr} (h : PoolAt ⟨r, T, bad⟩ H p) (ha : H a = none) (e : Ext ⟨r, T, bad⟩ H H1) : PoolAt ⟨r, T, a :: bad⟩ H1 p := by
  have h' := h.ext e
  obtain ⟨q, r, rows, hr, h1, h2, h3, h4, h5, h6, h7, h8⟩ := h.ex
  have e1 := (e.keep p _ h1 (fun ps z => by cases z) (fun z => h5 (Option.some.inj (z.symm.trans hr))))
  have e2 := (e.keep q _ h2 (fun ps z => by cases z) (fun z => h6 (Option.some.inj (z.symm.trans hr))))
  refine ⟨q, r, rows, hr, e1, e2, h3, h4, h5, h6, fun z => ?_, fun z => ?_⟩
  · rcases List.mem_cons.mp z with y | y
    · rw [y, ha] at h1; cases h1
    · exact h7 y
  · rcases List.mem_cons.mp z with y | y
    · rw [y, ha] at h2; cases h2
    · exact h8 y
end W3
namespace W3
open PySem
open PySem.W (alike dataLt AllAlike Sortable dataLe AlikeAll minD maxD)

inductive O2 where
  | add | sub | mul | fdv | mod | pow | shl | shr | band | lt | le | gt | ge | eq | ne | inn | nin
  deriving DecidableEq
inductive O1 where
  | neg | isN | notN | isT | notT | isF | notF
  deriving DecidableEq
inductive B1 where
  | len | tup | lst | sum | all | any | mn | mx | srt | srtR | int | abs | sset | lset
  deriving DecidableEq
inductive Tg where
  | nm (i : Nat)
  | tp (ts : List Tg)
inductive Ex where
  | slot (i : Nat)
  | cst (d : D)
  | glob (x : Nat)
  | op (o : O2) (a b : Ex)
  | un (o : O1) (a : Ex)
  | and (a b : Ex)
  | or (a b : Ex)
  | not (a : Ex)
  | ite (c a b : Ex)
  | chn (o1 o2 : O2) (a b c : Ex)
  | tup (es : List Ex)
  | lst (es : List Ex)
  | ix (a b : Ex)
  | sl (a : Ex) (lo hi : Option Ex)
  | rev (a : Ex)
  | b1 (f : B1) (a : Ex)
  | mx2 (a b : Ex)
  | mn2 (a b : Ex)
  | mxd (a : Ex) (d : Ex)
  | isi (a : Ex) (t : Nat)
  | idx (a b : Ex)
  | cnt (a b : Ex)
  | rl (t : Bool) (es : List Ex)
  | call (f : Nat) (es : List Ex)
  | callP (f : Nat) (es : List Ex)
  | lc (own : List Nat) (tg : Tg) (r : Bool) (es : List Ex) (t : Option Ex) (e : Ex)
  | lc2 (own own2 : List Nat) (tg : Tg) (r : Bool) (es : List Ex) (t : Option Ex) (tg2 : Tg) (r2 : Bool) (es2 : List Ex) (t2 : Option Ex) (e : Ex)
  | key (k : Nat) (r : Bool) (es : List Ex) (caps : List Nat) (body : Ex)

abbrev Sl := List (Option D)
abbrev Kc := D → Nat → Prop
/-- what the defs promise: those without the pool, those with it -/
structure Fam where
  sp : Nat → List D → (D → Prop) → Prop
  spP : Nat → List D → Nat → Kc → Prop

/-- the modules' constants -/
def gE (a b : Int) : D := .tuple [.int a, .int b]
def gd : Nat → D
  | 0 => .int 8
  | 1 => .tuple [
    .tuple [.int 4, .tuple [gE 0 1, gE 0 2, gE 0 3]],
    .tuple [.int 5, .tuple [gE 0 2, gE 0 3, gE 0 4, gE 1 2, gE 1 3, gE 1 4, gE 2 3]],
    .tuple [.int 5, .tuple [gE 0 1, gE 0 2, gE 0 3, gE 0 4, gE 1 2, gE 1 3, gE 1 4, gE 2 3, gE 2 4]],
    .tuple [.int 6, .tuple [gE 0 2, gE 0 3, gE 0 5, gE 1 2, gE 1 3, gE 1 4, gE 2 3]],
    .tuple [.int 6, .tuple [gE 0 1, gE 0 2, gE 0 5, gE 1 2, gE 1 3, gE 1 4, gE 2 3, gE 2 4, gE 3 4]],
    .tuple [.int 6, .tuple [gE 0 1, gE 0 2, gE 0 3, gE 0 5, gE 1 2, gE 1 5, gE 2 3, gE 2 4, gE 3 4]],
    .tuple [.int 6, .tuple [gE 0 3, gE 0 4, gE 0 5, gE 1 2, gE 1 5, gE 2 3, gE 2 4, gE 3 4]],
    .tuple [.int 6, .tuple [gE 0 1, gE 0 2, gE 0 3, gE 0 4, gE 0 5, gE 1 2, gE 1 3, gE 1 4, gE 1 5, gE 2 5, gE 3 4]],
    .tuple [.int 6, .tuple [gE 0 1, gE 0 2, gE 0 3, gE 0 4, gE 0 5, gE 1 4, gE 1 5, gE 2 3, gE 2 5, gE 3 4]]]
  | _ => .none
def optK : Option D → (D → Prop) → Prop
  | some d, Q => Q d
  | none, _ => False
def getS : Sl → Nat → (D → Prop) → Prop
  | [], _, _ => False
  | o :: _, 0, Q => optK o Q
  | _ :: r, i + 1, Q => getS r i Q
def wipeS (Γ : Sl) : List Nat → Sl
  | [] => Γ
  | v :: vs => (wipeS Γ vs).set v none
def big : Nat := 16000000
def small (i : Int) : Prop := -(2 ^ 64) < i ∧ i < 2 ^ 64
def intK : D → (Int → Prop) → Prop
  | .int i, Q => Q i
  | _, _ => False
def boolK : D → (Bool → Prop) → Prop
  | .bool b, Q => Q b
  | _, _ => False
def seqK : D → (List D → Prop) → Prop
  | .list ds, Q => Q ds
  | .tuple ds, Q => Q ds
  | _, _ => False
def truK : D → (Bool → Prop) → Prop
  | .bool b, Q => Q b
  | .none, Q => Q false
  | .int i, Q => Q (i != 0)
  | .list ds, Q => Q (!ds.isEmpty)
  | .tuple ds, Q => Q (!ds.isEmpty)
  | _, _ => False
/-- not too deep for ==, < -/
def shp (d : D) : Prop := d.depth ≤ 64
def inD (x : D) (ds : List D) : Bool := ds.any fun d => PyData.eqv d x
def op2 : O2 → D → D → (D → Prop) → Prop
  | .add, .int i, .int j, Q => Q (.int (i + j))
  | .add, .tuple xs, .tuple ys, Q => xs.length + ys.length ≤ big ∧ Q (.tuple (xs ++ ys))
  | .add, .list xs, .list ys, Q => xs.length + ys.length ≤ big ∧ Q (.list (xs ++ ys))
  | .sub, .int i, .int j, Q => Q (.int (i - j))
  | .mul, .int i, .int j, Q => (small i ∨ small j) ∧ Q (.int (i * j))
  | .mul, .list xs, .int k, Q => (0 ≤ k ∧ k ≤ 1000 ∧ xs.length = 1) ∧ Q (.list (List.replicate k.toNat xs).flatten)
  | .fdv, .int i, .int j, Q => (0 < j ∧ j < 1073741824) ∧ Q (.int (i / j))
  | .mod, .int i, .int j, Q => 0 < j ∧ Q (.int (i % j))
  | .pow, .int i, .int j, Q => (0 ≤ j ∧ j ≤ 1000 ∧ small i) ∧ Q (.int (i ^ j.toNat))
  | .shl, .int i, .int j, Q => (0 ≤ j ∧ j ≤ 1000 ∧ small i) ∧ Q (.int (i * 2 ^ j.toNat))
  | .shr, .int i, .int j, Q => 0 ≤ j ∧ Q (.int (i / 2 ^ j.toNat))
  | .band, .int i, .int j, Q => j = 1 ∧ Q (.int (i % 2))
  | .lt, .int i, .int j, Q => Q (.bool (decide (i < j)))
  | .lt, .tuple xs, .tuple ys, Q => (alike (.tuple xs) (.tuple ys) = true ∧ shp (.tuple xs)) ∧ Q (.bool (dataLt (.tuple xs) (.tuple ys)))
  | .le, .int i, .int j, Q => Q (.bool (decide (i ≤ j)))
  | .gt, .int i, .int j, Q => Q (.bool (decide (j < i)))
  | .ge, .int i, .int j, Q => Q (.bool (decide (j ≤ i)))
  | .eq, x, y, Q => shp x ∧ Q (.bool (PyData.eqv x y))
  | .ne, x, y, Q => shp x ∧ Q (.bool (!PyData.eqv x y))
  | .inn, x, y, Q => shp x ∧ seqK y fun ds => Q (.bool (inD x ds))
  | .nin, x, y, Q => shp x ∧ seqK y fun ds => Q (.bool (!inD x ds))
  | _, _, _, _ => False
def isNo : D → Bool
  | .none => true
  | _ => false
def op1 : O1 → D → (D → Prop) → Prop
  | .neg, .int i, Q => Q (.int (-i))
  | .isN, d, Q => Q (.bool (isNo d))
  | .notN, d, Q => Q (.bool (!isNo d))
  | .isT, .bool b, Q => Q (.bool b)
  | .notT, .bool b, Q => Q (.bool (!b))
  | .isF, .bool b, Q => Q (.bool (!b))
  | .notF, .bool b, Q => Q (.bool b)
  | _, _, _ => False
/-- the place of an index -/
def atN (n : Nat) (i : Int) : Nat := if i < 0 then (i + n).toNat else i.toNat
def ixK : D → D → (D → Prop) → Prop
  | x, .int i, Q => seqK x fun ds => (-(ds.length : Int) ≤ i ∧ i < ds.length) ∧ ∃ d, ds[atN ds.length i]? = some d ∧ Q d
  | _, _, _ => False
/-- the ints of a list of ints -/
def intsK : List D → (List Int → Prop) → Prop
  | [], Q => Q []
  | .int i :: r, Q => intsK r fun is => Q (i :: is)
  | _, _ => False
def boolsK : List D → (List Bool → Prop) → Prop
  | [], Q => Q []
  | .bool i :: r, Q => boolsK r fun is => Q (i :: is)
  | _, _ => False
def consK : List D → (D → List D → Prop) → Prop
  | [], _ => False
  | d :: r, Q => Q d r
/-- data that can be sorted -/
def srtOk (ds : List D) : Prop := (AllAlike ds ∧ (Sortable ds ∨ ∀ d ∈ ds, ∃ xs, d = .tuple xs)) ∧ ∀ d ∈ ds, shp d
def sortD (rev : Bool) (ds : List D) : List D := ds.mergeSort (dataLe rev fun d => d)
/-- a pair of ints as data; the order of such pairs -/
def encPr (p : Int × Int) : D := .tuple [.int p.1, .int p.2]
def prLt (p q : Int × Int) : Prop := p.1 < q.1 ∨ p.1 = q.1 ∧ p.2 < q.2
/-- sorted(set(..)) of pairs, of ints -/
def setK (ds : List D) (Q : D → Prop) : Prop :=
  (∃ ps : List (Int × Int), ds = ps.map encPr ∧ (ps.length < 64 ∧ ∀ p ∈ ps, (0 ≤ p.1 ∧ p.1 < 64) ∧ 0 ≤ p.2 ∧ p.2 < 64) ∧ ∀ out : List (Int × Int), out.Pairwise prLt → (∀ p, p ∈ out ↔ p ∈ ps) → Q (.list (out.map encPr)))
def b1K : B1 → D → (D → Prop) → Prop
  | .len, x, Q => seqK x fun ds => Q (.int ds.length)
  | .tup, x, Q => seqK x fun ds => Q (.tuple ds)
  | .lst, x, Q => seqK x fun ds => Q (.list ds)
  | .sum, .list ds, Q => intsK ds fun is => Q (.int is.sum)
  | .all, .list ds, Q => boolsK ds fun bs => Q (.bool (bs.all id))
  | .any, .list ds, Q => boolsK ds fun bs => Q (.bool (bs.any id))
  | .mn, x, Q => seqK x fun ds => consK ds fun d r => (AlikeAll ds ∧ ∀ d ∈ ds, shp d) ∧ Q (minD d r)
  | .mx, x, Q => seqK x fun ds => consK ds fun d r => (AlikeAll ds ∧ ∀ d ∈ ds, shp d) ∧ Q (maxD d r)
  | .srt, x, Q => seqK x fun ds => srtOk ds ∧ Q (.list (sortD false ds))
  | .srtR, x, Q => seqK x fun ds => srtOk ds ∧ Q (.list (sortD true ds))
  | .int, .int i, Q => Q (.int i)
  | .int, .bool b, Q => Q (.int (if b then 1 else 0))
  | .abs, .int i, Q => Q (.int i.natAbs)
  | .sset, .list ds, Q => setK ds Q
  | .lset, .list ds, Q => intsK ds fun is => is.length ≤ 1000 ∧ ∀ l : List Int, l.Nodup → (∀ k, k ∈ l ↔ k ∈ is) → Q (.int l.length)
  | _, _, _ => False
def lim62 (i : Int) : Prop := -8000000 ≤ i ∧ i ≤ 8000000
def rngK : List D → (List D → Prop) → Prop
  | [.int j], Q => lim62 j ∧ Q ((List.range j.toNat).map fun k => .int (k : Nat))
  | [.int i, .int j], Q => (lim62 i ∧ lim62 j) ∧ Q ((List.range (j - i).toNat).map fun k => .int (i + (k : Nat)))
  | _, _ => False
def itK : Bool → List D → (List D → Prop) → Prop
  | true, ds, Q => rngK ds Q
  | false, [d], Q => seqK d Q
  | false, _, _ => False
/-- xs[lo:hi] -/
def cutD (ds : List D) (lo hi : Option Int) : List D := (ds.drop (HT.sIx ds.length 0 lo)).take (HT.sIx ds.length ds.length hi - HT.sIx ds.length 0 lo)
def slK : D → Option Int → Option Int → (D → Prop) → Prop
  | .list ds, lo, hi, Q => Q (.list (cutD ds lo hi))
  | .tuple ds, lo, hi, Q => Q (.tuple (cutD ds lo hi))
  | _, _, _, _ => False
def revK : D → (D → Prop) → Prop
  | .list ds, Q => Q (.list ds.reverse)
  | .tuple ds, Q => Q (.tuple ds.reverse)
  | _, _ => False
def isiK : D → Nat → Bool
  | .tuple _, 0 => true
  | .int _, 1 => true
  | .bool _, 1 => true
  | .bool _, 2 => true
  | .str _, 3 => true
  | _, _ => false
/-- the first place of x -/
def placeD (x : D) : List D → Nat → Option Nat
  | [], _ => none
  | d :: r, n => if PyData.eqv d x then some n else placeD x r (n + 1)

mutual
def wpTg : Tg → D → Sl → (Sl → Prop) → Prop
  | .nm i, d, Γ, K => K (Γ.set i (some d))
  | .tp ts, .tuple ds, Γ, K => wpTgs ts ds Γ K
  | .tp _, _, _, _ => False
def wpTgs : List Tg → List D → Sl → (Sl → Prop) → Prop
  | [], [], Γ, K => K Γ
  | t :: ts, d :: ds, Γ, K => wpTg t d Γ fun Γ' => wpTgs ts ds Γ' K
  | _, _, _, _ => False
end

def lcW (f : D → Nat → (Option D → Nat → Prop) → Prop) : List D → List D → Nat → (List D → Nat → Prop) → Prop
  | [], acc, g, K => K acc g
  | d :: ds, acc, g, K => f d g fun o g' => lcW f ds (match o with | some y => acc ++ [y] | none => acc) g' K
def lc2W (f : D → List D → Nat → (List D → Nat → Prop) → Prop) : List D → List D → Nat → (List D → Nat → Prop) → Prop
  | [], acc, g, K => K acc g
  | d :: ds, acc, g, K => f d acc g fun acc' g' => lc2W f ds acc' g' K

/-- the first item of the least key -/
def bestBy (lt : D → D → Bool) (x : D) (xs : List D) : D := xs.foldl (fun a y => if lt y a = true then y else a) x
/-- a list that is asked for its items -/
def lstIt : Bool → List D → (List D → Prop) → Prop
  | false, [.list ds], Q => Q ds
  | _, _, _ => False
/-- keys: tuples with an item at least -/
def keyOk (rs : List D) (kf : D → D) : Prop := (∀ d ∈ rs, ∀ e ∈ rs, alike (kf d) (kf e) = true) ∧ ∀ d ∈ rs, (∃ x r, kf d = .tuple (x :: r)) ∧ shp (kf d) ∧ flat (kf d) = true
/-- min, max, sorted with key= -/
def keyK : Nat → List D → (D → D) → (D → Prop) → Prop
  | 0, rs, kf, Q => consK rs fun d r => Q (bestBy (fun a b => dataLt (kf a) (kf b)) d r)
  | 1, rs, kf, Q => consK rs fun d r => Q (bestBy (fun a b => dataLt (kf b) (kf a)) d r)
  | 2, rs, kf, Q => Q (.list (rs.mergeSort (dataLe false kf)))
  | _, _, _, _ => False
/-- a value as it is, or as a test -/
def fin : Bool → D → Nat → Kc → Prop
  | true, z, g, Q => truK z fun c => Q (.bool c) g
  | false, z, g, Q => Q z g
mutual
/-- t: the value's truth is asked -/
def wpE (Φ : Fam) : Ex → Bool → Sl → Nat → Kc → Prop
  | .slot i, t, Γ, g, Q => getS Γ i fun d => fin t d g Q
  | .cst d, t, _, g, Q => fin t d g Q
  | .glob x, t, _, g, Q => fin t (gd x) g Q
  | .op o a b, t, Γ, g, Q => wpE Φ a false Γ g fun x g1 => wpE Φ b false Γ g1 fun y g2 => op2 o x y fun z => fin t z g2 Q
  | .un o a, t, Γ, g, Q => wpE Φ a false Γ g fun x g1 => op1 o x fun z => fin t z g1 Q
  | .and a b, t, Γ, g, Q => wpE Φ a t Γ g fun x g1 => boolK x fun c => if c = true then wpE Φ b t Γ g1 fun y g2 => boolK y fun c => Q (.bool c) g2 else Q (.bool false) g1
  | .or a b, t, Γ, g, Q => wpE Φ a t Γ g fun x g1 => truK x fun c => if c = true then Q x g1 else wpE Φ b t Γ g1 Q
  | .not a, _, Γ, g, Q => wpE Φ a true Γ g fun x g1 => boolK x fun c => Q (.bool (!c)) g1
  | .ite c a b, t, Γ, g, Q => wpE Φ c true Γ g fun x g1 => boolK x fun c => if c = true then wpE Φ a t Γ g1 Q else wpE Φ b t Γ g1 Q
  | .chn o1 o2 a b c, _, Γ, g, Q => wpE Φ a false Γ g fun x g1 => wpE Φ b false Γ g1 fun y g2 => op2 o1 x y fun z => boolK z fun t => if t = true then wpE Φ c false Γ g2 fun w g3 => op2 o2 y w fun z => boolK z fun c => Q (.bool c) g3 else Q (.bool false) g2
  | .tup es, t, Γ, g, Q => wpL Φ es Γ g fun ds g1 => fin t (.tuple ds) g1 Q
  | .lst es, t, Γ, g, Q => wpL Φ es Γ g fun ds g1 => fin t (.list ds) g1 Q
  | .ix a b, t, Γ, g, Q => wpE Φ a false Γ g fun x g1 => wpE Φ b false Γ g1 fun y g2 => ixK x y fun z => fin t z g2 Q
  | .sl a lo hi, t, Γ, g, Q => wpE Φ a false Γ g fun x g1 => wpO Φ lo Γ g1 fun l g2 => wpO Φ hi Γ g2 fun h g3 => slK x l h fun z => fin t z g3 Q
  | .rev a, t, Γ, g, Q => wpE Φ a false Γ g fun x g1 => revK x fun z => fin t z g1 Q
  | .b1 f a, t, Γ, g, Q => wpE Φ a false Γ g fun x g1 => b1K f x fun z => fin t z g1 Q
  | .mx2 a b, t, Γ, g, Q => wpE Φ a false Γ g fun x g1 => wpE Φ b false Γ g1 fun y g2 => intK x fun i => intK y fun j => fin t (.int (if j > i then j else i)) g2 Q
  | .mn2 a b, t, Γ, g, Q => wpE Φ a false Γ g fun x g1 => wpE Φ b false Γ g1 fun y g2 => intK x fun i => intK y fun j => fin t (.int (if j < i then j else i)) g2 Q
  | .mxd a d, t, Γ, g, Q => wpE Φ a false Γ g fun x g1 => wpE Φ d false Γ g1 fun y g2 => seqK x fun ds => (AlikeAll ds ∧ ∀ d ∈ ds, shp d) ∧ (match ds with | [] => fin t y g2 Q | d :: r => fin t (maxD d r) g2 Q)
  | .isi a k, t, Γ, g, Q => wpE Φ a false Γ g fun x g1 => fin t (.bool (isiK x k)) g1 Q
  | .idx a b, t, Γ, g, Q => wpE Φ a false Γ g fun x g1 => wpE Φ b false Γ g1 fun y g2 => shp y ∧ seqK x fun ds => ∃ n, placeD y ds 0 = some n ∧ fin t (.int n) g2 Q
  | .cnt a b, t, Γ, g, Q => wpE Φ a false Γ g fun x g1 => wpE Φ b false Γ g1 fun y g2 => intK y fun k => seqK x fun ds => intsK ds fun is => fin t (.int (is.count k)) g2 Q
  | .rl tp es, t, Γ, g, Q => wpL Φ es Γ g fun ds g1 => rngK ds fun rs => fin t (if tp = true then .tuple rs else .list rs) g1 Q
  | .call f es, t, Γ, g, Q => wpL Φ es Γ g fun ds g1 => Φ.sp f ds fun z => fin t z g1 Q
  | .callP f es, t, Γ, g, Q => wpL Φ es Γ g fun ds g1 => Φ.spP f ds g1 fun z g2 => fin t z g2 Q
  | .lc own tg r es c e, t, Γ, g, Q => wpL Φ es Γ g fun ds g1 => itK r ds fun rs =>
      lcW (fun d g2 K => wpTg tg d (wipeS Γ own) fun Γ' => wpOT Φ c Γ' g2 fun c g3 => if c = true then wpE Φ e false Γ' g3 fun y g4 => K (some y) g4 else K none g3) rs [] g1 fun out g5 => fin t (.list out) g5 Q
  | .lc2 own own2 tg r es c tg2 r2 es2 c2 e, t, Γ, g, Q => wpL Φ es Γ g fun ds g1 => itK r ds fun rs =>
      lc2W (fun d acc g2 K => wpTg tg d (wipeS Γ own) fun Γ' => wpOT Φ c Γ' g2 fun c g3 => if c = true then
        wpL Φ es2 Γ' g3 fun ds2 g4 => itK r2 ds2 fun rs2 =>
          lc2W (fun d2 acc2 g5 K2 => wpTg tg2 d2 (wipeS Γ' own2) fun Γ2 => wpOT Φ c2 Γ2 g5 fun c2 g6 => if c2 = true then wpE Φ e false Γ2 g6 fun y g7 => acc2.length < big ∧ K2 (acc2 ++ [y]) g7 else K2 acc2 g6) rs2 acc g4 K
        else K acc g3) rs [] g1 fun out g5 => fin t (.list out) g5 Q
  | .key k r es caps body, t, Γ, g, Q => wpL Φ es Γ g fun ds g1 => lstIt r ds fun rs => flats rs = true ∧ ∃ kf : D → D, (∀ d ∈ rs, wpE Φ body false (Γ.set (caps.headD 0) (some d)) g1 fun z g2 => z = kf d ∧ g2 ≤ g1) ∧ keyOk rs kf ∧ keyK k rs kf fun z => fin t z g1 Q
def wpL (Φ : Fam) : List Ex → Sl → Nat → (List D → Nat → Prop) → Prop
  | [], _, g, Q => Q [] g
  | e :: es, Γ, g, Q => wpE Φ e false Γ g fun d g1 => wpL Φ es Γ g1 fun ds g2 => Q (d :: ds) g2
def wpO (Φ : Fam) : Option Ex → Sl → Nat → (Option Int → Nat → Prop) → Prop
  | none, _, g, Q => Q none g
  | some e, Γ, g, Q => wpE Φ e false Γ g fun d g1 => intK d fun i => Q (some i) g1
def wpOT (Φ : Fam) : Option Ex → Sl → Nat → (Bool → Nat → Prop) → Prop
  | none, _, g, Q => Q true g
  | some e, Γ, g, Q => wpE Φ e true Γ g fun d g1 => boolK d fun c => Q c g1
end

def frs1 : D → Bool
  | .list ds => flats ds
  | _ => false
def frsB : B1 → D → Bool
  | .mn, _ => false
  | .mx, _ => false
  | _, z => frs1 z
mutual
def frs : Ex → D → Bool
  | .lst es, .list ds => frsL es ds
  | .tup es, .tuple ds => frsL es ds
  | .lc _ _ _ _ _ e, .list ds => ds.all fun d => flat d || frs e d
  | .lc2 _ _ _ _ _ _ _ _ _ _ e, .list ds => ds.all fun d => flat d || frs e d
  | .call _ _, _ => true
  | .callP _ _, .list ds => flats ds
  | .b1 f _, d => frsB f d
  | .op _ _ _, d => frs1 d
  | .un _ _, d => frs1 d
  | .sl _ _ _, d => frs1 d
  | .rev _, d => frs1 d
  | .rl _ _, _ => true
  | .ite _ a b, d => (flat d || frs a d) && (flat d || frs b d)
  | _, _ => false
def frsL : List Ex → List D → Bool
  | [], [] => true
  | e :: es, d :: ds => (flat d || frs e d) && frsL es ds
  | _, _ => false
end

inductive Sc where
  | set (tg : Tg) (e : Ex)
  | par (i j : Nat) (a b : Ex)
  | cpy (i j : Nat)
  | mov (i j : Nat)
  | tri (i j l : Nat) (a b c : Ex)
  | aug (i : Nat) (o : O2) (e : Ex)
  | augAt (i : Nat) (k : Ex) (o : O2) (e : Ex)
  | setAt (i : Nat) (k : Ex) (e : Ex)
  | app (i : Nat) (e : Ex)
  | appAt (i : Nat) (k : Ex) (e : Ex)
  | ext (i : Nat) (e : Ex)
  | rem (i : Nat) (e : Ex)
  | popS (x y : Nat) (first : Bool)
  | popCat (i j : Nat) (e : Ex)
  | ret (e : Ex)
  | retN
  | brk
  | cnt
  | pas
  | nev
  | ite (c : Ex) (a b : List Sc)
  | for_ (tg : Tg) (r : Bool) (es : List Ex) (body : List Sc)
  | whl (c : Ex) (body : List Sc)

structure Ke where
  nx : Sl → Nat → Prop
  rt : D → Nat → Prop
  bk : Sl → Nat → Prop := fun _ _ => False
  ct : Sl → Nat → Prop := fun _ _ => False

def forW (f : D → Sl → Nat → Ke → Prop) (K : Ke) : List D → Sl → Nat → Prop
  | [], Γ, g => K.nx Γ g
  | d :: ds, Γ, g => f d Γ g { K with nx := forW f K ds, ct := forW f K ds, bk := K.nx }
def whlW (c : Sl → Nat → (Bool → Nat → Prop) → Prop) (b : Sl → Nat → Ke → Prop) (K : Ke) : Nat → Sl → Nat → Prop
  | 0, _, _ => False
  | n + 1, Γ, g => c Γ g fun t g1 => if t = true then b Γ g1 { K with nx := whlW c b K n, ct := whlW c b K n, bk := K.nx } else K.nx Γ g1
/-- the slots whose lists are the def's own, to be changed or given out -/
abbrev Own := List Nat
/-- may the target take it? -/
def asOk (e : Ex) (d : D) : Bool := flat d || frs e d
def tgFlat : Tg → Bool
  | .nm _ => true
  | _ => false
/-- a list that a loop walks stands still -/
def itOk (M : Own) : Bool → List Ex → List D → Bool
  | true, _, _ => true
  | false, [.slot i], [.list ds] => flats ds && !M.contains i
  | false, [e], [.list ds] => flats ds && frs e (.list ds)
  | false, _, [.tuple ds] => flats ds
  | false, _, _ => false
def wpT (Φ : Fam) (e : Ex) (Γ : Sl) (g : Nat) (Q : Bool → Nat → Prop) : Prop := wpE Φ e true Γ g fun d g1 => boolK d fun c => Q c g1
def lstK (Γ : Sl) (i : Nat) (Q : List D → Prop) : Prop :=
  getS Γ i fun d => match d with
    | .list ds => Q ds
    | _ => False
/-- the rows of a list or tuple of lists, one of them changed -/
def rowD (d : D) (n : Nat) (r : D) : D := match d with
  | .tuple rows => .tuple (rows.set n r)
  | .list rows => .list (rows.set n r)
  | d => d
mutual
def wpS (Φ : Fam) (M : Own) : Sc → Sl → Nat → Ke → Prop
  | .set tg e, Γ, g, K => wpE Φ e false Γ g fun d g1 => ((if tgFlat tg = true then asOk e d else flat d) = true) ∧ wpTg tg d Γ fun Γ' => K.nx Γ' g1
  | .par i j a b, Γ, g, K => wpE Φ a false Γ g fun x g1 => wpE Φ b false Γ g1 fun y g2 => (asOk a x = true ∧ asOk b y = true) ∧ K.nx ((Γ.set i (some x)).set j (some y)) g2
  | .cpy i j, Γ, g, K => (M.contains i = false ∧ M.contains j = false) ∧ getS Γ j fun d => K.nx (Γ.set i (some d)) g
  | .mov i j, Γ, g, K => getS Γ j fun d => K.nx ((Γ.set i (some d)).set j none) g
  | .tri i j l a b c, Γ, g, K => wpE Φ a false Γ g fun x g1 => wpE Φ b false Γ g1 fun y g2 => wpE Φ c false Γ g2 fun z g3 => (flat x = true ∧ flat y = true ∧ flat z = true) ∧ K.nx (((Γ.set i (some x)).set j (some y)).set l (some z)) g3
  | .aug i o e, Γ, g, K => getS Γ i fun x => intK x fun _ => wpE Φ e false Γ g fun y g1 => op2 o x y fun z => K.nx (Γ.set i (some z)) g1
  | .augAt i k o e, Γ, g, K => M.contains i = true ∧ lstK Γ i fun ds => flats ds = true ∧ wpE Φ k false Γ g fun kd g1 => intK kd fun n => ixK (.list ds) (.int n) fun x => intK x fun _ => wpE Φ e false Γ g1 fun y g2 => op2 o x y fun z => K.nx (Γ.set i (some (.list (ds.set (atN ds.length n) z)))) g2
  | .setAt i k e, Γ, g, K => M.contains i = true ∧ lstK Γ i fun ds => flats ds = true ∧ wpE Φ e false Γ g fun z g1 => wpE Φ k false Γ g1 fun kd g2 => intK kd fun n => (flat z = true ∧ -(ds.length : Int) ≤ n ∧ n < ds.length) ∧ K.nx (Γ.set i (some (.list (ds.set (atN ds.length n) z)))) g2
  | .app i e, Γ, g, K => M.contains i = true ∧ lstK Γ i fun ds => wpE Φ e false Γ g fun z g1 => (asOk e z = true ∧ ds.length < big) ∧ K.nx (Γ.set i (some (.list (ds ++ [z])))) g1
  | .appAt i k e, Γ, g, K => M.contains i = true ∧ getS Γ i fun d => seqK d fun rows => wpE Φ k false Γ g fun kd g1 => intK kd fun n => (-(rows.length : Int) ≤ n ∧ n < rows.length) ∧ ∃ xs, rows[atN rows.length n]? = some (.list xs) ∧
      wpE Φ e false Γ g1 fun z g2 => (asOk e z = true ∧ xs.length < big) ∧ K.nx (Γ.set i (some (rowD d (atN rows.length n) (.list (xs ++ [z]))))) g2
  | .ext i e, Γ, g, K => M.contains i = true ∧ lstK Γ i fun ds => wpE Φ e false Γ g fun z g1 => (match z with
      | .list zs => (flats ds = true ∧ flats zs = true ∧ ds.length + zs.length ≤ big) ∧ K.nx (Γ.set i (some (.list (ds ++ zs)))) g1
      | _ => False)
  | .rem i e, Γ, g, K => M.contains i = true ∧ lstK Γ i fun ds => intsK ds fun is => wpE Φ e false Γ g fun z g1 => intK z fun k => k ∈ is ∧ K.nx (Γ.set i (some (.list ((is.erase k).map .int)))) g1
  | .popS x y first, Γ, g, K => M.contains y = true ∧ lstK Γ y fun ds => flats ds = true ∧ ∃ z, (if first = true then ds[0]? else ds[ds.length - 1]?) = some z ∧ K.nx ((Γ.set y (some (.list (if first = true then ds.eraseIdx 0 else ds.dropLast)))).set x (some z)) g
  | .popCat i j e, Γ, g, K => (M.contains j = true ∧ i ≠ j) ∧ lstK Γ j fun ls => (flats ls = true ∧ ls.length ≤ big) ∧ getS Γ i fun d => (match d with
      | .tuple ds => wpE Φ e false Γ g fun kd g1 => intK kd fun n => (0 ≤ n ∧ n < ls.length) ∧ ∃ z, ls[n.toNat]? = some z ∧ (flats ds = true ∧ ds.length < big) ∧ K.nx ((Γ.set j (some (.list (ls.eraseIdx n.toNat)))).set i (some (.tuple (ds ++ [z])))) g1
      | _ => False)
  | .ret e, Γ, g, K => wpE Φ e false Γ g fun d g1 => (flat d || frs e d || (match e with | .slot i => M.contains i | _ => false)) = true ∧ K.rt d g1
  | .retN, _, g, K => K.rt .none g
  | .brk, Γ, g, K => K.bk Γ g
  | .cnt, Γ, g, K => K.ct Γ g
  | .pas, Γ, g, K => K.nx Γ g
  | .nev, _, _, _ => False
  | .ite c a b, Γ, g, K => wpT Φ c Γ g fun t g1 => if t = true then wpB Φ M a Γ g1 K else wpB Φ M b Γ g1 K
  | .for_ tg r es body, Γ, g, K => wpL Φ es Γ g fun ds g1 => itOk M r es ds = true ∧ itK r ds fun rs => forW (fun d Γ g K => wpTg tg d Γ fun Γ' => wpB Φ M body Γ' g K) K rs Γ g1
  | .whl c body, Γ, g, K => ∃ n, whlW (wpT Φ c) (wpB Φ M body) K n Γ g
def wpB (Φ : Fam) (M : Own) : List Sc → Sl → Nat → Ke → Prop
  | [], Γ, g, K => K.nx Γ g
  | s :: ss, Γ, g, K => wpS Φ M s Γ g { K with nx := fun Γ' g' => wpB Φ M ss Γ' g' K }
end
end W3
namespace W3
open PySem
open PySem.W (alike dataLt AllAlike Sortable dataLe AlikeAll minD maxD)

theorem optK_mono {P Q : D → Prop} (h : ∀ d, P d → Q d) : ∀ {o : Option D}, optK o P → optK o Q
  | some _, q => h _ q
  | none, q => q
theorem getS_mono {P Q : D → Prop} (h : ∀ d, P d → Q d) : ∀ {Γ : Sl} {i : Nat}, getS Γ i P → getS Γ i Q
  | [], _, q => by unfold getS at q; exact q.elim
  | _ :: _, 0, q => optK_mono h q
  | _ :: r, i + 1, q => getS_mono h (Γ := r) (i := i) q
theorem getS_at {P : D → Prop} : ∀ {Γ : Sl} {i : Nat}, getS Γ i P → ∃ d, Γ[i]? = some (some d) ∧ P d
  | [], _, q => by unfold getS at q; exact q.elim
  | some d :: _, 0, q => ⟨d, rfl, q⟩
  | none :: _, 0, q => q.elim
  | _ :: r, i + 1, q => by
    obtain ⟨d, e, h⟩ := getS_at (Γ := r) (i := i) q
    exact ⟨d, by simpa using e, h⟩
theorem getS_of {P : D → Prop} {d : D} : ∀ {Γ : Sl} {i : Nat}, Γ[i]? = some (some d) → P d → getS Γ i P
  | [], _, e, h => by simp at e
  | some _ :: _, 0, e, h => by simp at e; subst e; exact h
  | none :: _, 0, e, h => by simp at e
  | _ :: r, i + 1, e, h => getS_of (Γ := r) (i := i) (by simpa using e) h
theorem intK_mono {P Q : Int → Prop} (h : ∀ d, P d → Q d) {d : D} (q : intK d P) : intK d Q := by
  cases d <;> first | exact h _ q | exact q
theorem boolK_mono {P Q : Bool → Prop} (h : ∀ d, P d → Q d) {d : D} (q : boolK d P) : boolK d Q := by
  cases d <;> first | exact h _ q | exact q
theorem seqK_mono {P Q : List D → Prop} (h : ∀ d, P d → Q d) {d : D} (q : seqK d P) : seqK d Q := by
  cases d <;> first | exact h _ q | exact q
theorem truK_mono {P Q : Bool → Prop} (h : ∀ d, P d → Q d) {d : D} (q : truK d P) : truK d Q := by
  cases d <;> first | exact h _ q | exact q
theorem intsK_mono : ∀ {ds : List D} {P Q : List Int → Prop}, (∀ d, P d → Q d) → intsK ds P → intsK ds Q
  | [], _, _, h, q => h _ q
  | .int _ :: r, _, _, h, q => intsK_mono (ds := r) (fun _ z => h _ z) q
  | .none :: _, _, _, _, q => q.elim
  | .bool _ :: _, _, _, _, q => q.elim
  | .str _ :: _, _, _, _, q => q.elim
  | .list _ :: _, _, _, _, q => q.elim
  | .tuple _ :: _, _, _, _, q => q.elim
  | .dict _ :: _, _, _, _, q => q.elim
theorem boolsK_mono : ∀ {ds : List D} {P Q : List Bool → Prop}, (∀ d, P d → Q d) → boolsK ds P → boolsK ds Q
  | [], _, _, h, q => h _ q
  | .bool _ :: r, _, _, h, q => boolsK_mono (ds := r) (fun _ z => h _ z) q
  | .none :: _, _, _, _, q => q.elim
  | .int _ :: _, _, _, _, q => q.elim
  | .str _ :: _, _, _, _, q => q.elim
  | .list _ :: _, _, _, _, q => q.elim
  | .tuple _ :: _, _, _, _, q => q.elim
  | .dict _ :: _, _, _, _, q => q.elim
theorem op2_mono {P Q : D → Prop} (h : ∀ d, P d → Q d) {o : O2} {x y : D} (q : op2 o x y P) : op2 o x y Q := by
  unfold op2 at q ⊢
  split at q <;> first
    | exact h _ q
    | exact ⟨q.1, h _ q.2⟩
    | exact ⟨q.1, seqK_mono (fun _ z => h _ z) q.2⟩
    | exact q.elim
theorem op1_mono {P Q : D → Prop} (h : ∀ d, P d → Q d) {o : O1} {x : D} (q : op1 o x P) : op1 o x Q := by
  unfold op1 at q ⊢
  split at q <;> first | exact h _ q | exact q.elim
theorem ixK_mono {P Q : D → Prop} (h : ∀ d, P d → Q d) {x y : D} (q : ixK x y P) : ixK x y Q := by
  unfold ixK at q ⊢
  split at q
  · exact seqK_mono (fun _ ⟨a, d, e, z⟩ => ⟨a, d, e, h _ z⟩) q
  · exact q.elim
theorem consK_mono {P Q : D → List D → Prop} (h : ∀ d r, P d r → Q d r) : ∀ {ds : List D}, consK ds P → consK ds Q
  | [], q => q
  | _ :: _, q => h _ _ q
theorem setK_mono {P Q : D → Prop} (h : ∀ d, P d → Q d) {ds : List D} (q : setK ds P) : setK ds Q := by
  obtain ⟨ps, e, a, q⟩ := q
  exact ⟨ps, e, a, fun o h1 h2 => h _ (q o h1 h2)⟩
theorem b1K_mono {P Q : D → Prop} (h : ∀ d, P d → Q d) {o : B1} {x : D} (q : b1K o x P) : b1K o x Q := by
  unfold b1K at q ⊢
  split at q
  case h_1 => exact seqK_mono (fun _ z => h _ z) q
  case h_2 => exact seqK_mono (fun _ z => h _ z) q
  case h_3 => exact seqK_mono (fun _ z => h _ z) q
  case h_4 => exact intsK_mono (fun _ z => h _ z) q
  case h_5 => exact boolsK_mono (fun _ z => h _ z) q
  case h_6 => exact boolsK_mono (fun _ z => h _ z) q
  case h_7 => exact seqK_mono (fun _ z => consK_mono (fun _ _ z => ⟨z.1, h _ z.2⟩) z) q
  case h_8 => exact seqK_mono (fun _ z => consK_mono (fun _ _ z => ⟨z.1, h _ z.2⟩) z) q
  case h_9 => exact seqK_mono (fun _ z => ⟨z.1, h _ z.2⟩) q
  case h_10 => exact seqK_mono (fun _ z => ⟨z.1, h _ z.2⟩) q
  case h_11 => exact h _ q
  case h_12 => exact h _ q
  case h_13 => exact h _ q
  case h_14 => exact setK_mono h q
  case h_15 => exact intsK_mono (fun _ z => ⟨z.1, fun l h1 h2 => h _ (z.2 l h1 h2)⟩) q
  case h_16 => exact q.elim
theorem rngK_mono {P Q : List D → Prop} (h : ∀ d, P d → Q d) {ds : List D} (q : rngK ds P) : rngK ds Q := by
  unfold rngK at q ⊢
  split at q <;> first | exact ⟨q.1, h _ q.2⟩ | exact q.elim
theorem itK_mono {P Q : List D → Prop} (h : ∀ d, P d → Q d) {r : Bool} {ds : List D} (q : itK r ds P) : itK r ds Q := by
  unfold itK at q ⊢
  split at q <;> first | exact rngK_mono h q | exact seqK_mono h q | exact q.elim
theorem slK_mono {P Q : D → Prop} (h : ∀ d, P d → Q d) {x : D} {l u : Option Int} (q : slK x l u P) : slK x l u Q := by
  unfold slK at q ⊢
  split at q <;> first | exact h _ q | exact q.elim
theorem revK_mono {P Q : D → Prop} (h : ∀ d, P d → Q d) {x : D} (q : revK x P) : revK x Q := by
  unfold revK at q ⊢
  split at q <;> first | exact h _ q | exact q.elim
theorem fin_mono {P Q : Kc} (h : ∀ d g, P d g → Q d g) {t : Bool} {z : D} {g : Nat} (q : fin t z g P) : fin t z g Q := by
  cases t with
  | true => exact truK_mono (fun _ z => h _ _ z) q
  | false => exact h _ _ q
theorem lstIt_mono {P Q : List D → Prop} (h : ∀ d, P d → Q d) {r : Bool} {ds : List D} (q : lstIt r ds P) : lstIt r ds Q := by
  unfold lstIt at q ⊢
  split at q <;> first | exact h _ q | exact q.elim
theorem keyK_mono {P Q : D → Prop} (h : ∀ d, P d → Q d) {k : Nat} {rs : List D} {kf : D → D} (q : keyK k rs kf P) : keyK k rs kf Q := by
  match k with
  | 0 => exact consK_mono (fun _ _ z => h _ z) q
  | 1 => exact consK_mono (fun _ _ z => h _ z) q
  | 2 => exact h _ q
  | _ + 3 => exact q.elim
mutual
theorem wpTg_mono {P Q : Sl → Prop} (h : ∀ Γ, P Γ → Q Γ) : ∀ {t : Tg} {d : D} {Γ : Sl}, wpTg t d Γ P → wpTg t d Γ Q
  | .nm _, _, _, q => h _ q
  | .tp _, .tuple _, _, q => wpTgs_mono h q
  | .tp _, .none, _, q => q.elim
  | .tp _, .bool _, _, q => q.elim
  | .tp _, .int _, _, q => q.elim
  | .tp _, .str _, _, q => q.elim
  | .tp _, .list _, _, q => q.elim
  | .tp _, .dict _, _, q => q.elim
theorem wpTgs_mono {P Q : Sl → Prop} (h : ∀ Γ, P Γ → Q Γ) : ∀ {t : List Tg} {d : List D} {Γ : Sl}, wpTgs t d Γ P → wpTgs t d Γ Q
  | [], [], _, q => h _ q
  | _ :: _, _ :: _, _, q => wpTg_mono (fun _ z => wpTgs_mono h z) q
  | [], _ :: _, _, q => q.elim
  | _ :: _, [], _, q => q.elim
end
theorem lcW_mono {f f' : D → Nat → (Option D → Nat → Prop) → Prop} {P Q : List D → Nat → Prop} (hf : ∀ d g K K', (∀ o g, K o g → K' o g) → f d g K → f' d g K') (h : ∀ d g, P d g → Q d g) :
    ∀ {ds acc : List D} {g : Nat}, lcW f ds acc g P → lcW f' ds acc g Q
  | [], _, _, q => h _ _ q
  | _ :: _, _, _, q => hf _ _ _ _ (fun _ _ z => lcW_mono hf h z) q
theorem lc2W_mono {f f' : D → List D → Nat → (List D → Nat → Prop) → Prop} {P Q : List D → Nat → Prop} (hf : ∀ d acc g K K', (∀ o g, K o g → K' o g) → f d acc g K → f' d acc g K') (h : ∀ d g, P d g → Q d g) :
    ∀ {ds acc : List D} {g : Nat}, lc2W f ds acc g P → lc2W f' ds acc g Q
  | [], _, _, q => h _ _ q
  | _ :: _, _, _, q => hf _ _ _ _ _ (fun _ _ z => lc2W_mono hf h z) q

/-- the promises grow with what is wanted -/
structure Fam.Mono (Φ : Fam) : Prop where
  sp : ∀ f ds (P Q : D → Prop), (∀ d, P d → Q d) → Φ.sp f ds P → Φ.sp f ds Q
  spP : ∀ f ds g (P Q : Kc), (∀ d g, P d g → Q d g) → Φ.spP f ds g P → Φ.spP f ds g Q
section
variable {Φ : Fam} (M : Φ.Mono)
include M
mutual
theorem wpE_mono {P Q : Kc} (h : ∀ d g, P d g → Q d g) : ∀ {e : Ex} {t : Bool} {Γ : Sl} {g : Nat}, wpE Φ e t Γ g P → wpE Φ e t Γ g Q
  | .slot _, _, _, _, q => getS_mono (fun _ z => fin_mono h z) q
  | .cst _, _, _, _, q => fin_mono h q
  | .glob _, _, _, _, q => fin_mono h q
  | .op _ a b, _, _, _, q => wpE_mono (e := a) (fun _ _ z => wpE_mono (e := b) (fun _ _ z => op2_mono (fun _ z => fin_mono h z) z) z) q
  | .un _ a, _, _, _, q => wpE_mono (e := a) (fun _ _ z => op1_mono (fun _ z => fin_mono h z) z) q
  | .and a b, _, _, _, q => wpE_mono (e := a) (fun _ _ z => boolK_mono (fun c z => by
      cases c
      · exact h _ _ z
      · exact wpE_mono (e := b) (fun _ _ z => boolK_mono (fun _ z => h _ _ z) z) z) z) q
  | .or a b, _, _, _, q => wpE_mono (e := a) (fun _ _ z => truK_mono (fun c z => by
      cases c
      · exact wpE_mono (e := b) h z
      · exact h _ _ z) z) q
  | .not a, _, _, _, q => wpE_mono (e := a) (fun _ _ z => boolK_mono (fun c z => h _ _ z) z) q
  | .ite c a b, _, _, _, q => wpE_mono (e := c) (fun _ _ z => boolK_mono (fun c z => by
      cases c
      · exact wpE_mono (e := b) h z
      · exact wpE_mono (e := a) h z) z) q
  | .chn _ _ a b c, _, _, _, q => wpE_mono (e := a) (fun _ _ z => wpE_mono (e := b) (fun _ _ z => op2_mono (fun _ z => boolK_mono (fun t z => by
      cases t
      · exact h _ _ z
      · exact wpE_mono (e := c) (fun _ _ z => op2_mono (fun _ z => boolK_mono (fun _ z => h _ _ z) z) z) z) z) z) z) q
  | .tup es, _, _, _, q => wpL_mono (es := es) (fun _ _ z => fin_mono h z) q
  | .lst es, _, _, _, q => wpL_mono (es := es) (fun _ _ z => fin_mono h z) q
  | .ix a b, _, _, _, q => wpE_mono (e := a) (fun _ _ z => wpE_mono (e := b) (fun _ _ z => ixK_mono (fun _ z => fin_mono h z) z) z) q
  | .sl a lo hi, _, _, _, q => wpE_mono (e := a) (fun _ _ z => wpO_mono (e := lo) (fun _ _ z => wpO_mono (e := hi) (fun _ _ z => slK_mono (fun _ z => fin_mono h z) z) z) z) q
  | .rev a, _, _, _, q => wpE_mono (e := a) (fun _ _ z => revK_mono (fun _ z => fin_mono h z) z) q
  | .b1 _ a, _, _, _, q => wpE_mono (e := a) (fun _ _ z => b1K_mono (fun _ z => fin_mono h z) z) q
  | .mx2 a b, _, _, _, q => wpE_mono (e := a) (fun _ _ z => wpE_mono (e := b) (fun _ _ z => intK_mono (fun _ z => intK_mono (fun _ z => fin_mono h z) z) z) z) q
  | .mn2 a b, _, _, _, q => wpE_mono (e := a) (fun _ _ z => wpE_mono (e := b) (fun _ _ z => intK_mono (fun _ z => intK_mono (fun _ z => fin_mono h z) z) z) z) q
  | .mxd a b, _, _, _, q => wpE_mono (e := a) (fun _ _ z => wpE_mono (e := b) (fun _ _ z => seqK_mono (fun ds z => ⟨z.1, by
      have z := z.2
      cases ds
      · exact fin_mono h z
      · exact fin_mono h z⟩) z) z) q
  | .isi a _, _, _, _, q => wpE_mono (e := a) (fun _ _ z => fin_mono h z) q
  | .idx a b, _, _, _, q => wpE_mono (e := a) (fun _ _ z => wpE_mono (e := b) (fun _ _ z => ⟨z.1, seqK_mono (fun _ ⟨n, e, z⟩ => ⟨n, e, fin_mono h z⟩) z.2⟩) z) q
  | .cnt a b, _, _, _, q => wpE_mono (e := a) (fun _ _ z => wpE_mono (e := b) (fun _ _ z => intK_mono (fun _ z => seqK_mono (fun _ z => intsK_mono (fun _ z => fin_mono h z) z) z) z) z) q
  | .rl _ es, _, _, _, q => wpL_mono (es := es) (fun _ _ z => rngK_mono (fun _ z => fin_mono h z) z) q
  | .call f es, _, _, _, q => wpL_mono (es := es) (fun _ _ z => M.sp f _ _ _ (fun _ z => fin_mono h z) z) q
  | .callP f es, _, _, _, q => wpL_mono (es := es) (fun _ _ z => M.spP f _ _ _ _ (fun _ _ z => fin_mono h z) z) q
  | .lc own tg r es c e, _, _, _, q => wpL_mono (es := es) (fun _ _ z => itK_mono (fun _ z => lcW_mono (fun _ _ K K' hK z => wpTg_mono (fun _ z => wpOT_mono (e := c) (fun b _ z => by
      cases b
      · exact hK _ _ z
      · exact wpE_mono (e := e) (fun _ _ z => hK _ _ z) z) z) z) (fun _ _ z => fin_mono h z) z) z) q
  | .lc2 own own2 tg r es c tg2 r2 es2 c2 e, _, _, _, q => wpL_mono (es := es) (fun _ _ z => itK_mono (fun _ z => lc2W_mono (fun _ _ _ K K' hK z => wpTg_mono (fun _ z => wpOT_mono (e := c) (fun b _ z => by
      cases b
      · exact hK _ _ z
      · exact wpL_mono (es := es2) (fun _ _ z => itK_mono (fun _ z => lc2W_mono (fun _ _ _ K2 K2' hK2 z => wpTg_mono (fun _ z => wpOT_mono (e := c2) (fun b _ z => by
          cases b
          · exact hK2 _ _ z
          · exact wpE_mono (e := e) (fun _ _ z => ⟨z.1, hK2 _ _ z.2⟩) z) z) z) hK z) z) z) z) z) (fun _ _ z => fin_mono h z) z) z) q
  | .key k r es caps body, _, _, _, q => wpL_mono (es := es) (fun _ _ z => lstIt_mono (fun _ z => by
      obtain ⟨z1, kf, z2, z3, z4⟩ := z
      exact ⟨z1, kf, z2, z3, keyK_mono (fun _ z => fin_mono h z) z4⟩) z) q
theorem wpL_mono {P Q : List D → Nat → Prop} (h : ∀ d g, P d g → Q d g) : ∀ {es : List Ex} {Γ : Sl} {g : Nat}, wpL Φ es Γ g P → wpL Φ es Γ g Q
  | [], _, _, q => h _ _ q
  | e :: es, _, _, q => wpE_mono (e := e) (fun _ _ z => wpL_mono (es := es) (fun _ _ z => h _ _ z) z) q
theorem wpO_mono {P Q : Option Int → Nat → Prop} (h : ∀ d g, P d g → Q d g) : ∀ {e : Option Ex} {Γ : Sl} {g : Nat}, wpO Φ e Γ g P → wpO Φ e Γ g Q
  | none, _, _, q => h _ _ q
  | some e, _, _, q => wpE_mono (e := e) (fun _ _ z => intK_mono (fun _ z => h _ _ z) z) q
theorem wpOT_mono {P Q : Bool → Nat → Prop} (h : ∀ d g, P d g → Q d g) : ∀ {e : Option Ex} {Γ : Sl} {g : Nat}, wpOT Φ e Γ g P → wpOT Φ e Γ g Q
  | none, _, _, q => h _ _ q
  | some e, _, _, q => wpE_mono (e := e) (fun _ _ z => boolK_mono (fun _ z => h _ _ z) z) q
end
end
end W3
namespace W3
open PySem PySem.Spec PyProof.Rows L2 NdefX LamX
open PySem.W (alike dataLt AllAlike Sortable dataLe AlikeAll minD maxD)

def Out (P : Pw) (K : PySem.W.Frag) (H : Hp) (g : Nat) (z : D) (fr : Prop) (Q : VK) : Prop :=
  ∀ (v : V) (H' : Hp) (fp : List Addr), Ext P H H' → WI P g H' → Rp K H' v z fp → nr P fp → (fr → fp.Nodup ∧ ∀ p ∈ fp, H p = none) → Q v H'
section
variable {P : Pw} {K : PySem.W.Frag} {H : Hp} {g : Nat} {z : D} {fr : Prop} {Q : VK} {v : V} {p : Addr} {vs : List V} {ds : List D} {fp : List Addr}
theorem nr_nil : nr P [] := fun _ _ h => nomatch h
theorem nr_app {f1 f2 : List Addr} (h1 : nr P f1) (h2 : nr P f2) : nr P (f1 ++ f2) := fun r e hm => (List.mem_append.mp hm).elim (h1 r e) (h2 r e)
theorem nr_sub {f1 f2 : List Addr} (h : nr P f2) (hs : f1.Sublist f2) : nr P f1 := fun r e hm => h r e (hs.mem hm)
theorem Out.here (w : WI P g H) (h : Rp K H v z []) (q : Out P K H g z fr Q) : Q v H := q v H [] (Ext.refl P H) w h nr_nil fun _ => ⟨List.nodup_nil, fun _ h => nomatch h⟩
/-- the value itself, not told to be new -/
theorem Out.same (w : WI P g H) (h : Rp K H v z fp) (n : nr P fp) (hf : fr → False) (q : Out P K H g z fr Q) : Q v H := q v H fp (Ext.refl P H) w h n fun z => (hf z).elim
theorem Out.mono {fr' : Prop} (hf : fr' → fr) (q : Out P K H g z fr' Q) : Out P K H g z fr Q := fun v H' fp e w h n f => q v H' fp e w h n fun z => f (hf z)
theorem cnt_ne (w : WI P g H) (h : H p = none) : ∀ r, P.r = some r ∨ r ∈ P.bad → r ≠ p := fun r e z => by
  rcases e with e | e
  · obtain ⟨n, _, y⟩ := w.cnt r e
    rw [z, h] at y; cases y
  · exact w.bad r e (by rw [z]; exact h)
/-- a new tuple -/
theorem Out.newT (w : WI P g H) (hs : Rps K H vs ds fp) (n : nr P fp) (hp : H p = none) (hf : fr → fp.Nodup ∧ ∀ p ∈ fp, H p = none) (q : Out P K H g (.tuple ds) fr Q) : Q (.ref p) (upd H p (.tup vs)) :=
  q _ _ fp (Ext.upd hp) (w.upd hp) (.tup (SqT.of upd_same) (hs.ext (Ext.upd hp) w n)) n hf
/-- a new list -/
theorem Out.newL (w : WI P g H) (hs : Rps K H vs ds fp) (n : nr P fp) (hp : H p = none) (hf : fr → fp.Nodup ∧ ∀ p ∈ fp, H p = none) (hpf : fr → p ∉ fp) (q : Out P K H g (.list ds) fr Q) : Q (.ref p) (upd H p (.lst vs)) :=
  q _ _ (p :: fp) (Ext.upd hp) (w.upd hp) (.lst upd_same (hs.ext (Ext.upd hp) w n)) (fun r e hm => by
    rcases List.mem_cons.mp hm with z | z
    · exact cnt_ne w hp r e z
    · exact n r e z) fun z => ⟨List.nodup_cons.mpr ⟨hpf z, (hf z).1⟩, fun b hb => by
    rcases List.mem_cons.mp hb with y | y
    · rw [y]; exact hp
    · exact (hf z).2 b y⟩
/-- .. whose items are flat -/
theorem Out.newF (w : WI P g H) (hs : Rps K H vs ds fp) (n : nr P fp) (hp : H p = none) (q : Out P K H g (.list ds) (frs1 (.list ds) = true) Q) : Q (.ref p) (upd H p (.lst vs)) :=
  Out.newL w hs n hp (fun z => by
    rw [hs.flat z]
    exact ⟨List.nodup_nil, fun _ h => nomatch h⟩) (fun z => by
    rw [hs.flat z]
    exact fun h => nomatch h) q
theorem big_ok {n : Nat} (h : n ≤ big) : n ≤ sizeLine := Nat.le_trans h (by decide)
theorem big_lt {n : Nat} (h : n < big) : n < sizeLine := Nat.lt_of_lt_of_le h (by decide)
end

def rD2 (P : Pw) (K : PySem.W.Frag) (o : O2) : R2 := fun x y H Q => ∃ d e fd fe g, Rp K H x d fd ∧ Rp K H y e fe ∧ nr P fd ∧ nr P fe ∧ WI P g H ∧ op2 o d e fun z => Out P K H g z (frs1 z = true) Q
section
variable {X : Cx} {P : Pw}
theorem opD_add : OpR X (binaryOp .Add) (rD2 P X.K .add) := by
  intro pins s σ H x y v u Q I rx ry h
  obtain ⟨d, e, fd, fe, g, hd, he, nd, ne, w, q⟩ := h
  cases hd
  case int i =>
    cases he
    case int j => exact op_add pins s σ H _ _ v u Q I rx ry ⟨i, j, rfl, rfl, Out.here w (.int _) q⟩
    all_goals exact False.elim q
  case tup a vs ds h1 hs1 =>
    cases he
    case tup b ws es h2 hs2 =>
      obtain ⟨hz, q⟩ := q
      have l1 := hs1.length
      have l2 := hs2.length
      refine op_catA pins s σ H _ _ v u Q I rx ry ⟨a, b, vs, ws, rfl, rfl, h1, h2, big_ok (by omega), fun z => ?_, fun z1 z2 => ?_, fun _ _ p hp => ?_⟩
      · subst z
        cases hs1
        exact Out.same w (.tup h2 hs2) ne (fun z => by simp [frs1] at z) q
      · subst z2
        cases hs2
        exact Out.same w (z := .tuple (ds ++ [])) (by rw [List.append_nil]; exact .tup h1 hs1) nd (fun z => by simp [frs1] at z) q
      · exact Out.newT w (hs1.append hs2) (nr_app nd ne) hp (fun z => by simp [frs1] at z) q
    all_goals exact False.elim q
  case lst a vs ds f1 h1 hs1 =>
    cases he
    case lst b ws es f2 h2 hs2 =>
      obtain ⟨hz, q⟩ := q
      have l1 := hs1.length
      have l2 := hs2.length
      exact op_cat pins s σ H _ _ v u Q I rx ry ⟨a, b, vs, ws, rfl, rfl, h1, h2, big_ok (by omega), fun p hp => Out.newF w (hs1.append hs2) (nr_app (nr_sub nd (List.sublist_cons_self _ _)) (nr_sub ne (List.sublist_cons_self _ _))) hp q⟩
    all_goals exact False.elim q
  all_goals exact False.elim q
theorem opD_int {o : O2} {op : Operator} {C : Int → Int → Prop} {f : Int → Int → V} (h0 : OpR X (binaryOp op) (rI C f)) (fz : Int → Int → D)
    (hf : ∀ d e Q, op2 o d e Q → ∃ i j, d = .int i ∧ e = .int j ∧ C i j ∧ Q (fz i j)) (hz : ∀ (H : Hp) i j, Rp X.K H (f i j) (fz i j) []) : OpR X (binaryOp op) (rD2 P X.K o) := by
  intro pins s σ H x y v u Q I rx ry h
  obtain ⟨d, e, fd, fe, g, hd, he, nd, ne, w, q⟩ := h
  obtain ⟨i, j, rfl, rfl, hc, q⟩ := hf _ _ _ q
  cases hd
  cases he
  exact h0 pins s σ H _ _ v u Q I rx ry ⟨i, j, rfl, rfl, hc, Out.here w (hz _ _ _) q⟩
theorem op2_sub {d e : D} {Q : D → Prop} (q : op2 .sub d e Q) : ∃ i j, d = .int i ∧ e = .int j ∧ True ∧ Q (.int (i - j)) := by
  cases d <;> first | exact False.elim q | (cases e <;> first | exact False.elim q | exact ⟨_, _, rfl, rfl, trivial, q⟩)
theorem opD_sub : OpR X (binaryOp .Sub) (rD2 P X.K .sub) := by
  intro pins s σ H x y v u Q I rx ry h
  obtain ⟨d, e, fd, fe, g, hd, he, nd, ne, w, q⟩ := h
  obtain ⟨i, j, rfl, rfl, hc, q⟩ := op2_sub q
  cases hd
  cases he
  exact op_sub pins s σ H _ _ v u Q I rx ry ⟨i, j, rfl, rfl, Out.here w (.int _) q⟩
theorem opD_mul : OpR X (binaryOp .Mult) (rD2 P X.K .mul) := by
  intro pins s σ H x y v u Q I rx ry h
  obtain ⟨d, e, fd, fe, g, hd, he, nd, ne, w, q⟩ := h
  cases hd
  case int i =>
    cases he
    case int j => exact op_mul pins s σ H _ _ v u Q I rx ry ⟨i, j, rfl, rfl, q.1, Out.here w (.int _) q.2⟩
    all_goals exact False.elim q
  case lst a vs ds f1 h1 hs1 =>
    cases he
    case int k =>
      obtain ⟨⟨k0, k1, kl⟩, q⟩ := q
      have l1 := hs1.length
      refine op_rep pins s σ H _ _ v u Q I rx ry ⟨a, k, vs, rfl, rfl, h1, by omega, by omega, ?_, fun p hp => ?_⟩
      · rw [l1, kl, Nat.one_mul]
        exact Nat.le_trans (show k.toNat ≤ 1000 by omega) (by decide)
      · have hr : ∀ n : Nat, ∃ fp, Rps X.K H (List.replicate n vs).flatten (List.replicate n ds).flatten fp ∧ nr P fp := by
          intro n
          induction n with
          | zero => exact ⟨[], .nil, nr_nil⟩
          | succ n ih =>
            obtain ⟨fp, h, n'⟩ := ih
            rw [List.replicate_succ, List.flatten_cons, List.replicate_succ, List.flatten_cons]
            exact ⟨_, hs1.append h, nr_app (nr_sub nd (List.sublist_cons_self _ _)) n'⟩
        obtain ⟨fp, h, n'⟩ := hr k.toNat
        exact Out.newF w h n' hp q
    all_goals exact False.elim q
  all_goals exact False.elim q
theorem opD_fdv : OpR X (binaryOp .FloorDiv) (rD2 P X.K .fdv) := opD_int op_fdiv (fun i j => .int (i / j)) (fun d e Q q => by
  cases d <;> first | exact False.elim q | (cases e <;> first | exact False.elim q | exact ⟨_, _, rfl, rfl, q.1, q.2⟩)) fun _ _ _ => .int _
theorem opD_mod : OpR X (binaryOp .Mod) (rD2 P X.K .mod) := opD_int op_mod (fun i j => .int (i % j)) (fun d e Q q => by
  cases d <;> first | exact False.elim q | (cases e <;> first | exact False.elim q | exact ⟨_, _, rfl, rfl, q.1, q.2⟩)) fun _ _ _ => .int _
theorem small_abs {i : Int} (h : small i) : i.natAbs < 2 ^ 64 := by
  obtain ⟨h1, h2⟩ := h
  omega
theorem opD_pow : OpR X (binaryOp .Pow) (rD2 P X.K .pow) := opD_int op_pow (fun i j => .int (i ^ j.toNat)) (fun d e Q q => by
  cases d <;> first | exact False.elim q | (cases e <;> first | exact False.elim q | exact ⟨_, _, rfl, rfl, ⟨q.1.1, by have := q.1.2.1; omega, small_abs q.1.2.2⟩, q.2⟩)) fun _ _ _ => .int _
theorem opD_shl : OpR X (binaryOp .LShift) (rD2 P X.K .shl) := opD_int op_shl (fun i j => .int (i * 2 ^ j.toNat)) (fun d e Q q => by
  cases d <;> first | exact False.elim q | (cases e <;> first | exact False.elim q | exact ⟨_, _, rfl, rfl, ⟨q.1.1, by have := q.1.2.1; omega, small_abs q.1.2.2⟩, q.2⟩)) fun _ _ _ => .int _
theorem opD_shr : OpR X (binaryOp .RShift) (rD2 P X.K .shr) := opD_int op_shr (fun i j => .int (i / 2 ^ j.toNat)) (fun d e Q q => by
  cases d <;> first | exact False.elim q | (cases e <;> first | exact False.elim q | exact ⟨_, _, rfl, rfl, q.1, q.2⟩)) fun _ _ _ => .int _
theorem opD_band : OpR X (binaryOp .BitAnd) (rD2 P X.K .band) := opD_int (C := fun _ j => j = 1) (f := fun i j => .int (Builtin.bitAnd i j)) (fun pins s σ H x y v u Q I rx ry ⟨i, j, e1, e2, _, q⟩ => op_and pins s σ H x y v u Q I rx ry ⟨i, j, e1, e2, q⟩) (fun i j => .int (Builtin.bitAnd i j)) (fun d e Q q => by
  cases d <;> first | exact False.elim q | (cases e <;> first | exact False.elim q | exact ⟨_, _, rfl, rfl, q.1, by rw [q.1, bitAnd_m1]; exact q.2⟩)) fun _ _ _ => .int _
end
end W3
namespace W3
open PySem PySem.Spec PyProof.Rows L2 NdefX LamX
open PySem.W (alike dataLt AllAlike Sortable dataLe AlikeAll minD maxD)
theorem rp_seq {K : PySem.W.Frag} {H : Hp} {x : V} {d : D} {fp : List Addr} (h : Rp K H x d fp) {Q : List D → Prop} (q : seqK d Q) :
    ∃ a vs ds f, x = .ref a ∧ (d = .list ds ∧ H a = some (.lst vs) ∧ fp = a :: f ∨ d = .tuple ds ∧ SqT K H a vs ∧ fp = f) ∧ Rps K H vs ds f ∧ Q ds := by
  cases h
  case tup a vs ds h1 hs => exact ⟨a, vs, ds, _, rfl, .inr ⟨rfl, h1, rfl⟩, hs, q⟩
  case lst a vs ds f h1 hs => exact ⟨a, vs, ds, f, rfl, .inl ⟨rfl, h1, rfl⟩, hs, q⟩
  all_goals exact False.elim q
theorem sq_or {K : PySem.W.Frag} {H : Hp} {a : Addr} {vs : List V} {d : D} {ds : List D} {fp f : List Addr} (h : d = .list ds ∧ H a = some (.lst vs) ∧ fp = a :: f ∨ d = .tuple ds ∧ SqT K H a vs ∧ fp = f) : SqL K H a vs ∨ SqT K H a vs := by
  rcases h with ⟨_, h, _⟩ | ⟨_, h, _⟩
  · exact .inl (SqL.of h)
  · exact .inr h
theorem nr_of {P : Pw} {K : PySem.W.Frag} {H : Hp} {a : Addr} {vs : List V} {d : D} {ds : List D} {fp f : List Addr} (h : d = .list ds ∧ H a = some (.lst vs) ∧ fp = a :: f ∨ d = .tuple ds ∧ SqT K H a vs ∧ fp = f) (n : nr P fp) : nr P f := by
  rcases h with ⟨_, _, rfl⟩ | ⟨_, _, rfl⟩
  · exact nr_sub n (List.sublist_cons_self _ _)
  · exact n
section
variable {X : Cx} {P : Pw} {K : PySem.W.Frag} {pins : List (Addr × Obj)} {σ : L2.St} {H : Hp} {s : Shared}
theorem Rp.reads {d : D} {v : V} {u : Value} {fp : List Addr} (I : Inv X pins σ H s) (h : Rp X.K H v d fp) (r : RelV v u) : ∃ as, Reads s.heap u d as := Dp.reads I d v u h.dp r
theorem room_shp {A : Around} {d e : D} (h : shp d) (hu : A.units + 100 < cLine) : A.units + min d.depth e.depth < cLine := by
  have h2 : min d.depth e.depth ≤ d.depth := Nat.min_le_left _ _
  have h3 : d.depth ≤ 64 := h
  omega
theorem opD_lt (hu : X.A.units + 100 < cLine) : OpR X (compareOp .Lt) (rD2 P X.K .lt) := by
  intro pins s σ H x y v u Q I rx ry h
  obtain ⟨d, e, fd, fe, g, hd, he, nd, ne, w, q⟩ := h
  obtain ⟨as, r1⟩ := hd.reads I rx
  obtain ⟨bs, r2⟩ := he.reads I ry
  cases hd
  case int i =>
    cases he
    case int j => exact op_lt pins s σ H _ _ v u Q I rx ry ⟨i, j, rfl, rfl, Out.here w (.bl _) q⟩
    all_goals exact False.elim q
  case tup a vs ds h1 hs1 =>
    cases he
    case tup b ws es h2 hs2 =>
      obtain ⟨⟨ha, hs⟩, q⟩ := q
      exact PySem.W.lt_data r1 r2 ha (by intro z; cases z) (room_shp hs hu) ⟨.bl _, H, I, rfl, Out.here w (.bl _) q⟩
    all_goals exact False.elim q
  all_goals exact False.elim q
theorem opD_cmp {o : O2} {op : CmpOp} {f : Int → Int → Bool} (h0 : OpR X (compareOp op) (rI0 fun i j => .bl (f i j)))
    (hf : ∀ d e Q, op2 o d e Q → ∃ i j, d = .int i ∧ e = .int j ∧ Q (.bool (f i j))) : OpR X (compareOp op) (rD2 P X.K o) := by
  intro pins s σ H x y v u Q I rx ry h
  obtain ⟨d, e, fd, fe, g, hd, he, nd, ne, w, q⟩ := h
  obtain ⟨i, j, rfl, rfl, q2⟩ := hf _ _ _ q
  cases hd
  cases he
  exact h0 pins s σ H _ _ v u Q I rx ry ⟨i, j, rfl, rfl, Out.here w (.bl _) q2⟩
theorem opD_le : OpR X (compareOp .LtE) (rD2 P X.K .le) := opD_cmp op_le fun d e Q q => by
  cases d <;> first | exact False.elim q | (cases e <;> first | exact False.elim q | exact ⟨_, _, rfl, rfl, q⟩)
theorem opD_gt : OpR X (compareOp .Gt) (rD2 P X.K .gt) := opD_cmp op_gt fun d e Q q => by
  cases d <;> first | exact False.elim q | (cases e <;> first | exact False.elim q | exact ⟨_, _, rfl, rfl, q⟩)
theorem opD_ge : OpR X (compareOp .GtE) (rD2 P X.K .ge) := opD_cmp op_ge fun d e Q q => by
  cases d <;> first | exact False.elim q | (cases e <;> first | exact False.elim q | exact ⟨_, _, rfl, rfl, q⟩)
theorem opD_eq (hu : X.A.units + 100 < cLine) : OpR X (compareOp .Eq) (rD2 P X.K .eq) := by
  intro pins s σ H x y v u Q I rx ry h
  obtain ⟨d, e, fd, fe, g, hd, he, nd, ne, w, q⟩ := h
  obtain ⟨as, r1⟩ := hd.reads I rx
  obtain ⟨bs, r2⟩ := he.reads I ry
  have q : shp d ∧ Out P X.K H g (.bool (PyData.eqv d e)) (frs1 (.bool (PyData.eqv d e)) = true) Q := by
    unfold op2 at q
    split at q <;> first | exact q | (rename_i e; cases e)
  exact SeqAt.compareEq_reads r1 r2 hd.lay he.lay (room_shp q.1 hu) ⟨.bl _, H, I, rfl, Out.here w (.bl _) q.2⟩
theorem opD_ne (hu : X.A.units + 100 < cLine) : OpR X (compareOp .NotEq) (rD2 P X.K .ne) := by
  intro pins s σ H x y v u Q I rx ry h
  obtain ⟨d, e, fd, fe, g, hd, he, nd, ne, w, q⟩ := h
  obtain ⟨as, r1⟩ := hd.reads I rx
  obtain ⟨bs, r2⟩ := he.reads I ry
  have q : shp d ∧ Out P X.K H g (.bool (!PyData.eqv d e)) (frs1 (.bool (!PyData.eqv d e)) = true) Q := by
    unfold op2 at q
    split at q <;> first | exact q | (rename_i e; cases e)
  exact SeqAt.compareNe_reads r1 r2 hd.lay he.lay (room_shp q.1 hu) ⟨.bl _, H, I, rfl, Out.here w (.bl _) q.2⟩
theorem room_in {A : Around} {d : D} {ds : List D} (h : shp d) (hu : A.units + 100 < cLine) : A.units + 1 + min (PyData.depthAll ds) d.depth < cLine := by
  have h2 : min (PyData.depthAll ds) d.depth ≤ d.depth := Nat.min_le_right _ _
  have h3 : d.depth ≤ 64 := h
  omega
theorem opD_in (hu : X.A.units + 100 < cLine) : OpR X (compareOp .In) (rD2 P X.K .inn) := by
  intro pins s σ H x y v u Q I rx ry h
  obtain ⟨d, e, fd, fe, g, hd, he, nd, ne, w, q⟩ := h
  obtain ⟨as, r1⟩ := hd.reads I rx
  obtain ⟨bs, r2⟩ := he.reads I ry
  have q : shp d ∧ seqK e fun ds => Out P X.K H g (.bool (inD d ds)) (frs1 (.bool (inD d ds)) = true) Q := by
    unfold op2 at q
    split at q <;> first | exact q | (rename_i e; cases e)
  obtain ⟨hs, q⟩ := q
  have l2 := he.lay
  cases he
  case tup b ws es h2 hs2 => exact SeqAt.in_tuple_reads r2 r1 l2 hd.lay (room_in hs hu) ⟨.bl _, H, I, rfl, Out.here w (.bl _) q⟩
  case lst b ws es f2 h2 hs2 => exact SeqAt.in_list_reads r2 r1 l2 hd.lay (room_in hs hu) ⟨.bl _, H, I, rfl, Out.here w (.bl _) q⟩
  all_goals exact False.elim q
theorem opD_nin (hu : X.A.units + 100 < cLine) : OpR X (compareOp .NotIn) (rD2 P X.K .nin) := by
  intro pins s σ H x y v u Q I rx ry h
  obtain ⟨d, e, fd, fe, g, hd, he, nd, ne, w, q⟩ := h
  obtain ⟨as, r1⟩ := hd.reads I rx
  obtain ⟨bs, r2⟩ := he.reads I ry
  have q : shp d ∧ seqK e fun ds => Out P X.K H g (.bool (!inD d ds)) (frs1 (.bool (!inD d ds)) = true) Q := by
    unfold op2 at q
    split at q <;> first | exact q | (rename_i e; cases e)
  obtain ⟨hs, q⟩ := q
  have l2 := he.lay
  cases he
  case tup b ws es h2 hs2 => exact SeqAt.notIn_tuple_reads r2 r1 l2 hd.lay (room_in hs hu) ⟨.bl _, H, I, rfl, Out.here w (.bl _) q⟩
  case lst b ws es f2 h2 hs2 => exact SeqAt.notIn_list_reads r2 r1 l2 hd.lay (room_in hs hu) ⟨.bl _, H, I, rfl, Out.here w (.bl _) q⟩
  all_goals exact False.elim q
def rD1 (P : Pw) (K : PySem.W.Frag) (f : D → (D → Prop) → Prop) : V → Hp → VK → Prop := fun x H Q => ∃ d fd g, Rp K H x d fd ∧ nr P fd ∧ WI P g H ∧ f d fun z => Out P K H g z (frs1 z = true) Q
theorem unD_neg : UnR X (unaryOp .USub) (rD1 P X.K (op1 .neg)) := by
  intro pins s σ H x v Q I rx h
  obtain ⟨d, fd, g, hd, nd, w, q⟩ := h
  cases hd
  case int i => exact un_neg pins s σ H _ v Q I rx ⟨i, rfl, Out.here w (.int _) q⟩
  all_goals exact False.elim q
theorem isN_of {x : V} {d : D} {fp : List Addr} (h : Rp K H x d fp) : decide (x = .non) = isNo d := by
  cases h <;> rfl
theorem ixN_at {α : Type} {xs : List α} {i : Int} {d : α} (h1 : -(xs.length : Int) ≤ i) (h2 : i < xs.length) (h : xs[atN xs.length i]? = some d) : atI xs i = some d := by
  unfold atI ixN
  unfold atN at h
  by_cases hi : i < 0
  · rw [if_pos hi] at h
    rw [if_neg (by omega), if_pos h1]
    exact h
  · rw [if_neg hi] at h
    rw [if_pos (by omega), if_pos h2]
    exact h
theorem ixD : IxR X (fun x y H Q => ∃ d e fd fe g, Rp X.K H x d fd ∧ Rp X.K H y e fe ∧ nr P fd ∧ WI P g H ∧ ixK d e fun z => Out P X.K H g z False Q) := by
  intro value slice pins s σ H x y v u Q I rx ry h hs
  obtain ⟨d, e, fd, fe, g, hd, he, nd, w, q⟩ := h
  unfold ixK at q
  split at q
  case h_2 => exact False.elim q
  case h_1 i =>
    cases he
    obtain ⟨a, vs, ds, f, rfl, hv, hr, ⟨q1, q2⟩, z, hz, q⟩ := rp_seq hd q
    have hl := hr.length
    obtain ⟨vz, fz, hvz, hrz, hsub⟩ := hr.get hz
    have ha : atI vs i = some vz := ixN_at (by rw [hl]; exact q1) (by rw [hl]; exact q2) (by rw [hl]; exact hvz)
    have qq : Q vz H := Out.same w hrz (nr_sub (nr_of hv nd) hsub) (fun z => z) q
    refine ix_seq value slice pins s σ H _ _ v u Q I rx ry ?_ hs
    rcases sq_or hv with h | h
    · exact .inl ⟨a, vs, i, vz, rfl, rfl, h, ha, qq⟩
    · exact .inr (.inl ⟨a, vs, i, vz, rfl, rfl, h, ha, qq⟩)
end
end W3
namespace W3
open PySem PySem.Spec PyProof.Rows L2 NdefX LamX
open PySem.W (alike dataLt AllAlike Sortable dataLe AlikeAll minD maxD)
def rB (P : Pw) (K : PySem.W.Frag) (b : B1) : List V → Hp → VK → Prop := fun vs H Q => ∃ x d fd g, vs = [x] ∧ Rp K H x d fd ∧ nr P fd ∧ WI P g H ∧ b1K b d fun z => Out P K H g z (frsB b z = true) Q
section
variable {X : Cx} {P : Pw} {K : PySem.W.Frag} {H : Hp}
theorem ints_of {vs : List V} {fp : List Addr} : ∀ {ds : List D} {Q : List Int → Prop}, intsK ds Q → ∃ is, ds = is.map .int ∧ Q is
  | [], _, q => ⟨[], rfl, q⟩
  | .int i :: r, Q, q => by
    obtain ⟨is, e, q⟩ := ints_of (vs := vs) (fp := fp) (ds := r) q
    exact ⟨i :: is, by rw [e]; rfl, q⟩
  | .none :: _, _, q => q.elim
  | .bool _ :: _, _, q => q.elim
  | .str _ :: _, _, q => q.elim
  | .list _ :: _, _, q => q.elim
  | .tuple _ :: _, _, q => q.elim
  | .dict _ :: _, _, q => q.elim
theorem bools_of : ∀ {ds : List D} {Q : List Bool → Prop}, boolsK ds Q → ∃ bs, ds = bs.map .bool ∧ Q bs
  | [], _, q => ⟨[], rfl, q⟩
  | .bool i :: r, Q, q => by
    obtain ⟨is, e, q⟩ := bools_of (ds := r) q
    exact ⟨i :: is, by rw [e]; rfl, q⟩
  | .none :: _, _, q => q.elim
  | .int _ :: _, _, q => q.elim
  | .str _ :: _, _, q => q.elim
  | .list _ :: _, _, q => q.elim
  | .tuple _ :: _, _, q => q.elim
  | .dict _ :: _, _, q => q.elim
theorem Rps.ints : ∀ {is : List Int} {vs : List V} {fp : List Addr}, Rps K H vs (is.map .int) fp → vs = is.map V.int ∧ fp = []
  | [], _, _, h => by cases h; exact ⟨rfl, rfl⟩
  | i :: is, _, _, h => by
    cases h with
    | cons h hs =>
      cases h
      obtain ⟨e1, e2⟩ := Rps.ints hs
      exact ⟨by rw [e1]; rfl, by rw [e2]; rfl⟩
theorem Rps.of_ints : ∀ (is : List Int), Rps K H (is.map V.int) (is.map .int) []
  | [] => .nil
  | i :: is => .cons (.int i) (Rps.of_ints is)
theorem Rps.bools : ∀ {is : List Bool} {vs : List V} {fp : List Addr}, Rps K H vs (is.map .bool) fp → vs = is.map V.bl ∧ fp = []
  | [], _, _, h => by cases h; exact ⟨rfl, rfl⟩
  | i :: is, _, _, h => by
    cases h with
    | cons h hs =>
      cases h
      obtain ⟨e1, e2⟩ := Rps.bools hs
      exact ⟨by rw [e1]; rfl, by rw [e2]; rfl⟩
theorem cb_len : CallR X (.builtin "len") (rB P X.K .len) := by
  intro pins s σ H xs us Q I r h
  obtain ⟨x, d, fd, g, rfl, hd, nd, w, q⟩ := h
  obtain ⟨a, vs, ds, f, rfl, hv, hr, q⟩ := rp_seq hd q
  refine call_len_seq pins s σ H _ us Q I r ⟨a, vs, rfl, sq_or hv, ?_⟩
  rw [hr.length]
  exact Out.here w (.int _) q
theorem cb_tup : CallR X (.type "tuple") (rB P X.K .tup) := by
  intro pins s σ H xs us Q I r h
  obtain ⟨x, d, fd, g, rfl, hd, nd, w, q⟩ := h
  obtain ⟨a, vs, ds, f, rfl, hv, hr, q⟩ := rp_seq hd q
  have n := nr_of hv nd
  refine call_tuple_of pins s σ H _ us Q I r ⟨a, vs, rfl, ?_⟩
  rcases hv with ⟨_, h, _⟩ | ⟨_, h, _⟩
  · exact .inl ⟨SqL.of h, fun l hl => Out.newT w hr n hl (fun z => by simp [frsB, frs1] at z) q⟩
  · exact .inr ⟨h, Out.same w (.tup h hr) n (fun z => by simp [frsB, frs1] at z) q⟩
theorem cb_lst : CallR X (.type "list") (rB P X.K .lst) := by
  intro pins s σ H xs us Q I r h
  obtain ⟨x, d, fd, g, rfl, hd, nd, w, q⟩ := h
  obtain ⟨a, vs, ds, f, rfl, hv, hr, q⟩ := rp_seq hd q
  have n := nr_of hv nd
  exact call_list_of pins s σ H _ us Q I r ⟨a, vs, rfl, sq_or hv, fun l hl => Out.newF w hr n hl q⟩
theorem cb_int : CallR X (.type "int") (rB P X.K .int) := by
  intro pins s σ H xs us Q I r h
  obtain ⟨x, d, fd, g, rfl, hd, nd, w, q⟩ := h
  refine call_int1 pins s σ H _ us Q I r ?_
  cases hd
  case int i => exact .inl ⟨i, rfl, Out.here w (.int _) q⟩
  case bl b => exact .inr ⟨b, rfl, Out.here w (.int _) q⟩
  all_goals exact False.elim q
theorem cb_abs : CallR X (.builtin "abs") (rB P X.K .abs) := by
  intro pins s σ H xs us Q I r h
  obtain ⟨x, d, fd, g, rfl, hd, nd, w, q⟩ := h
  cases hd
  case int i =>
    refine call_abs pins s σ H _ us Q I r ⟨i, rfl, ?_⟩
    have e : (if i < 0 then -i else i) = (i.natAbs : Int) := by split <;> omega
    rw [e]
    exact Out.here w (.int _) q
  all_goals exact False.elim q
theorem cb_sum (hc : X.calm = true) : CallR X (.builtin "sum") (rB P X.K .sum) := by
  intro pins s σ H xs us Q I r h
  obtain ⟨x, d, fd, g, rfl, hd, nd, w, q⟩ := h
  cases hd
  case lst a vs ds f h1 hs =>
    obtain ⟨is, rfl, q2⟩ := ints_of (vs := vs) (fp := f) q
    obtain ⟨rfl, rfl⟩ := hs.ints
    exact cr_sum hc pins s σ H _ us Q I r ⟨a, is, rfl, SqL.of h1, Out.here w (.int _) q2⟩
  all_goals exact False.elim q
theorem cb_all (hc : X.calm = true) : CallR X (.builtin "all") (rB P X.K .all) := by
  intro pins s σ H xs us Q I r h
  obtain ⟨x, d, fd, g, rfl, hd, nd, w, q⟩ := h
  cases hd
  case lst a vs ds f h1 hs =>
    obtain ⟨is, rfl, q2⟩ := bools_of q
    obtain ⟨rfl, rfl⟩ := hs.bools
    exact cr_all hc pins s σ H _ us Q I r ⟨a, is, rfl, SqL.of h1, Out.here w (.bl _) q2⟩
  all_goals exact False.elim q
theorem cb_any (hc : X.calm = true) : CallR X (.builtin "any") (rB P X.K .any) := by
  intro pins s σ H xs us Q I r h
  obtain ⟨x, d, fd, g, rfl, hd, nd, w, q⟩ := h
  cases hd
  case lst a vs ds f h1 hs =>
    obtain ⟨is, rfl, q2⟩ := bools_of q
    obtain ⟨rfl, rfl⟩ := hs.bools
    exact cr_any hc pins s σ H _ us Q I r ⟨a, is, rfl, SqL.of h1, Out.here w (.bl _) q2⟩
  all_goals exact False.elim q
theorem best_mem (f : D → D → Bool) : ∀ (xs : List D) (x : D), xs.foldl (fun a y => if f y a = true then y else a) x ∈ x :: xs
  | [], x => by simp
  | y :: ys, x => by
    rw [List.foldl_cons]
    have := best_mem f ys (if f y x = true then y else x)
    by_cases h : f y x = true
    · rw [if_pos h] at this ⊢
      exact List.mem_cons_of_mem _ this
    · rw [if_neg h] at this ⊢
      rcases List.mem_cons.mp this with e | m
      · rw [e]; exact List.mem_cons_self
      · exact List.mem_cons_of_mem _ (List.mem_cons_of_mem _ m)
theorem minD_mem (x : D) (xs : List D) : minD x xs ∈ x :: xs := best_mem (fun y a => dataLt y a) xs x
theorem maxD_mem (x : D) (xs : List D) : maxD x xs ∈ x :: xs := best_mem (fun y a => dataLt a y) xs x
theorem depth_all : ∀ {ds : List D}, (∀ d ∈ ds, shp d) → PyData.depthAll ds ≤ 64
  | [], _ => by simp [PyData.depthAll]
  | d :: ds, h => by
    have h1 : d.depth ≤ 64 := h d (by simp)
    have h2 := depth_all (ds := ds) fun e he => h e (by simp [he])
    simp only [PyData.depthAll]
    omega
/-- the chosen item as an abstract value -/
theorem pick_item {pins : List (Addr × Obj)} {σ : L2.St} {s : Shared} {vs : List V} {ds : List D} {fp : List Addr} {its : List Value} {i : Nat} {u : Value} {h' : Heap} {m : D} {bs : List Addr} (I : Inv X pins σ H s) (hr : Rps X.K H vs ds fp) (rv : Vals vs its)
    (hi : its.toArray[i]? = some u) (rd : Reads h' u m bs) (k : ∀ b o, s.heap.get? b = some o → h'.get? b = some o) (ha : AllAlike ds) (hm : m ∈ ds) : ∃ v f, RelV v u ∧ Rp X.K H v m f ∧ f.Sublist fp := by
  have hi : its[i]? = some u := by simpa using hi
  have hl := rv.length
  have hl2 := hr.length
  have hlt : i < ds.length := by
    have := (List.getElem?_eq_some_iff.mp hi).1
    omega
  have hd : ds[i]? = some ds[i] := List.getElem?_eq_getElem hlt
  obtain ⟨v, f, hv, hp, hsub⟩ := hr.get hd
  obtain ⟨u', hu', rel⟩ := rv.get hv
  rw [hi] at hu'
  cases hu'
  obtain ⟨as, r0⟩ := hp.reads I rel
  have r1 : Reads h' u ds[i] as := PyProof.Rows.Reads.keeps k r0
  have e := PySem.W.alike_unique _ _ _ _ _ (ha _ (List.getElem_mem hlt) _ hm) r1 rd
  rw [e] at hp
  exact ⟨v, f, rel, hp, hsub⟩
theorem readsAll_vals {pins : List (Addr × Obj)} {σ : L2.St} {s : Shared} {vs : List V} {ds : List D} {fp : List Addr} {its : List Value} (I : Inv X pins σ H s) (hr : Rps X.K H vs ds fp) (rv : Vals vs its) : ∃ as, ReadsAll s.heap its ds as := Dp.readsAll I ds vs its hr.dps rv
theorem nonone {ds : List D} (hd : ∀ d ∈ ds, d ≠ .none) (ha : AllAlike ds) : AlikeAll ds := ⟨fun x hx y hy => ha x hx y hy, hd⟩
theorem cb_mn (hc : X.calm = true) (hu : X.A.units + 100 < cLine) : CallR X (.builtin "min") (rB P X.K .mn) := by
  intro pins s σ H xs us Q I r h
  obtain ⟨x, d, fd, g, rfl, hd, nd, w, q⟩ := h
  obtain ⟨a, vs, ds, f, rfl, hv, hr, q⟩ := rp_seq hd q
  have n := nr_of hv nd
  rw [Vals.ref1 r]
  cases ds with
  | nil => exact False.elim q
  | cons d0 dr =>
    obtain ⟨⟨ha, hs⟩, q⟩ := q
    have dep := depth_all hs
    have fin : ∀ (its : List Value), Vals vs its → ∀ (i : Nat) v h' tk bs, its.toArray[i]? = some v → Reads h' v (minD d0 dr) bs → (∀ b o, s.heap.get? b = some o → h'.get? b = some o) → EP X pins σ Q v { s with heap := h', toks := tk } := fun its rv i v h' tk bs hi rd k => by
      obtain ⟨vv, ff, rel, hp, hsub⟩ := pick_item I hr rv hi rd k ha.1 (minD_mem d0 dr)
      exact ⟨vv, H, I.kept k, rel, Out.same w hp (nr_sub n hsub) (fun z => by simp [frsB] at z) q⟩
    rcases sq_or hv with h | h
    · obtain ⟨its, rv, hl, _⟩ := I.list h
      obtain ⟨as, ra⟩ := readsAll_vals I hr rv
      exact PySem.W.min_list_data (I.ok.hd hc) hl.isList (by simpa using ra) ha (by omega) (fin its rv)
    · obtain ⟨its, rv, hl, _⟩ := I.tuple h
      obtain ⟨as, ra⟩ := readsAll_vals I hr rv
      exact PySem.W.min_tuple_data (I.ok.hd hc) hl (by simpa using ra) ha (by omega) (fin its rv)
theorem cb_mx (hc : X.calm = true) (hu : X.A.units + 100 < cLine) : CallR X (.builtin "max") (rB P X.K .mx) := by
  intro pins s σ H xs us Q I r h
  obtain ⟨x, d, fd, g, rfl, hd, nd, w, q⟩ := h
  obtain ⟨a, vs, ds, f, rfl, hv, hr, q⟩ := rp_seq hd q
  have n := nr_of hv nd
  rw [Vals.ref1 r]
  cases ds with
  | nil => exact False.elim q
  | cons d0 dr =>
    obtain ⟨⟨ha, hs⟩, q⟩ := q
    have dep := depth_all hs
    have fin : ∀ (its : List Value), Vals vs its → ∀ (i : Nat) v h' tk bs, its.toArray[i]? = some v → Reads h' v (maxD d0 dr) bs → (∀ b o, s.heap.get? b = some o → h'.get? b = some o) → EP X pins σ Q v { s with heap := h', toks := tk } := fun its rv i v h' tk bs hi rd k => by
      obtain ⟨vv, ff, rel, hp, hsub⟩ := pick_item I hr rv hi rd k ha.1 (maxD_mem d0 dr)
      exact ⟨vv, H, I.kept k, rel, Out.same w hp (nr_sub n hsub) (fun z => by simp [frsB] at z) q⟩
    rcases sq_or hv with h | h
    · obtain ⟨its, rv, hl, _⟩ := I.list h
      obtain ⟨as, ra⟩ := readsAll_vals I hr rv
      exact PySem.W.max_list_data (I.ok.hd hc) hl.isList (by simpa using ra) ha (by omega) (fin its rv)
    · obtain ⟨its, rv, hl, _⟩ := I.tuple h
      obtain ⟨as, ra⟩ := readsAll_vals I hr rv
      exact PySem.W.max_tuple_data (I.ok.hd hc) hl (by simpa using ra) ha (by omega) (fin its rv)
theorem Rps.prs : ∀ {ps : List (Int × Int)} {vs : List V} {fp : List Addr}, Rps K H vs (ps.map encPr) fp → fp = [] ∧ ∃ ks : List (Addr × List Int), vs = ks.map (fun p => V.ref p.1) ∧ (∀ p ∈ ks, SqT K H p.1 (p.2.map V.int)) ∧ ks.map (·.2) = ps.map fun p => [p.1, p.2]
  | [], _, _, h => by cases h; exact ⟨rfl, [], rfl, (fun _ h => nomatch h), rfl⟩
  | p :: ps, _, _, h => by
    cases h with
    | cons h hs =>
      obtain ⟨e2, ks, e3, e4, e5⟩ := Rps.prs hs
      cases h with
      | tup ht hr =>
        rename_i a vs
        have hr' : Rps K H vs ([p.1, p.2].map .int) _ := hr
        obtain ⟨r1, r2⟩ := hr'.ints
        refine ⟨by rw [r2, e2]; rfl, (a, [p.1, p.2]) :: ks, by rw [e3]; rfl, fun q hq => ?_, by simp [e5]⟩
        rcases List.mem_cons.mp hq with z | z
        · rw [z, ← r1]; exact ht
        · exact e4 q z
theorem Rps.of_prs : ∀ (ks : List (Addr × List Int)), (∀ p ∈ ks, SqT K H p.1 (p.2.map V.int)) → ∀ ps : List (Int × Int), ks.map (·.2) = ps.map (fun p => [p.1, p.2]) → Rps K H (ks.map fun p => V.ref p.1) (ps.map encPr) []
  | [], _, [], _ => .nil
  | k :: ks, h, p :: ps, e => by
    simp only [List.map_cons, List.cons.injEq] at e
    have h1 := h k (by simp)
    rw [e.1] at h1
    exact .cons (f1 := []) (.tup h1 (Rps.of_ints [p.1, p.2])) (Rps.of_prs ks (fun q hq => h q (by simp [hq])) ps e.2)
  | [], _, _ :: _, e => by simp at e
  | _ :: _, _, [], e => by simp at e
theorem bd_pair {p : Int × Int} (h : (0 ≤ p.1 ∧ p.1 < 64) ∧ 0 ≤ p.2 ∧ p.2 < 64) : TS.Bd 64 [p.1, p.2] := by
  intro x hx
  simp at hx
  rcases hx with e | e <;> (rw [e]; omega)
theorem PE.weak {e : Expr} {t t' : TE} (h : PE X e t) (hw : ∀ σ H Q, t' σ H Q → t σ H Q) : PE X e t' := ⟨fun pins s σ H Q I q => h.run pins s σ H Q I (hw _ _ _ q)⟩
theorem PT.weak {e : Expr} {t t' : TT} (h : PT X e t) (hw : ∀ σ H Q, t' σ H Q → t σ H Q) : PT X e t' := ⟨fun pins s σ H Q I q => h.run pins s σ H Q I (hw _ _ _ q)⟩
/-- rows of pairs, one for each address -/
theorem prs_of {ks L : List (Addr × List Int)} {ps : List (Int × Int)} (e : ks.map (·.2) = ps.map fun p => [p.1, p.2]) (h1 : ∀ p ∈ L, p ∈ ks) : ∃ os : List (Int × Int), L.map (·.2) = os.map (fun p => [p.1, p.2]) ∧ ∀ p ∈ os, p ∈ ps := by
  induction L with
  | nil => exact ⟨[], rfl, fun _ h => nomatch h⟩
  | cons l L ih =>
    obtain ⟨os, e1, e2⟩ := ih fun p hp => h1 p (by simp [hp])
    have hm : l.2 ∈ ks.map (·.2) := List.mem_map.mpr ⟨l, h1 l (by simp), rfl⟩
    rw [e] at hm
    obtain ⟨p, hp, ep⟩ := List.mem_map.mp hm
    refine ⟨p :: os, by simp [e1, ep], fun q hq => ?_⟩
    rcases List.mem_cons.mp hq with z | z
    · rw [z]; exact hp
    · exact e2 q z
theorem prs_inj {os : List (Int × Int)} {p : Int × Int} (h : [p.1, p.2] ∈ os.map fun p => [p.1, p.2]) : p ∈ os := by
  obtain ⟨q, hq, e⟩ := List.mem_map.mp h
  simp at e
  have : q = p := Prod.ext e.1 e.2
  rw [← this]; exact hq
/-- sorted(set(a)), a a list of pairs of small ints -/
theorem pe_sset {a : Expr} {ta : TE} {p p2 pos pos2 : Pos} (hc : X.calm = true) (hu : X.A.units + 100 < cLine) (hg : Gl X "sorted") (hm : X.mg "sorted" = none) (hg2 : Gl X "set") (hm2 : X.mg "set" = none) (ha : PE X a ta)
    (na : starEach [a] X.env = (false, eval a X.env) :: starEach [] X.env) : PE X (.Call (.Name "sorted" p) [.Call (.Name "set" p2) [a] [] pos2] [] pos) (fun σ H Q => ta σ H fun x H1 => rSetOfT X.K X.prog X.w [x] H1 fun v H2 => rSortedT X.K X.prog X.w [v] H2 Q) :=
  pe_callB (cr_sortedT hc) hg hm (by decide +kernel) (pa_cons (pe_callTy (cr_setOfT hc (by omega)) hg2 hm2 (by decide +kernel) (pa_cons ha pa_nil na) (he := na) (hpl := rfl)) pa_nil) (he := rfl) (hpl := rfl)
theorem sset_key {Q : VK} : ∀ x H1, rB P X.K .sset [x] H1 Q → rSetOfT X.K X.prog X.w [x] H1 fun v H2 => rSortedT X.K X.prog X.w [v] H2 Q := by
  rintro x H1 ⟨x', d, fd, g, e, hd, nd, w, q⟩
  obtain rfl : x = x' := by simpa using e
  cases hd
  case lst l vs ds f h1 hs =>
    obtain ⟨ps, rfl, ⟨hl, hb⟩, q⟩ := q
    obtain ⟨rfl, ks, rfl, hk, ek⟩ := hs.prs
    have el : ks.length = ps.length := by simpa using congrArg List.length ek
    refine ⟨l, ks, rfl, SqL.of h1, hk, by omega, fun a L na hL1 hL2 => ?_⟩
    have w2 := w.upd (o := SetTO X.prog X.w a L) na
    have kk : ∀ p ∈ ks, SqT X.K (upd H1 a (SetTO X.prog X.w a L)) p.1 (p.2.map V.int) := fun p hp => sqt_stay (hk p hp) (fun b xs z => by rw [upd_ne (ne_of_none z na)]; exact z) fun b o u z => by rw [upd_ne (ne_of_none z na)]; exact z
    refine ⟨a, L, 2, 64, rfl, upd_same, fun p hp => kk p (hL1 p hp), by decide, fun p hp => ?_, fun L' b pm nd' _ pw hb2 => ?_⟩
    · have hm : p.2 ∈ ks.map (·.2) := List.mem_map.mpr ⟨p, hL1 p hp, rfl⟩
      rw [ek] at hm
      obtain ⟨r, hr, er⟩ := List.mem_map.mp hm
      rw [← er]
      exact ⟨rfl, bd_pair (hb r hr)⟩
    · have hL' : ∀ p ∈ L', p ∈ ks := fun p hp => hL1 p (pm.mem_iff.mp hp)
      obtain ⟨os, eo, ho⟩ := prs_of ek hL'
      have hpw : os.Pairwise prLt := by
        have h2 : (L'.map (·.2)).Pairwise fun x y => TS.code 64 x ≤ TS.code 64 y := List.pairwise_map.mpr pw
        rw [eo] at h2 nd'
        have h3 := List.pairwise_map.mp h2
        have h4 := List.pairwise_map.mp nd'
        refine (h3.and h4).imp_of_mem fun {x y} hx hy h => ?_
        have bx := hb x (ho x hx)
        have by' := hb y (ho y hy)
        exact pair_lt h.1 h.2 bx.1 bx.2 by'.1 by'.2
      have mem : ∀ p, p ∈ os ↔ p ∈ ps := fun p => ⟨ho p, fun hp => by
        have : [p.1, p.2] ∈ ks.map (·.2) := by rw [ek]; exact List.mem_map.mpr ⟨p, hp, rfl⟩
        obtain ⟨r, hr, er⟩ := List.mem_map.mp this
        have h5 := hL2 r hr
        rw [er] at h5
        obtain ⟨r2, hr2, er2⟩ := List.mem_map.mp h5
        have h6 : [p.1, p.2] ∈ L'.map (·.2) := List.mem_map.mpr ⟨r2, pm.mem_iff.mpr hr2, er2⟩
        rw [eo] at h6
        exact prs_inj h6⟩
      have q2 := q os hpw mem
      have rr : Rps X.K (upd H1 a (SetTO X.prog X.w a L)) (L'.map fun q => V.ref q.1) (os.map encPr) [] := Rps.of_prs L' (fun p hp => kk p (hL' p hp)) os eo
      have n0 : H1 b = none := by
        by_cases hba : b = a
        · rw [hba]; exact na
        · rwa [upd_ne hba] at hb2
      refine q2 _ _ [b] ((Ext.upd na).trans (Ext.upd hb2)) (w2.upd hb2) (.lst upd_same (rr.ext (Ext.upd hb2) w2 nr_nil)) (fun r e hm => cnt_ne w n0 r e (by simpa using hm)) fun _ => ⟨by simp, fun c hc => ?_⟩
      obtain rfl : c = b := by simpa using hc
      exact n0
  all_goals exact False.elim q
end
end W3
namespace W3
open PySem PySem.Spec PyProof.Rows L2 NdefX LamX
open PySem.W (alike dataLt AllAlike Sortable dataLe AlikeAll minD maxD)
theorem firstMet_nd (val : Nat → Int) : ∀ i, (firstMet val i).Nodup
  | 0 => by rw [firstMet_zero]; exact List.nodup_nil
  | i + 1 => by
    rw [firstMet_succ]
    unfold step_dedup
    split
    · exact firstMet_nd val i
    · rename_i h
      refine List.nodup_append.mpr ⟨firstMet_nd val i, by simp, fun a ha b hb => ?_⟩
      have hb : b = val i := by simpa using hb
      intro e
      refine h (List.any_eq_true.mpr ⟨a, ha, ?_⟩)
      rw [e, hb]
      simp
theorem firstMet_mem (ns : List Int) (k : Int) : k ∈ firstMet (fun i => ns.getD i 0) ns.length ↔ k ∈ ns := by
  have h := firstMet_any (fun i => ns.getD i 0) ns.length k
  have e : (List.range ns.length).map (fun i => ns.getD i 0) = ns := by
    refine List.ext_getElem (by simp) fun i h1 h2 => ?_
    simp [List.getElem_map, List.getElem_range, List.getD_eq_getElem?_getD, List.getElem?_eq_getElem h2]
  rw [e] at h
  constructor
  · intro hm
    have : (firstMet (fun i => ns.getD i 0) ns.length).any (· == k) = true := List.any_eq_true.mpr ⟨k, hm, by simp⟩
    rw [h] at this
    obtain ⟨x, hx, ex⟩ := List.any_eq_true.mp this
    rw [← (beq_iff_eq.mp ex)]; exact hx
  · intro hm
    have : ns.any (· == k) = true := List.any_eq_true.mpr ⟨k, hm, by simp⟩
    rw [← h] at this
    obtain ⟨x, hx, ex⟩ := List.any_eq_true.mp this
    rw [← (beq_iff_eq.mp ex)]; exact hx
def rLset (K : PySem.W.Frag) : V → Hp → VK → Prop := fun x H1 Q => ∃ (l : Addr) (ns : List Int), x = .ref l ∧ SqL K H1 l (ns.map V.int) ∧ ns.length ≤ 1000 ∧ Q (.int ((firstMet (fun i => ns.getD i 0) ns.length).length : Nat)) H1
theorem intsAre_v : ∀ {ns : List Int} {us : List Value}, Vals (ns.map V.int) us → PyProof.Rows.IntsAre us ns
  | [], _, .nil => .nil
  | n :: ns, _, .cons r t => by
    obtain ⟨k, rfl⟩ := r
    exact .cons n k (intsAre_v t)
theorem pe_lset {X : Cx} {a : Expr} {ta : TE} {p p2 q pos : Pos} (hc : X.calm = true) (hg : Gl X "len") (hm : X.mg "len" = none) (hg2 : Gl X "set") (hm2 : X.mg "set" = none) (ha : PE X a ta)
    (na : starEach [a] X.env = (false, eval a X.env) :: starEach [] X.env) : PE X (.Call (.Name "len" p) [.Call (.Name "set" p2) [a] [] q] [] pos) (fun σ H Q => ta σ H fun x H1 => rLset X.K x H1 Q) := by
  refine ⟨fun pins s σ H Q I h => ?_⟩
  refine Call_ (ld_blt I hg hm boot_len ?_)
  refine PyProof.Rows.callWith_builtin1 (PyProof.Rows.args_cons ?_ rfl) rfl rfl
  refine Call_ (ld_blt I hg2 hm2 boot_set ?_)
  refine PyProof.Rows.callWith_type1 (PyProof.Rows.args_cons (thn (ha.run pins s σ H _ I h) fun v s1 ⟨x, H1, I1, r1, q1⟩ => PyProof.Rows.args_nil ?_) na) na rfl
  obtain ⟨l, ns, rfl, hq, hl, q1⟩ := q1
  cases r1
  obtain ⟨its, r, pl, hz⟩ := I1.list hq
  have hlen : its.toArray.size = ns.length := by rw [List.size_toArray, ← r.length, List.length_map]
  refine call_set_list (I1.ok.hd hc) pl.isList (by simpa using intsAre_v r) (by rw [hlen]; unfold scanBound; omega) fun h' tk hS hk => ?_
  refine PyProof.Rows.args_nil ?_
  rw [hlen] at hS
  obtain ⟨o, es, ep, t, ho, hex, hd, _, _, _, hf, hn⟩ := hS
  have I2 : Inv X pins σ H1 { s1 with heap := h', toks := tk } := I1.kept fun b o e => hk b o (Heap.lt_size e) e
  have hle := firstMet_length_le (fun i => ns.getD i 0) ns.length
  exact call_len_set ho hex hd hf (by rw [hn] <;> omega) ⟨.int ((firstMet (fun i => ns.getD i 0) ns.length).length : Nat), H1, I2.tok _, ⟨_, by rw [hn]⟩, q1⟩
theorem lset_key {K : PySem.W.Frag} {P : Pw} {Q : VK} : ∀ x H1, rB P K .lset [x] H1 Q → rLset K x H1 Q := by
  rintro x H1 ⟨x', d, fd, g, e, hd, nd, w, q⟩
  obtain rfl : x = x' := by simpa using e
  cases hd
  case lst l vs ds f h1 hs =>
    obtain ⟨is, rfl, q2⟩ := ints_of (vs := vs) (fp := f) q
    obtain ⟨rfl, rfl⟩ := hs.ints
    refine ⟨l, is, rfl, SqL.of h1, q2.1, ?_⟩
    exact Out.here w (.int _) (q2.2 _ (firstMet_nd _ _) (firstMet_mem is))
  all_goals exact False.elim q
section
variable {K : PySem.W.Frag} {H : Hp}
theorem Rps.take : ∀ (n : Nat) {vs : List V} {ds : List D} {fp : List Addr}, Rps K H vs ds fp → ∃ f, Rps K H (vs.take n) (ds.take n) f ∧ f.Sublist fp
  | 0, _, _, fp, _ => ⟨[], .nil, List.nil_sublist fp⟩
  | _ + 1, _, _, _, .nil => ⟨[], .nil, List.Sublist.refl _⟩
  | n + 1, _, _, _, .cons h hs => by
    obtain ⟨f, h1, h2⟩ := Rps.take n hs
    exact ⟨_, .cons h h1, List.Sublist.append (List.Sublist.refl _) h2⟩
theorem Rps.drop : ∀ (n : Nat) {vs : List V} {ds : List D} {fp : List Addr}, Rps K H vs ds fp → ∃ f, Rps K H (vs.drop n) (ds.drop n) f ∧ f.Sublist fp
  | 0, _, _, fp, h => ⟨fp, h, List.Sublist.refl _⟩
  | _ + 1, _, _, _, .nil => ⟨[], .nil, List.Sublist.refl _⟩
  | n + 1, _, _, _, .cons (f1 := f1) (f2 := f2) h hs => by
    obtain ⟨f, h1, h2⟩ := Rps.drop n hs
    exact ⟨f, h1, h2.trans (List.sublist_append_right f1 f2)⟩
theorem Rps.cut {vs : List V} {ds : List D} {fp : List Addr} (h : Rps K H vs ds fp) (lo hi : Option Int) : ∃ f, Rps K H (cutV vs lo hi) (cutD ds lo hi) f ∧ f.Sublist fp := by
  unfold cutV cutD
  rw [h.length]
  obtain ⟨f1, h1, s1⟩ := h.drop (HT.sIx ds.length 0 lo)
  obtain ⟨f2, h2, s2⟩ := h1.take (HT.sIx ds.length ds.length hi - HT.sIx ds.length 0 lo)
  exact ⟨f2, h2, s2.trans s1⟩
theorem Rps.rev : ∀ {vs : List V} {ds : List D} {fp : List Addr}, Rps K H vs ds fp → ∃ f, Rps K H vs.reverse ds.reverse f ∧ ∀ p ∈ f, p ∈ fp
  | _, _, _, .nil => ⟨[], .nil, fun _ h => h⟩
  | _, _, _, .cons (f1 := f1) h hs => by
    obtain ⟨f, h1, h2⟩ := Rps.rev hs
    refine ⟨f ++ f1, by rw [List.reverse_cons, List.reverse_cons]; exact h1.append (Rps.one h), fun p hp => ?_⟩
    rcases List.mem_append.mp hp with z | z
    · exact List.mem_append_right _ (h2 p z)
    · exact List.mem_append_left _ z
end
def rSl (P : Pw) (K : PySem.W.Frag) : V → Option Int → Option Int → Hp → VK → Prop := fun x lo hi H Q => ∃ d fd g, Rp K H x d fd ∧ nr P fd ∧ WI P g H ∧ slK d lo hi fun z => Out P K H g z (frs1 z = true) Q
theorem slD {X : Cx} {P : Pw} : SlR X (rSl P X.K) := by
  intro pins s σ H x v vl vu lo hi sl Q I rx hs pl pu h
  obtain ⟨d, fd, g, hd, nd, w, q⟩ := h
  cases hd
  case lst a vs ds f h1 hr =>
    obtain ⟨f2, h2, s2⟩ := hr.cut lo hi
    exact sl_list pins s σ H _ v vl vu lo hi sl Q I rx hs pl pu ⟨a, vs, rfl, SqL.of h1, fun p hp => Out.newF w h2 (nr_sub (nr_sub nd (List.sublist_cons_self _ _)) s2) hp q⟩
  case tup a vs ds h1 hr =>
    obtain ⟨f2, h2, s2⟩ := hr.cut lo hi
    have hl := hr.length
    refine sl_tupA pins s σ H _ v vl vu lo hi sl Q I rx hs pl pu ⟨a, vs, rfl, h1, fun hw => ?_, fun hw p hp => Out.newT w h2 (nr_sub nd s2) hp (fun z => by simp [frs1] at z) q⟩
    rw [hl] at hw
    have e : cutD ds lo hi = ds := by
      unfold cutD
      rw [hw.1, hw.2]
      simp
    exact Out.same w (z := .tuple (cutD ds lo hi)) (by rw [e]; exact .tup h1 hr) nd (fun z => by simp [frs1] at z) q
  all_goals exact False.elim q
end W3
namespace W3
open PySem PySem.Spec PyProof.Rows L2 NdefX LamX
open PySem.W (alike dataLt AllAlike Sortable dataLe AlikeAll minD maxD)

/-- the slots stand for the data -/
structure EnvR (P : Pw) (K : PySem.W.Frag) (σ : L2.St) (H : Hp) (Γ : Sl) : Prop where
  len : Γ.length = σ.length
  at_ : ∀ (i : Nat) d, Γ[i]? = some (some d) → ∃ v fp, σ[i]? = some (some v) ∧ Rp K H v d fp ∧ nr P fp
def EnvP (P : Pw) (pl : Option Nat) (σ : L2.St) (H : Hp) : Prop := ∀ i, pl = some i → ∃ p, σ[i]? = some (some (.ref p)) ∧ PoolAt P H p
section
variable {P : Pw} {K : PySem.W.Frag} {H H1 H2 : Hp} {g g1 : Nat} {σ : L2.St} {Γ : Sl} {pl : Option Nat}
theorem EnvR.ext (h : EnvR P K σ H Γ) (e : Ext P H H1) (w : WI P g H) : EnvR P K σ H1 Γ := ⟨h.len, fun i d q => by
  obtain ⟨v, fp, h1, h2, h3⟩ := h.at_ i d q
  exact ⟨v, fp, h1, h2.ext e w h3, h3⟩⟩
theorem EnvP.ext (h : EnvP P pl σ H) (e : Ext P H H1) : EnvP P pl σ H1 := fun i q => by
  obtain ⟨p, h1, h2⟩ := h i q
  exact ⟨p, h1, h2.ext e⟩
theorem EnvR.stp (h : EnvR P K σ H Γ) (e : StP P H H1) : EnvR P K σ H1 Γ := ⟨h.len, fun i d q => by
  obtain ⟨v, fp, h1, h2, h3⟩ := h.at_ i d q
  exact ⟨v, fp, h1, h2.stp e h3, h3⟩⟩
theorem EnvP.stp (h : EnvP P pl σ H) (e : StP P H H1) : EnvP P pl σ H1 := fun i q => by
  obtain ⟨p, h1, h2⟩ := h i q
  exact ⟨p, h1, h2.stp e⟩
theorem EnvR.set {v : V} {d : D} {fp : List Addr} (h : EnvR P K σ H Γ) (i : Nat) (r : Rp K H v d fp) (n : nr P fp) : EnvR P K (σ.set i (some v)) H (Γ.set i (some d)) := by
  refine ⟨by simp [h.len], fun j e q => ?_⟩
  by_cases hj : j = i
  · subst hj
    by_cases hl : j < Γ.length
    · rw [List.getElem?_set_self hl] at q
      cases q
      exact ⟨v, fp, List.getElem?_set_self (by rw [← h.len]; exact hl), r, n⟩
    · rw [List.getElem?_eq_none (by simpa using hl)] at q
      cases q
  · rw [List.getElem?_set_ne (Ne.symm hj)] at q
    obtain ⟨v', fp', h1, h2, h3⟩ := h.at_ j e q
    exact ⟨v', fp', by rw [List.getElem?_set_ne (Ne.symm hj)]; exact h1, h2, h3⟩
theorem EnvR.off (h : EnvR P K σ H Γ) (i : Nat) (o : Option V) : EnvR P K (σ.set i o) H (Γ.set i none) := by
  refine ⟨by simp [h.len], fun j e q => ?_⟩
  by_cases hj : j = i
  · subst hj
    by_cases hl : j < Γ.length
    · rw [List.getElem?_set_self hl] at q
      cases q
    · rw [List.getElem?_eq_none (by simpa using hl)] at q
      cases q
  · rw [List.getElem?_set_ne (Ne.symm hj)] at q
    obtain ⟨v', fp', h1, h2, h3⟩ := h.at_ j e q
    exact ⟨v', fp', by rw [List.getElem?_set_ne (Ne.symm hj)]; exact h1, h2, h3⟩
theorem EnvR.wipe (h : EnvR P K σ H Γ) : ∀ vs : List Nat, EnvR P K (L2.wipe σ vs) H (wipeS Γ vs)
  | [] => h
  | v :: vs => (EnvR.wipe h vs).off v none
theorem EnvP.wipe (h : EnvP P pl σ H) {vs : List Nat} (hn : ∀ i, pl = some i → i ∉ vs) : EnvP P pl (L2.wipe σ vs) H := fun i q => by
  obtain ⟨p, h1, h2⟩ := h i q
  exact ⟨p, by rw [wipe_out (hn i q)]; exact h1, h2⟩
theorem EnvP.set (h : EnvP P pl σ H) {i : Nat} (o : Option V) (hn : pl ≠ some i) : EnvP P pl (σ.set i o) H := fun j q => by
  obtain ⟨p, h1, h2⟩ := h j q
  refine ⟨p, ?_, h2⟩
  rw [List.getElem?_set_ne (fun e => hn (by rw [e]; exact q))]
  exact h1
theorem Out.up {z : D} {fr : Prop} {Q : VK} (e : Ext P H H1) (q : Out P K H g z fr Q) : Out P K H1 g z fr Q := fun v H2 fp e2 w r n f =>
  q v H2 fp (e.trans e2) w r n fun z => ⟨(f z).1, fun p hp => e.free p ((f z).2 p hp)⟩
end
/-- the readings -/
def TEc (P : Pw) (K : PySem.W.Frag) (pl : Option Nat) (Φ : Fam) (c : Ex) : TE := fun σ H Q => ∃ Γ g, EnvR P K σ H Γ ∧ EnvP P pl σ H ∧ WI P g H ∧ wpE Φ c false Γ g fun z g' => Out P K H g' z (frs c z = true) Q
def TTc (P : Pw) (K : PySem.W.Frag) (pl : Option Nat) (Φ : Fam) (c : Ex) : TT := fun σ H Q => ∃ Γ g, EnvR P K σ H Γ ∧ EnvP P pl σ H ∧ WI P g H ∧ wpE Φ c true Γ g fun z g' => boolK z fun b => ∀ H', Ext P H H' → WI P g' H' → Q b H'
def OutL (P : Pw) (K : PySem.W.Frag) (H : Hp) (g : Nat) (ds : List D) (fr : Prop) (Q : List V → Hp → Prop) : Prop :=
  ∀ (vs : List V) (H' : Hp) (fp : List Addr), Ext P H H' → WI P g H' → Rps K H' vs ds fp → nr P fp → (fr → fp.Nodup ∧ ∀ p ∈ fp, H p = none) → Q vs H'
def TLc (P : Pw) (K : PySem.W.Frag) (pl : Option Nat) (Φ : Fam) (es : List Ex) : TA := fun σ H Q => ∃ Γ g, EnvR P K σ H Γ ∧ EnvP P pl σ H ∧ WI P g H ∧ wpL Φ es Γ g fun ds g' => OutL P K H g' ds (frsL es ds = true) Q
section
variable {P : Pw} {K : PySem.W.Frag} {H H1 H2 : Hp} {g g1 : Nat} {σ : L2.St} {Γ : Sl} {pl : Option Nat} {Φ : Fam} (M : Φ.Mono)
include M
theorem stepE {a : Ex} {F : Kc} {R : VK} (he : EnvR P K σ H Γ) (hp : EnvP P pl σ H) (w : WI P g H) (q : wpE Φ a false Γ g F)
    (k : ∀ x g1 v H1 fp, Ext P H H1 → WI P g1 H1 → Rp K H1 v x fp → nr P fp → (frs a x = true → fp.Nodup ∧ ∀ p ∈ fp, H p = none) → EnvR P K σ H1 Γ → EnvP P pl σ H1 → F x g1 → R v H1) : TEc P K pl Φ a σ H R :=
  ⟨Γ, g, he, hp, w, wpE_mono M (fun x g1 f v H1 fp e w1 r n fr => k x g1 v H1 fp e w1 r n fr (he.ext e w) (hp.ext e) f) q⟩
theorem stepT {a : Ex} {F : Kc} {R : Bool → Hp → Prop} (he : EnvR P K σ H Γ) (hp : EnvP P pl σ H) (w : WI P g H) (q : wpE Φ a true Γ g F)
    (k : ∀ x g1, F x g1 → boolK x fun b => ∀ H1, Ext P H H1 → WI P g1 H1 → EnvR P K σ H1 Γ → EnvP P pl σ H1 → R b H1) : TTc P K pl Φ a σ H R :=
  ⟨Γ, g, he, hp, w, wpE_mono M (fun x g1 f => boolK_mono (fun b z H1 e w1 => z H1 e w1 (he.ext e w) (hp.ext e)) (k x g1 f)) q⟩
theorem stepL {es : List Ex} {F : List D → Nat → Prop} {R : List V → Hp → Prop} (he : EnvR P K σ H Γ) (hp : EnvP P pl σ H) (w : WI P g H) (q : wpL Φ es Γ g F)
    (k : ∀ ds g1 vs H1 fp, Ext P H H1 → WI P g1 H1 → Rps K H1 vs ds fp → nr P fp → (frsL es ds = true → fp.Nodup ∧ ∀ p ∈ fp, H p = none) → EnvR P K σ H1 Γ → EnvP P pl σ H1 → F ds g1 → R vs H1) : TLc P K pl Φ es σ H R :=
  ⟨Γ, g, he, hp, w, wpL_mono M (fun x g1 f v H1 fp e w1 r n fr => k x g1 v H1 fp e w1 r n fr (he.ext e w) (hp.ext e) f) q⟩
end
/-- an operator's result is a truth value -/
def isC : O2 → Bool
  | .lt | .le | .gt | .ge | .eq | .ne | .inn | .nin => true
  | _ => false
theorem op2_bool {o : O2} {x y : D} {R : D → Prop} (hc : isC o = true) (q : op2 o x y R) : op2 o x y fun z => ∃ b, z = .bool b ∧ R z := by
  unfold op2 at q ⊢
  split at q <;> first
    | (simp [isC] at hc; done)
    | exact ⟨_, rfl, q⟩
    | exact ⟨q.1, _, rfl, q.2⟩
    | exact ⟨q.1, seqK_mono (fun _ z => ⟨_, rfl, z⟩) q.2⟩
    | exact q.elim
theorem tru_of {K : PySem.W.Frag} {H : Hp} {v : V} {z : D} {fp : List Addr} {R : Bool → Prop} (r : Rp K H v z fp) (q : truK z R) : ∃ k, TruV K v H k ∧ R k := by
  cases r
  case non => exact ⟨false, rfl, q⟩
  case bl b => exact ⟨b, rfl, q⟩
  case int i => exact ⟨i != 0, rfl, q⟩
  case str => exact False.elim q
  case tup a vs ds h hs =>
    refine ⟨!ds.isEmpty, .inr (.inl ⟨vs, h, ?_⟩), q⟩
    have := hs.length
    cases ds <;> cases vs <;> simp at this ⊢
  case lst a vs ds f h hs =>
    refine ⟨!ds.isEmpty, .inl ⟨vs, SqL.of h, ?_⟩, q⟩
    have := hs.length
    cases ds <;> cases vs <;> simp at this ⊢
section
variable {X : Cx} {P : Pw} {pl : Option Nat} {Φ : Fam} (M : Φ.Mono)
include M
/-- an operator between two -/
theorem red_op {o : O2} {a b : Ex} {σ : L2.St} {H : Hp} {Q : VK} (q : TEc P X.K pl Φ (.op o a b) σ H Q) : tOp (rD2 P X.K o) (TEc P X.K pl Φ a) (TEc P X.K pl Φ b) σ H Q := by
  obtain ⟨Γ, g, he, hp, w, q⟩ := q
  refine stepE M he hp w q fun x g1 v H1 f1 e1 w1 r1 n1 _ he1 hp1 q1 => ?_
  refine stepE M he1 hp1 w1 q1 fun y g2 u H2 f2 e2 w2 r2 n2 _ _ _ q2 => ?_
  exact ⟨x, y, f1, f2, g2, r1.ext e2 w1 n1, r2, n1, n2, w2, op2_mono (fun z q => Out.up (e1.trans e2) q) q2⟩
theorem red_opT {o : O2} {a b : Ex} (hc : isC o = true) {σ : L2.St} {H : Hp} {Q : Bool → Hp → Prop} (q : TTc P X.K pl Φ (.op o a b) σ H Q) : tTest (tOp (rD2 P X.K o) (TEc P X.K pl Φ a) (TEc P X.K pl Φ b)) σ H Q := by
  obtain ⟨Γ, g, he, hp, w, q⟩ := q
  refine stepE M he hp w q fun x g1 v H1 f1 e1 w1 r1 n1 _ he1 hp1 q1 => ?_
  refine stepE M he1 hp1 w1 q1 fun y g2 u H2 f2 e2 w2 r2 n2 _ _ _ q2 => ?_
  refine ⟨x, y, f1, f2, g2, r1.ext e2 w1 n1, r2, n1, n2, w2, op2_mono (fun z q => ?_) (op2_bool hc q2)⟩
  obtain ⟨b, rfl, q⟩ := q
  intro v' H' fp e3 w3 r3 _ _
  cases r3
  exact ⟨b, rfl, q H' ((e1.trans e2).trans e3) w3⟩
/-- any plain expression as a test -/
theorem red_true {c : Ex} (hc : ∀ Γ g Q, wpE Φ c true Γ g Q → wpE Φ c false Γ g fun z g' => truK z fun b => Q (.bool b) g') {σ : L2.St} {H : Hp} {Q : Bool → Hp → Prop} (q : TTc P X.K pl Φ c σ H Q) :
    TEc P X.K pl Φ c σ H fun x H' => ∃ k, TruV X.K x H' k ∧ Q k H' := by
  obtain ⟨Γ, g, he, hp, w, q⟩ := q
  refine stepE M he hp w (hc _ _ _ q) fun x g1 v H1 f1 e1 w1 r1 n1 _ he1 hp1 q1 => ?_
  exact tru_of r1 (truK_mono (fun b z => z H1 e1 w1) q1)
end
end W3
namespace W3
open PySem PySem.Spec PyProof.Rows L2 NdefX LamX

/-- what the look knows of the def -/
structure Mc where
  N : List Str
  sc : Scope
  blk : Bool
  fnm : Nat → Str
  gnm : Nat → Str
  fs : List Nat
  fsP : List Nat
  gs : List Nat
  pl : Option Nat
  lam : Bool
def visB (sc : Scope) (x : Str) : Bool := match sc.names.lookup x with
  | some .local => true
  | some .cell => true
  | some .free => true
  | _ => false
def glB (sc : Scope) (x : Str) : Bool := match sc.names.lookup x with
  | some .globalImplicit => true
  | _ => false
/-- may a block, a def store it? -/
def stB (C : Mc) (x : Str) : Bool := match C.sc.names.lookup x with
  | some .local => true
  | some .cell => !C.blk
  | _ => false
def noStar : Expr → Bool
  | .Starred _ _ => false
  | _ => true
def noSlice : Expr → Bool
  | .Slice _ _ _ _ => false
  | _ => true
def noSet : Expr → Bool
  | .Set _ _ _ => false
  | _ => true
def opB : O2 → Option Operator
  | .add => some .Add
  | .sub => some .Sub
  | .mul => some .Mult
  | .fdv => some .FloorDiv
  | .mod => some .Mod
  | .pow => some .Pow
  | .shl => some .LShift
  | .shr => some .RShift
  | .band => some .BitAnd
  | _ => none
def opC : O2 → Option CmpOp
  | .lt => some .Lt
  | .le => some .LtE
  | .gt => some .Gt
  | .ge => some .GtE
  | .eq => some .Eq
  | .ne => some .NotEq
  | .inn => some .In
  | .nin => some .NotIn
  | _ => none
def b1N : B1 → Option Str
  | .len => some "len"
  | .tup => some "tuple"
  | .lst => some "list"
  | .sum => some "sum"
  | .all => some "all"
  | .any => some "any"
  | .mn => some "min"
  | .mx => some "max"
  | .int => some "int"
  | .abs => some "abs"
  | _ => none
def mtC : D → Const → Bool
  | .none, .none => true
  | .bool b, .bool c => b == c
  | .int i, .int j => i == j
  | .str x, .str y => decide (x = y) && PyData.strOk x
  | _, _ => false
def o1C : O1 → Option (CmpOp × Const)
  | .isN => some (.Is, .none)
  | .notN => some (.IsNot, .none)
  | .isT => some (.Is, .bool true)
  | .notT => some (.IsNot, .bool true)
  | .isF => some (.Is, .bool false)
  | .notF => some (.IsNot, .bool false)
  | .neg => none
def sameC : Const → Const → Bool
  | .none, .none => true
  | .bool b, .bool c => b == c
  | _, _ => false
mutual
def mtG (C : Mc) : Tg → Expr → Bool
  | .nm i, .Name x _ => decide (C.N[i]? = some x) && stB C x && decide (C.pl ≠ some i)
  | .tp ts, .Tuple es _ _ => mtGs C ts es
  | _, _ => false
def mtGs (C : Mc) : List Tg → List Expr → Bool
  | [], [] => true
  | t :: ts, e :: es => noStar e && mtG C t e && mtGs C ts es
  | _, _ => false
end
mutual
def tgIn (own : List Nat) : Tg → Bool
  | .nm i => own.contains i
  | .tp ts => tgsIn own ts
def tgsIn (own : List Nat) : List Tg → Bool
  | [] => true
  | t :: ts => tgIn own t && tgsIn own ts
end
def ownOf (N : List Str) (own : List Nat) : List (Str × Nat) := own.map fun i => (N.getD i "", i)
def isName (x : Str) : Expr → Bool
  | .Name y _ => decide (y = x)
  | _ => false
def rngE : Expr → Option (List Expr)
  | .Call (.Name f _) es [] _ => if f = "range" then some es else none
  | _ => none
/-- the codes whose truth is that of their value -/
def plainC : Ex → Bool
  | .and _ _ => false
  | .or _ _ => false
  | .ite _ _ _ => false
  | .key _ _ _ _ _ => false
  | _ => true
def vName : Expr → Option Str
  | .Name x _ => some x
  | _ => none
def vConst : Expr → Option Const
  | .Constant c _ _ => some c
  | _ => none
def vBin : Expr → Option (Operator × Expr × Expr)
  | .BinOp a p b _ => some (p, a, b)
  | _ => none
def vCmp : Expr → Option (CmpOp × Expr × Expr)
  | .Compare a [p] [b] _ => some (p, a, b)
  | _ => none
def vCmp2 : Expr → Option (CmpOp × CmpOp × Expr × Expr × Expr)
  | .Compare a [p, q] [b, c] _ => some (p, q, a, b, c)
  | _ => none
def vUn : Expr → Option (UnaryOp × Expr)
  | .UnaryOp o a _ => some (o, a)
  | _ => none
def vBool : Expr → Option (BoolOp × Expr × Expr)
  | .BoolOp o [a, b] _ => some (o, a, b)
  | .BoolOp o (a :: b :: c :: r) p => some (o, a, .BoolOp o (b :: c :: r) p)
  | _ => none
def vIf : Expr → Option (Expr × Expr × Expr)
  | .IfExp c a b _ => some (c, a, b)
  | _ => none
def vTup : Expr → Option (List Expr)
  | .Tuple es _ _ => some es
  | _ => none
def vLst : Expr → Option (List Expr)
  | .List es _ => some es
  | _ => none
def vSlice : Expr → Option (Expr × Option Expr × Option Expr)
  | .Subscript a (.Slice lo hi none _) _ => some (a, lo, hi)
  | _ => none
def vSub : Expr → Option (Expr × Expr)
  | .Subscript a b _ => some (a, b)
  | _ => none
def vCall : Expr → Option (Str × List Expr)
  | .Call (.Name f _) es [] _ => some (f, es)
  | _ => none
def vComp1 : Expr → Option (Expr × Expr × Expr × List Expr × Scope)
  | .ListComp elt [⟨tg, it, ifs, 0⟩] scope _ => some (elt, tg, it, ifs, scope)
  | _ => none
def vComp2 : Expr → Option (Expr × (Expr × Expr × List Expr) × (Expr × Expr × List Expr) × Scope)
  | .ListComp elt [⟨tg, it, ifs, 0⟩, ⟨tg2, it2, ifs2, 0⟩] scope _ => some (elt, (tg, it, ifs), (tg2, it2, ifs2), scope)
  | _ => none
def isAnd : BoolOp → Bool
  | .And => true
  | _ => false
def isUS : UnaryOp → Bool
  | .USub => true
  | _ => false
def isNotU : UnaryOp → Bool
  | .Not => true
  | _ => false
/-- b(e) or b(c(e)), written as names -/
def vB1 (b : B1) (e : Expr) : Option (Str × Option Str × Expr) := match vCall e with
    | some (f, [a]) => (match b with
        | .sset => if f = "sorted" then (match vCall a with | some (h, [a']) => if h = "set" then some (f, some h, a') else none | _ => none) else none
        | .lset => if f = "len" then (match vCall a with | some (h, [a']) => if h = "set" then some (f, some h, a') else none | _ => none) else none
        | .srt => if f = "sorted" then some (f, none, a) else none
        | _ => if b1N b = some f then some (f, none, a) else none)
    | _ => none
/-- looks by what the parts' looks say -/
abbrev Mt := Mc → Expr → Bool
abbrev Mts := Mc → List Expr → Bool
def mNo : Mt := fun _ _ => false
def mSlot (i : Nat) : Mt := fun C e => match vName e with
  | some x => decide (C.N[i]? = some x) && visB C.sc x && !(x == ("__debug__" : Str)) && !(x == ("__classdict__" : Str))
  | none => false
def mCst (d : D) : Mt := fun _ e => match vConst e with | some c => mtC d c | none => false
def mGlob (k : Nat) : Mt := fun C e => match vName e with
  | some x => decide (x = C.gnm k) && glB C.sc x && C.gs.contains k && !(x == ("__debug__" : Str))
  | none => false
def mOp (o : O2) (a b : Mt) : Mt := fun C e => match vBin e with
  | some (p, a', b') => decide (opB o = some p) && a C a' && b C b'
  | none => (match vCmp e with | some (p, a', b') => decide (opC o = some p) && noSet b' && a C a' && b C b' | none => false)
def mUn (o : O1) (a : Mt) : Mt := fun C e => match vUn e with
  | some (p, a') => isUS p && decide (o = .neg) && a C a'
  | none => (match vCmp e with
    | some (p, a', c) => (match vConst c, o1C o with | some k, some (p', k') => decide (p' = p) && sameC k' k && a C a' | _, _ => false)
    | none => false)
def mAnd (a b : Mt) : Mt := fun C e => match vBool e with | some (o, a', b') => isAnd o && a C a' && b C b' | none => false
def mOr (a b : Mt) : Mt := fun C e => match vBool e with | some (o, a', b') => !(isAnd o) && a C a' && b C b' | none => false
def mNot (pl : Bool) (a : Mt) : Mt := fun C e => match vUn e with | some (p, a') => isNotU p && pl && a C a' | none => false
def mIte (c a b : Mt) : Mt := fun C e => match vIf e with | some (c', a', b') => c C c' && a C a' && b C b' | none => false
def mChn (o1 o2 : O2) (a b c : Mt) : Mt := fun C e => match vCmp2 e with
  | some (p1, p2, a', b', c') => decide (opC o1 = some p1) && decide (opC o2 = some p2) && noSet c' && a C a' && b C b' && c C c'
  | none => false
def mTup (n : Nat) (l : Mts) : Mt := fun C e => match vTup e with | some es' => decide (n ≤ 1000) && l C es' | none => false
def mLst (n : Nat) (l : Mts) : Mt := fun C e => match vLst e with | some es' => decide (n ≤ 1000) && l C es' | none => false
def mIx (a b : Mt) : Mt := fun C e => match vSub e with | some (a', b') => noSlice b' && a C a' && b C b' | none => false
def mSl (a : Mt) (lo hi : Mc → Option Expr → Bool) : Mt := fun C e => match vSlice e with | some (a', lo', hi') => a C a' && lo C lo' && hi C hi' | none => false
def mB1 (f : B1) (a : Mt) : Mt := fun C e => match vB1 f e with
  | some (x, none, a') => glB C.sc x && noStar a' && a C a'
  | some (x, some y, a') => glB C.sc x && glB C.sc y && noStar a' && a C a'
  | none => false
def mM2 (nm : Str) (a b : Mt) : Mt := fun C e => match vCall e with
  | some (f, [a', b']) => decide (f = nm) && glB C.sc nm && noStar a' && noStar b' && a C a' && b C b'
  | _ => false
def mCall (f : Nat) (l : Mts) : Mt := fun C e => match vCall e with
  | some (x, es) => decide (x = C.fnm f) && C.fs.contains f && glB C.sc x && !(x == ("__debug__" : Str)) && !es.isEmpty && l C es
  | none => false
def mCallP (f : Nat) (l : Mts) : Mt := fun C e => match vCall e with
  | some (x, e1 :: es) => decide (x = C.fnm f) && C.fsP.contains f && glB C.sc x && !(x == ("__debug__" : Str)) &&
      (match vName e1, C.pl with | some y, some i => decide (C.N[i]? = some y) && visB C.sc y && !(y == ("__debug__" : Str)) && !(y == ("__classdict__" : Str)) | _, _ => false) && l C es
  | _ => false
/-- tuple(range(..)), list(range(..)) -/
def mRl (tp : Bool) (l : Mts) : Mt := fun C e => match vCall e with
  | some (f, [a]) => (match rngE a with
    | some es' => decide (f = if tp = true then ("tuple" : Str) else "list") && glB C.sc f && glB C.sc "range" && noStar a && decide (es'.length = 1 ∨ es'.length = 2) && l C es'
    | none => false)
  | _ => false
/-- what is walked -/
def mIt (rg : Bool) (one : Mt) (l : Mts) : Mt := fun C it => match rg with
  | true => (match rngE it with | some es' => decide (es'.length = 1 ∨ es'.length = 2) && l C es' && glB C.sc "range" | none => false)
  | false => one C it
def inner (C : Mc) (scope : Scope) : Mc := { C with sc := relS scope C.sc, blk := true }
def mLc (own : List Nat) (tg : Tg) (it : Mt) (t : Mts) (e : Mt) : Mt := fun C x => match vComp1 x with
  | some (elt, tg', it', ifs, scope) =>
    blkC C.N C.sc scope (ownOf C.N own) && own.all (fun i => decide (C.pl ≠ some i)) && tgIn own tg && noSet it' && it C it' &&
    mtG (inner C scope) tg tg' && t (inner C scope) ifs && e (inner C scope) elt
  | none => false
def mLc2 (own own2 : List Nat) (tg tg2 : Tg) (it it2 : Mt) (t t2 : Mts) (e : Mt) : Mt := fun C x => match vComp2 x with
  | some (elt, (tg', it', ifs), (tg2', it2', ifs2), scope) =>
    blkC C.N C.sc scope (ownOf C.N own) && own.all (fun i => decide (C.pl ≠ some i)) && own2.all (fun i => own.contains i) && tgIn own tg && tgIn own2 tg2 && noSet it' && noSet it2' &&
    it C it' && it2 (inner C scope) it2' && mtG (inner C scope) tg tg' && t (inner C scope) ifs && mtG (inner C scope) tg2 tg2' && t2 (inner C scope) ifs2 && e (inner C scope) elt
  | none => false
/-- f(a, key=lambda ..) -/
def vKey : Expr → Option (Str × Expr × Arguments × Expr × Scope)
  | .Call (.Name f _) [a] [⟨some nm, .Lambda params body scope _, _⟩] _ => if nm = "key" then some (f, a, params, body, scope) else none
  | _ => none
/-- one parameter, nothing else -/
def lamX : Arguments → Option Str
  | ⟨[], [⟨x, none, _⟩], none, [], [], none, []⟩ => if x = "lot" ∨ x = "row" ∨ x = "v" ∨ x = "k" then some x else none
  | _ => none
def keyN : Nat → Str
  | 0 => "min"
  | 1 => "max"
  | _ => "sorted"
/-- its parameter x, captured names, globals -/
def lamPB (sc scope : Scope) (x : Str) : Bool :=
  decide (scope.kind = .function) && !scope.isCoroutine && !scope.isGenerator && decide (scope.names.lookup x = some .local) && scope.names.all fun y => !decide (y.2 = .cell) && (!decide (y.2 = .local) || decide (y.1 = x)) && (!decide (y.2 = .free) || decide (sc.names.lookup y.1 = some .cell) || decide (sc.names.lookup y.1 = some .free))
def lamC (C : Mc) (scope : Scope) : Mc := { C with sc := scope, blk := true, fs := [], fsP := [] }
def mKey (k : Nat) (a : Mt) (caps : List Nat) (body : Mt) : Mt := fun C e => match vKey e with
  | some (fn, a', params, body', scope) => decide (k ≤ 1) && decide (fn = keyN k) && C.lam && !C.blk && glB C.sc fn && noStar a' && a C a' && (match caps with
    | [p] => (match lamX params with
      | some x => decide (C.N[p]? = some x) && decide (C.pl ≠ some p) && lamPB C.sc scope x && body (lamC C scope) body'
      | none => false)
    | _ => false)
  | none => false
/-- max(a, default=d) -/
def vMxd : Expr → Option (Expr × Expr)
  | .Call (.Name f _) [a] [⟨some nm, d, _⟩] _ => if f = "max" ∧ nm = "default" then some (a, d) else none
  | _ => none
def mMxd (a d : Mt) : Mt := fun C e => match vMxd e with
  | some (a', d') => glB C.sc "max" && noStar a' && a C a' && d C d'
  | none => false
def mNil : Mts := fun _ es => es.isEmpty
def mCons (a : Mt) (l : Mts) : Mts := fun C es => match es with | [] => false | e :: es => noStar e && a C e && l C es
def mOne (a : Mt) (b : Bool) : Mt := fun C e => b && a C e
def mPart (a : Mt) : Mc → Option Expr → Bool := fun C e => match e with | none => false | some e => a C e
def mNoPart : Mc → Option Expr → Bool := fun _ e => e.isNone
def mTest (a : Mt) : Mts := fun C es => match es with | [e] => a C e | _ => false
mutual
def mt : Ex → Mt
  | .slot i => mSlot i
  | .cst d => mCst d
  | .glob k => mGlob k
  | .op o a b => mOp o (mt a) (mt b)
  | .un o a => mUn o (mt a)
  | .and a b => mAnd (mt a) (mt b)
  | .or a b => mOr (mt a) (mt b)
  | .not a => mNot (plainC a) (mt a)
  | .ite c a b => mIte (mt c) (mt a) (mt b)
  | .chn o1 o2 a b c => mChn o1 o2 (mt a) (mt b) (mt c)
  | .tup es => mTup es.length (mtL es)
  | .lst es => mLst es.length (mtL es)
  | .ix a b => mIx (mt a) (mt b)
  | .sl a lo hi => mSl (mt a) (mtO lo) (mtO hi)
  | .b1 f a => mB1 f (mt a)
  | .mx2 a b => mM2 "max" (mt a) (mt b)
  | .mn2 a b => mM2 "min" (mt a) (mt b)
  | .call f es => mCall f (mtL es)
  | .callP f es => mCallP f (mtL es)
  | .lc own tg rg es t e => mLc own tg (mIt rg (mt1 es) (mtL es)) (mtOT t) (mt e)
  | .lc2 own own2 tg rg es t tg2 rg2 es2 t2 e => mLc2 own own2 tg tg2 (mIt rg (mt1 es) (mtL es)) (mIt rg2 (mt1 es2) (mtL es2)) (mtOT t) (mtOT t2) (mt e)
  | .rev _ => mNo
  | .mxd a d => mMxd (mt a) (mt d)
  | .isi _ _ => mNo
  | .idx _ _ => mNo
  | .cnt _ _ => mNo
  | .rl tp es => mRl tp (mtL es)
  | .key k false es caps body => mKey k (mt1 es) caps (mt body)
  | .key _ true _ _ _ => mNo
def mtL : List Ex → Mts
  | [] => mNil
  | c :: cs => mCons (mt c) (mtL cs)
def mt1 : List Ex → Mt
  | [] => mNo
  | c :: cs => mOne (mt c) cs.isEmpty
def mtO : Option Ex → Mc → Option Expr → Bool
  | none => mNoPart
  | some c => mPart (mt c)
def mtOT : Option Ex → Mts
  | none => mNil
  | some c => mTest (mt c)
end
end W3
namespace W3
open PySem PySem.Spec PyProof.Rows L2 NdefX LamX

/-- the iterator J goes through the data rs -/
inductive SrcAt (P : Pw) (K : PySem.W.Frag) (H : Hp) : It → List D → Prop
  | lst {a : Addr} {vs : List V} {rs : List D} {f : List Addr} : H a = some (.lst vs) → Rps K H vs rs f → nr P (a :: f) → SrcAt P K H (Itl K a) rs
  | tup {a : Addr} {vs : List V} {rs : List D} {f : List Addr} : SqT K H a vs → Rps K H vs rs f → nr P f → SrcAt P K H (Itt K a) rs
  | rng {lo : Int} {rs : List D} : (∀ (i : Nat) d, rs[i]? = some d → d = .int (lo + (i : Nat))) → SrcAt P K H (Itr lo rs.length) rs
section
variable {P : Pw} {K : PySem.W.Frag} {H H1 : Hp} {J : It} {rs : List D} {g : Nat}
theorem SrcAt.stp (h : SrcAt P K H J rs) (e : StP P H H1) : SrcAt P K H1 J rs := by
  cases h with
  | @lst a vs _ f h1 h2 h3 => exact .lst (e.lst _ _ h1 (fun z => h3 a (.inl z) List.mem_cons_self) (fun z => h3 a (.inr z) List.mem_cons_self)) (h2.stp e (nr_sub h3 (List.sublist_cons_self _ _))) h3
  | @tup a vs _ f h1 h2 h3 =>
    have := Rp.stp (Rp.tup h1 h2) e h3
    cases this with
    | tup h4 h5 => exact .tup h4 h5 h3
  | @rng lo _ h1 => exact .rng h1
theorem SrcAt.ext (h : SrcAt P K H J rs) (e : Ext P H H1) (w : WI P g H) : SrcAt P K H1 J rs := h.stp (e.stp w)
theorem SrcAt.stop (h : SrcAt P K H J rs) : J.stop rs.length H := by
  cases h with
  | @lst a vs _ f h1 h2 h3 => exact ⟨vs, SqL.of h1, by rw [h2.length]; exact Nat.le_refl _⟩
  | @tup a vs _ f h1 h2 h3 => exact ⟨vs, h1, by rw [h2.length]; exact Nat.le_refl _⟩
  | @rng lo _ h1 => exact Nat.le_refl _
theorem SrcAt.go (h : SrcAt P K H J rs) {i : Nat} (hi : i < rs.length) : J.go i H := by
  cases h with
  | @lst a vs _ f h1 h2 h3 =>
    obtain ⟨v, f, q, _⟩ := h2.get (List.getElem?_eq_getElem hi)
    exact ⟨vs, v, SqL.of h1, q⟩
  | @tup a vs _ f h1 h2 h3 =>
    obtain ⟨v, f, q, _⟩ := h2.get (List.getElem?_eq_getElem hi)
    exact ⟨vs, v, h1, q⟩
  | @rng lo _ h1 => exact hi
theorem SrcAt.yld (h : SrcAt P K H J rs) {i : Nat} {d : D} (hi : rs[i]? = some d) {x : V} {H2 : Hp} (y : J.yld i H x H2) : H2 = H ∧ ∃ fp, Rp K H x d fp ∧ nr P fp := by
  cases h with
  | @lst a vs _ f h1 h2 h3 =>
    obtain ⟨v, ff, q, r, hs⟩ := h2.get hi
    obtain ⟨e, z⟩ := y
    have := z vs (SqL.of h1)
    rw [q] at this
    cases this
    exact ⟨e, ff, r, nr_sub h3 (hs.trans (List.sublist_cons_self _ _))⟩
  | @tup a vs _ f h1 h2 h3 =>
    obtain ⟨v, ff, q, r, hs⟩ := h2.get hi
    obtain ⟨e, z⟩ := y
    have := z vs h1
    rw [q] at this
    cases this
    exact ⟨e, ff, r, nr_sub h3 hs⟩
  | @rng lo _ h1 =>
    obtain ⟨e, z⟩ := y
    rw [h1 i d hi, z]
    exact ⟨e, [], .int _, nr_nil⟩
end
/-- over a list or a tuple -/
def iSeq (K : PySem.W.Frag) (tl : TE) : TI := fun σ H R => tl σ H fun x H1 => ∃ a, x = .ref a ∧ ((∃ xs, SqL K H1 a xs ∧ (xs.length ≤ sizeLine → R (Itl K a) H1)) ∨ (∃ xs, SqT K H1 a xs ∧ (xs.length ≤ sizeLine → R (Itt K a) H1)))
theorem pi_seq {X : Cx} {tg l : Expr} {tl : TE} (hl : PE X l tl) : PI X tg l (iSeq X.K tl) := by
  refine ⟨fun pins s σ H R I h => ?_⟩
  refine thn (hl.run pins s σ H _ I h) fun v s1 ⟨x, H1, I1, r1, q1⟩ => ?_
  obtain ⟨a, e, q⟩ := q1
  subst e
  cases r1
  rcases q with ⟨xs, hq, q⟩ | ⟨xs, hq, q⟩
  · obtain ⟨its, rv, p, hz⟩ := I1.list hq
    refine wpAny_pyIter_list p.isList ?_
    refine ⟨s1.heap.objs.size, [s1.heap.objs.size], _, _, H1, rfl, I1.kept (t' := s1.toks) fun b o e => Heap.get?_push_of_some _ e, turn_list a _, ⟨_, Heap.get?_push_size _ rfl, rfl, rfl⟩, fun b hb => ?_, q hz⟩
    have e : b = s1.heap.objs.size := by simpa using hb
    subst e
    exact I1.fpOk (Nat.le_refl _) (I1.hok.fresh (Nat.le_refl _))
  · obtain ⟨its, rv, p, hz⟩ := I1.tuple hq
    refine wpAny_pyIter_tuple (show s1.heap.IsTuple a its.toArray from p) ?_
    refine ⟨s1.heap.objs.size, [s1.heap.objs.size], _, _, H1, rfl, I1.kept (t' := s1.toks) fun b o e => Heap.get?_push_of_some _ e, turn_tuple a _, ⟨_, Heap.get?_push_size _ rfl, rfl, rfl⟩, fun b hb => ?_, q hz⟩
    have e : b = s1.heap.objs.size := by simpa using hb
    subst e
    exact I1.fpOk (Nat.le_refl _) (I1.hok.fresh (Nat.le_refl _))
/-- what a walk over the data is: the reading -/
def TIc (P : Pw) (K : PySem.W.Frag) (pl : Option Nat) (Φ : Fam) (r : Bool) (es : List Ex) : TI := fun σ H R => ∃ Γ g, EnvR P K σ H Γ ∧ EnvP P pl σ H ∧ WI P g H ∧
  wpL Φ es Γ g fun ds g' => itK r ds fun rs => ∀ J H1, Ext P H H1 → WI P g' H1 → SrcAt P K H1 J rs → rs.length ≤ sizeLine → R J H1
def TIr (P : Pw) (K : PySem.W.Frag) (pl : Option Nat) (Φ : Fam) (es : List Ex) : TI := fun σ H R => ∃ Γ g, EnvR P K σ H Γ ∧ EnvP P pl σ H ∧ WI P g H ∧
  wpL Φ es Γ g fun ds g' => rngK ds fun rs => ∀ lo H1, Ext P H H1 → WI P g' H1 → (∀ (i : Nat) d, rs[i]? = some d → d = .int (lo + (i : Nat))) → rs.length ≤ sizeLine → R (Itr lo rs.length) H1
theorem rng_at (n : Nat) (f : Nat → Int) (i : Nat) (d : D) (h : ((List.range n).map fun k => PyData.int (f k))[i]? = some d) : d = .int (f i) := by
  rw [List.getElem?_map] at h
  cases e : (List.range n)[i]? with
  | none => rw [e] at h; cases h
  | some k =>
    rw [e] at h
    have : k = i := by
      have := List.getElem?_eq_some_iff.mp e
      obtain ⟨h1, h2⟩ := this
      rw [List.getElem_range] at h2
      exact h2.symm
    cases h
    rw [this]
section
variable {X : Cx} {P : Pw} {pl : Option Nat} {Φ : Fam} (M : Φ.Mono)
include M
theorem pi_false {c : Ex} {tg e : Expr} (he : PE X e (TEc P X.K pl Φ c)) : PI X tg e (TIc P X.K pl Φ false [c]) := by
  refine ⟨fun pins s σ H R I h => (pi_seq he).run pins s σ H R I ?_⟩
  obtain ⟨Γ, g, he, hp, w, q⟩ := h
  refine stepE M he hp w q fun x g1 v H1 f1 e1 w1 r1 n1 _ he1 hp1 q1 => ?_
  have q1 : seqK x fun rs => ∀ J H2, Ext P H H2 → WI P g1 H2 → SrcAt P X.K H2 J rs → rs.length ≤ sizeLine → R J H2 := q1
  obtain ⟨a, vs, ds, f, rfl, hv, hr, q1⟩ := rp_seq r1 q1
  refine ⟨a, rfl, ?_⟩
  have nf := nr_of hv n1
  rcases hv with ⟨_, h, hf⟩ | ⟨_, h, _⟩
  · exact .inl ⟨vs, SqL.of h, fun hz => q1 _ H1 e1 w1 (.lst h hr (by rw [← hf]; exact n1)) (by rw [← hr.length]; exact hz)⟩
  · exact .inr ⟨vs, h, fun hz => q1 _ H1 e1 w1 (.tup h hr nf) (by rw [← hr.length]; exact hz)⟩
theorem wpL_len {es : List Ex} : ∀ {Γ : Sl} {g : Nat} {F : List D → Nat → Prop}, wpL Φ es Γ g F → wpL Φ es Γ g fun ds g' => ds.length = es.length ∧ F ds g' := by
  induction es with
  | nil => exact fun q => ⟨rfl, q⟩
  | cons e es ih => exact fun q => wpE_mono M (e := e) (fun d g q => wpL_mono M (fun ds g q => ⟨by simp [q.1], q.2⟩) (ih q)) q
omit M in
theorem rngK_of {ds : List D} {Q : List D → Prop} (q : rngK ds Q) : (∃ j, ds = [.int j] ∧ lim62 j ∧ Q ((List.range j.toNat).map fun k => .int (k : Nat))) ∨ ∃ i j, ds = [.int i, .int j] ∧ (lim62 i ∧ lim62 j) ∧ Q ((List.range (j - i).toNat).map fun k => .int (i + (k : Nat))) := by
  unfold rngK at q
  split at q
  · exact .inl ⟨_, rfl, q⟩
  · exact .inr ⟨_, _, rfl, q⟩
  · exact q.elim
theorem pi_trueR {es : List Ex} {tg : Expr} {es' : List Expr} {p pos : Pos} (he : PA X es' (TLc P X.K pl Φ es)) (hg : Gl X "range") (hm : X.mg "range" = none)
    (hs : ∀ a r, es' = a :: r → starEach (a :: r) X.env = (false, eval a X.env) :: starEach r X.env) (hs2 : ∀ a b, es' = [a, b] → starEach [b] X.env = (false, eval b X.env) :: starEach [] X.env) (hl : es.length = es'.length) (h12 : es'.length = 1 ∨ es'.length = 2) : PI X tg (.Call (.Name "range" p) es' [] pos) (TIr P X.K pl Φ es) := by
  refine ⟨fun pins s σ H R I h => ?_⟩
  obtain ⟨Γ, g, he0, hp, w, q⟩ := h
  match es', hl, h12 with
  | [a], hl, _ =>
    refine (pi_range1 hg hm he (by rw [hs a [] rfl]; rfl)).run pins s σ H R I ?_
    refine stepL M he0 hp w (wpL_len M q) fun ds g1 vs H1 f1 e1 w1 r1 n1 _ he1 hp1 q1 => ?_
    obtain ⟨hd, q1⟩ := q1
    rw [hl] at hd
    rcases rngK_of q1 with ⟨j, rfl, ⟨h1, h2⟩, q⟩ | ⟨i, j, rfl, _, _⟩
    · obtain ⟨rfl, _⟩ := Rps.ints (is := [j]) r1
      refine ⟨j, rfl, by omega, by omega, ?_⟩
      have := q 0 H1 e1 w1 (fun i d hi => by rw [rng_at j.toNat (fun k => (k : Nat)) i d hi]; simp) (by rw [List.length_map, List.length_range, sizeLine_eq]; omega)
      rwa [List.length_map, List.length_range] at this
    · simp at hd
  | [a, b], hl, _ =>
    refine (pi_range2 hg hm he (by rw [hs a [b] rfl, hs2 a b rfl]; rfl) (by rw [hs2 a b rfl]; rfl)).run pins s σ H R I ?_
    refine stepL M he0 hp w (wpL_len M q) fun ds g1 vs H1 f1 e1 w1 r1 n1 _ he1 hp1 q1 => ?_
    obtain ⟨hd, q1⟩ := q1
    rw [hl] at hd
    rcases rngK_of q1 with ⟨j, rfl, _, _⟩ | ⟨i, j, rfl, ⟨⟨h1, h2⟩, h3, h4⟩, q⟩
    · simp at hd
    · obtain ⟨rfl, _⟩ := Rps.ints (is := [i, j]) r1
      refine ⟨i, j, rfl, ⟨by omega, by omega, by omega, by omega⟩, ?_⟩
      have := q i H1 e1 w1 (fun n d hi => by rw [rng_at (j - i).toNat (fun k => i + (k : Nat)) n d hi]) (by rw [List.length_map, List.length_range, sizeLine_eq]; omega)
      rwa [List.length_map, List.length_range] at this
  | [], _, h => simp at h
  | _ :: _ :: _ :: _, _, h => simp at h
theorem pi_true {es : List Ex} {tg : Expr} {es' : List Expr} {p pos : Pos} (he : PA X es' (TLc P X.K pl Φ es)) (hg : Gl X "range") (hm : X.mg "range" = none)
    (hs : ∀ a r, es' = a :: r → starEach (a :: r) X.env = (false, eval a X.env) :: starEach r X.env) (hs2 : ∀ a b, es' = [a, b] → starEach [b] X.env = (false, eval b X.env) :: starEach [] X.env) (hl : es.length = es'.length) (h12 : es'.length = 1 ∨ es'.length = 2) : PI X tg (.Call (.Name "range" p) es' [] pos) (TIc P X.K pl Φ true es) := by
  refine ⟨fun pins s σ H R I h => (pi_trueR M he hg hm hs hs2 hl h12).run pins s σ H R I ?_⟩
  obtain ⟨Γ, g, he0, hp, w, q⟩ := h
  exact ⟨Γ, g, he0, hp, w, wpL_mono M (fun ds g q => rngK_mono (by
    intro rs q lo H1 e1 w1 hr hl
    exact q _ H1 e1 w1 (.rng hr) hl) q) q⟩
end
end W3
namespace W3
open PySem PySem.Spec PyProof.Rows L2 NdefX LamX

theorem wipe_set_in {σ : L2.St} {i : Nat} {o : Option V} : ∀ {vs : List Nat}, i ∈ vs → L2.wipe (σ.set i o) vs = L2.wipe σ vs
  | [], h => by cases h
  | v :: vs, h => by
    show (L2.wipe (σ.set i o) vs).set v none = (L2.wipe σ vs).set v none
    by_cases hi : i ∈ vs
    · rw [wipe_set_in hi]
    · have hv : i = v := by
        rcases List.mem_cons.mp h with e | e
        · exact e
        · exact absurd e hi
      subst hv
      have : ∀ (vs : List Nat) (σ : L2.St), i ∉ vs → L2.wipe (σ.set i o) vs = (L2.wipe σ vs).set i o := by
        intro vs
        induction vs with
        | nil => intro σ _; rfl
        | cons w ws ih =>
          intro σ hn
          show (L2.wipe (σ.set i o) ws).set w none = ((L2.wipe σ ws).set w none).set i o
          rw [ih σ (fun h => hn (List.mem_cons_of_mem _ h)), List.set_comm]
          exact fun e => hn (by rw [e]; exact List.mem_cons_self)
      rw [this vs σ hi, List.set_set]
/-- a target's reading -/
def TGc (P : Pw) (K : PySem.W.Frag) (pl : Option Nat) (tg : Tg) : TG := fun v σ H Q => ∃ Γ d fp, EnvR P K σ H Γ ∧ EnvP P pl σ H ∧ Rp K H v d fp ∧ nr P fp ∧
  wpTg tg d Γ fun Γ' => ∀ σ', EnvR P K σ' H Γ' → EnvP P pl σ' H → (∀ vs, tgIn vs tg = true → L2.wipe σ' vs = L2.wipe σ vs) → Q σ' H
def TGsc (P : Pw) (K : PySem.W.Frag) (pl : Option Nat) (ts : List Tg) : TGs := fun vs σ H Q => ∃ Γ ds fp, EnvR P K σ H Γ ∧ EnvP P pl σ H ∧ Rps K H vs ds fp ∧ nr P fp ∧
  wpTgs ts ds Γ fun Γ' => ∀ σ', EnvR P K σ' H Γ' → EnvP P pl σ' H → (∀ vs, tgsIn vs ts = true → L2.wipe σ' vs = L2.wipe σ vs) → Q σ' H
theorem contains_mem {l : List Nat} {i : Nat} (h : l.contains i = true) : i ∈ l := by simpa using h
section
variable {P : Pw} {K : PySem.W.Frag} {pl : Option Nat}
theorem red_nm {i : Nat} (hp : pl ≠ some i) {v : V} {σ : L2.St} {H : Hp} {Q : L2.St → Hp → Prop} (q : TGc P K pl (.nm i) v σ H Q) : gName i v σ H Q := by
  obtain ⟨Γ, d, fp, he, hep, r, n, q⟩ := q
  exact q _ (he.set i r n) (hep.set _ hp) fun vs h => wipe_set_in (contains_mem h)
theorem wpTgs_len : ∀ {ts : List Tg} {ds : List D} {Γ : Sl} {Q : Sl → Prop}, wpTgs ts ds Γ Q → ds.length = ts.length
  | [], [], _, _, _ => rfl
  | t :: ts, d :: ds, Γ, Q, q => by
    have : wpTg t d Γ fun Γ' => wpTgs ts ds Γ' Q := q
    have h : ∀ {t : Tg} {d : D} {Γ : Sl} {R : Sl → Prop}, wpTg t d Γ R → ∃ Γ', R Γ' := by
      intro t
      exact (Tg.rec (motive_1 := fun t => ∀ {d : D} {Γ : Sl} {R : Sl → Prop}, wpTg t d Γ R → ∃ Γ', R Γ') (motive_2 := fun ts => ∀ {ds : List D} {Γ : Sl} {R : Sl → Prop}, wpTgs ts ds Γ R → ∃ Γ', R Γ')
        (fun i d Γ R q => ⟨_, q⟩) (fun ts ih d Γ R q => by
          cases d <;> first | exact False.elim q | exact ih q) (fun {ds Γ R} q => by
          cases ds with
          | nil => exact ⟨_, q⟩
          | cons => exact False.elim q) (fun t ts ih1 ih2 ds Γ R q => by
          cases ds with
          | nil => exact False.elim q
          | cons d ds =>
            obtain ⟨Γ', q⟩ := ih1 q
            exact ih2 q) t)
    obtain ⟨Γ', q'⟩ := h this
    simp [wpTgs_len q']
  | [], _ :: _, _, _, q => q.elim
  | _ :: _, [], _, _, q => q.elim
theorem red_tp {ts : List Tg} {n : Nat} (hn : ts.length = n) {v : V} {σ : L2.St} {H : Hp} {Q : L2.St → Hp → Prop} (q : TGc P K pl (.tp ts) v σ H Q) : gTup K n (TGsc P K pl ts) v σ H Q := by
  obtain ⟨Γ, d, fp, he, hep, r, nf, q⟩ := q
  cases r
  case tup a vs ds h hs =>
    have hl := hs.length
    have hl2 := wpTgs_len (show wpTgs ts ds Γ _ from q)
    exact ⟨a, vs, rfl, h, by omega, Γ, ds, fp, he, hep, hs, nf, q⟩
  all_goals exact False.elim q
theorem red_tnil {vs : List V} {σ : L2.St} {H : Hp} {Q : L2.St → Hp → Prop} (q : TGsc P K pl [] vs σ H Q) : gNil vs σ H Q := by
  obtain ⟨Γ, ds, fp, he, hep, r, nf, q⟩ := q
  cases r
  case nil => exact ⟨rfl, q _ he hep fun _ _ => rfl⟩
  case cons => exact False.elim q
theorem red_tcons {t : Tg} {ts : List Tg} {vs : List V} {σ : L2.St} {H : Hp} {Q : L2.St → Hp → Prop} (q : TGsc P K pl (t :: ts) vs σ H Q) : gCons (TGc P K pl t) (TGsc P K pl ts) vs σ H Q := by
  obtain ⟨Γ, ds, fp, he, hep, r, nf, q⟩ := q
  cases r
  case nil => exact False.elim q
  case cons v vs d ds f1 f2 r1 r2 =>
    refine ⟨v, vs, rfl, Γ, d, f1, he, hep, r1, nr_sub nf (List.sublist_append_left f1 f2), wpTg_mono (fun Γ1 q1 σ1 he1 hp1 hw1 => ?_) (show wpTg t d Γ fun Γ' => wpTgs ts ds Γ' _ from q)⟩
    refine ⟨Γ1, ds, f2, he1, hp1, r2, nr_sub nf (List.sublist_append_right f1 f2), wpTgs_mono (fun Γ2 q2 σ2 he2 hp2 hw2 => ?_) q1⟩
    refine q2 σ2 he2 hp2 fun ws hin => ?_
    have hin : (tgIn ws t && tgsIn ws ts) = true := hin
    rw [Bool.and_eq_true] at hin
    rw [hw2 ws hin.2, hw1 ws hin.1]
end
/-- a clause's test -/
def TOc (P : Pw) (K : PySem.W.Frag) (pl : Option Nat) (Φ : Fam) (t : Option Ex) : TT := fun σ H Q => ∃ Γ g, EnvR P K σ H Γ ∧ EnvP P pl σ H ∧ WI P g H ∧ wpOT Φ t Γ g fun b g' => ∀ H', Ext P H H' → WI P g' H' → Q b H'
theorem sqt_ext {P : Pw} {K : PySem.W.Frag} {H H1 : Hp} {g : Nat} {a : Addr} {vs : List V} (h : SqT K H a vs) (e : Ext P H H1) (w : WI P g H) : SqT K H1 a vs := by
  refine sqt_stay h (fun b xs q => e.keep b _ q (fun ps z => by cases z) fun z => ?_) fun b o u q => e.keep b _ q (fun ps z => by cases z) fun z => ?_
  · obtain ⟨n, _, y⟩ := w.cnt b z
    rw [q] at y; cases y
  · obtain ⟨n, _, y⟩ := w.cnt b z
    rw [q] at y; cases y
theorem SrcAt.item {P : Pw} {K : PySem.W.Frag} {H : Hp} {J : It} {rs : List D} {i : Nat} {d : D} (h : SrcAt P K H J rs) (hd : rs[i]? = some d) :
    ∃ v f, Rp K H v d f ∧ nr P f ∧ ∀ H3, StP P H H3 → ∀ x H4, J.yld i H3 x H4 → H4 = H3 ∧ x = v := by
  cases h with
  | @lst a vs _ f h1 h2 h3 =>
    obtain ⟨v, ff, q, r, hs⟩ := h2.get hd
    refine ⟨v, ff, r, nr_sub h3 (hs.trans (List.sublist_cons_self _ _)), fun H3 e x H4 y => ?_⟩
    obtain ⟨e1, z⟩ := y
    have := z vs (SqL.of (e.lst _ _ h1 (fun z => h3 a (.inl z) List.mem_cons_self) (fun z => h3 a (.inr z) List.mem_cons_self)))
    rw [q] at this
    exact ⟨e1, (Option.some.inj this).symm⟩
  | @tup a vs _ f h1 h2 h3 =>
    obtain ⟨v, ff, q, r, hs⟩ := h2.get hd
    refine ⟨v, ff, r, nr_sub h3 hs, fun H3 e x H4 y => ?_⟩
    obtain ⟨e1, z⟩ := y
    have := z vs (sqt_stay h1 e.tup e.frz)
    rw [q] at this
    exact ⟨e1, (Option.some.inj this).symm⟩
  | @rng lo _ h1 =>
    refine ⟨.int (lo + i), [], by rw [h1 i d hd]; exact .int _, nr_nil, fun H3 e x H4 y => y⟩
/-- .. under some barred places -/
def TGx (r : Option Addr) (T : List NTab) (K : PySem.W.Frag) (pl : Option Nat) (tg : Tg) : TG := fun v σ H Q => ∃ bad, TGc ⟨r, T, bad⟩ K pl tg v σ H Q
def TOx (r : Option Addr) (T : List NTab) (K : PySem.W.Frag) (pl : Option Nat) (Φ : Fam) (t : Option Ex) : TT := fun σ H Q => ∃ bad, TOc ⟨r, T, bad⟩ K pl Φ t σ H Q
def TEx (r : Option Addr) (T : List NTab) (K : PySem.W.Frag) (pl : Option Nat) (Φ : Fam) (c : Ex) : TE := fun σ H Q => ∃ bad, TEc ⟨r, T, bad⟩ K pl Φ c σ H Q
section
variable {r : Option Addr} {T : List NTab} {bad bad' : List Addr} {K : PySem.W.Frag} {H H1 : Hp} {g : Nat}
theorem ext_bad (e : Ext ⟨r, T, bad⟩ H H1) : Ext ⟨r, T, bad'⟩ H H1 := ⟨e.keep, e.free⟩
theorem WI.bar (w : WI ⟨r, T, bad⟩ g H) {a : Addr} (h : H a ≠ none) : WI ⟨r, T, a :: bad⟩ g H := ⟨w.cnt, w.tab, fun b hb => by
  rcases List.mem_cons.mp hb with e | e
  · rw [e]; exact h
  · exact w.bad b e⟩
theorem WI.unbar (w : WI ⟨r, T, a :: bad⟩ g H) : WI ⟨r, T, bad⟩ g H := ⟨w.cnt, w.tab, fun b hb => w.bad b (List.mem_cons_of_mem _ hb)⟩
theorem nr_unbar {fp : List Addr} {a : Addr} (n : nr ⟨r, T, a :: bad⟩ fp) : nr ⟨r, T, bad⟩ fp ∧ a ∉ fp := ⟨fun b hb => n b (hb.elim .inl fun z => .inr (List.mem_cons_of_mem _ z)), n a (.inr List.mem_cons_self)⟩
theorem nr_bar {fp : List Addr} {a : Addr} (n : nr ⟨r, T, bad⟩ fp) (h : a ∉ fp) : nr ⟨r, T, a :: bad⟩ fp := fun b hb => by
  rcases hb with hb | hb
  · exact n b (.inl hb)
  · rcases List.mem_cons.mp hb with e | e
    · rw [e]; exact h
    · exact n b (.inr e)
theorem EnvR.bar {σ : L2.St} {Γ : Sl} (he : EnvR ⟨r, T, bad⟩ K σ H Γ) (e : Ext ⟨r, T, bad⟩ H H1) (w : WI ⟨r, T, bad⟩ g H) {a : Addr} (h : H a = none) : EnvR ⟨r, T, a :: bad⟩ K σ H1 Γ := ⟨he.len, fun i d q => by
  obtain ⟨v, fp, h1, h2, h3⟩ := he.at_ i d q
  refine ⟨v, fp, h1, h2.ext e w h3, nr_bar h3 fun hm => ?_⟩
  obtain ⟨xs, z⟩ := h2.there a hm
  rw [h] at z; cases z⟩
theorem poolAt_bad {p : Addr} (h : PoolAt ⟨r, T, bad⟩ H p) : PoolAt ⟨r, T, []⟩ H p := h.few fun _ h => nomatch h
theorem EnvP.bar {pl : Option Nat} {σ : L2.St} (h : EnvP ⟨r, T, bad⟩ pl σ H) {a : Addr} (ha : H a = none) (e : Ext ⟨r, T, bad⟩ H H1) : EnvP ⟨r, T, a :: bad⟩ pl σ H1 := fun i q => by
  obtain ⟨p, h1, h2⟩ := h i q
  exact ⟨p, h1, h2.bar ha e⟩
end
theorem wipe_wipe (σ : L2.St) (vs : List Nat) : L2.wipe (L2.wipe σ vs) vs = L2.wipe σ vs := by
  have h : ∀ (vs ws : List Nat) (σ : L2.St), (∀ i ∈ vs, i ∈ ws) → L2.wipe (L2.wipe σ vs) ws = L2.wipe σ ws := by
    intro vs
    induction vs with
    | nil => intro ws σ _; rfl
    | cons v vs ih =>
      intro ws σ hm
      show L2.wipe ((L2.wipe σ vs).set v none) ws = _
      rw [wipe_set_in (hm v List.mem_cons_self)]
      exact ih ws σ fun i hi => hm i (List.mem_cons_of_mem _ hi)
  exact h vs vs σ fun _ h => h
theorem tabs_upd {T : List NTab} {H : Hp} {D : Addr} {xs ys : List V} (t : TabsN T H) (h : H D = some (.lst xs)) : TabsN T (upd H D (.lst ys)) := by
  intro p hp
  obtain ⟨ps, h1, h2, h3⟩ := t p hp
  refine ⟨ps, ?_, h2, fun pos cv hc => ?_⟩
  · rw [upd_ne]
    · exact h1
    · intro e
      rw [e, h] at h1; cases h1
  · obtain ⟨c, e, h4⟩ := h3 pos cv hc
    refine ⟨c, e, ?_⟩
    rw [upd_ne]
    · exact h4
    · intro e2
      rw [e2, h] at h4; cases h4
section
variable {r : Option Addr} {T : List NTab} {bad : List Addr} {X : Cx} {pl : Option Nat} {Φ : Fam} (M : Φ.Mono)
include M
theorem red_lc {own : List Nat} {tg : Tg} {rg : Bool} {es : List Ex} {t : Option Ex} {e : Ex} (hin : tgIn own tg = true) (hpl : ∀ i, pl = some i → i ∉ own) {σ : L2.St} {H : Hp} {Q : VK} (q : TEc ⟨r, T, bad⟩ X.K pl Φ (.lc own tg rg es t e) σ H Q) :
    tLc (TIc ⟨r, T, bad⟩ X.K pl Φ rg es) (TGx r T X.K pl tg) (TOx r T X.K pl Φ t) (TEx r T X.K pl Φ e) own σ H Q := by
  obtain ⟨Γ, g, he, hp, w, q⟩ := q
  refine ⟨Γ, g, he, hp, w, wpL_mono M (fun ds g1 q => itK_mono (fun rs q J H1 e1 w1 src srcLen D hD => ?_) q) q⟩
  have he1 := he.ext e1 w
  have hp1 := hp.ext e1
  have hrD : r ≠ some D := fun z => by
    obtain ⟨n, _, y⟩ := w1.cnt D z
    rw [hD] at y; cases y
  refine ⟨fun i m H' => m = rs.length - i ∧ i ≤ rs.length ∧ ∃ acc vs fp g', H' D = some (.lst vs) ∧ Rps X.K H' vs acc fp ∧ nr ⟨r, T, bad⟩ fp ∧ D ∉ fp ∧ Ext ⟨r, T, bad⟩ H1 H' ∧ WI ⟨r, T, bad⟩ g' H' ∧ vs.length ≤ i ∧
      ((acc.all fun d => flat d || frs e d) = true → fp.Nodup ∧ ∀ p ∈ fp, H1 p = none) ∧ lcW _ (rs.drop i) acc g' _,
    ⟨rs.length, by simp, Nat.zero_le _, [], [], [], g1, upd_same, .nil, nr_nil, (fun h => nomatch h), Ext.upd hD, w1.upd hD, Nat.le_refl _, fun _ => ⟨List.nodup_nil, fun _ h => nomatch h⟩, q⟩, ?_⟩
  rintro i m H' ⟨rfl, hi, acc, vs, fp, g', hD', hr, n, hnD, e2, w2, hlv, hfr, q⟩
  by_cases hlt : i < rs.length
  case neg =>
    have ei : i = rs.length := by omega
    subst ei
    refine .inl ⟨(src.ext e2 w1).stop, ?_⟩
    rw [List.drop_of_length_le (Nat.le_refl _)] at q
    have q : Out ⟨r, T, bad⟩ X.K H g' (.list acc) (frs (.lc own tg rg es t e) (.list acc) = true) Q := q
    refine q _ _ (D :: fp) (e1.trans e2) w2 (.lst hD' hr) (fun a ha hm => ?_) fun z => ?_
    · rcases List.mem_cons.mp hm with y | y
      · exact cnt_ne w1 hD a ha y
      · exact n a ha y
    · have z : (acc.all fun d => flat d || frs e d) = true := z
      obtain ⟨f1, f2⟩ := hfr z
      refine ⟨List.nodup_cons.mpr ⟨hnD, f1⟩, fun p hp => ?_⟩
      rcases List.mem_cons.mp hp with y | y
      · rw [y]; exact e1.free D hD
      · exact e1.free p (f2 p y)
  case pos =>
    have hd : rs.drop i = rs[i] :: rs.drop (i + 1) := List.drop_eq_getElem_cons hlt
    rw [hd] at q
    have src2 := src.ext e2 w1
    refine .inr ⟨src2.go hlt, fun H'' => i + 1 ≤ rs.length ∧ ∃ acc vs fp g', H'' D = some (.lst vs) ∧ Rps X.K H'' vs acc fp ∧ nr ⟨r, T, bad⟩ fp ∧ D ∉ fp ∧ Ext ⟨r, T, bad⟩ H1 H'' ∧ WI ⟨r, T, bad⟩ g' H'' ∧ vs.length ≤ i + 1 ∧
      ((acc.all fun d => flat d || frs e d) = true → fp.Nodup ∧ ∀ p ∈ fp, H1 p = none) ∧ lcW _ (rs.drop (i + 1)) acc g' _, fun H'' z => ⟨rs.length - (i + 1), by omega, rfl, z⟩, fun x H3 y => ?_⟩
    obtain ⟨v0, fx, rx0, nx, hit⟩ := src.item (List.getElem?_eq_getElem hlt)
    obtain ⟨rfl, rfl⟩ := hit H' (e2.stp w1) x H3 y
    have tD : H3 D ≠ none := by rw [hD']; exact fun z => by cases z
    have he3 : EnvR ⟨r, T, D :: bad⟩ X.K σ H3 Γ := he1.bar e2 w1 hD
    have hp3 : EnvP ⟨r, T, D :: bad⟩ pl σ H3 := hp1.bar hD e2
    have w3 : WI ⟨r, T, D :: bad⟩ g' H3 := w2.bar tD
    have nDx : D ∉ fx := fun hm => by
      obtain ⟨xs, z⟩ := rx0.there D hm
      rw [hD] at z; cases z
    have rx := rx0.ext e2 w1 nx
    refine ⟨D :: bad, wipeS Γ own, rs[i], fx, he3.wipe own, hp3.wipe hpl, rx, nr_bar nx nDx, wpTg_mono (fun Γ' q1 σ2 he4 hp4 hw4 => ?_) (show wpTg tg rs[i] (wipeS Γ own) _ from q)⟩
    have hww : L2.wipe σ2 own = L2.wipe σ own := (hw4 own hin).trans (wipe_wipe σ own)
    refine ⟨hww, D :: bad, Γ', g', he4, hp4, w3, wpOT_mono M (fun b g2 q2 H4 e4 w4 => ?_) q1⟩
    have he5 := he4.ext e4 w3
    have hp5 := hp4.ext e4
    have e14 : Ext ⟨r, T, bad⟩ H1 H4 := e2.trans (ext_bad e4)
    have hD4 : H4 D = some (.lst vs) := e4.keep D _ hD' (fun ps z => by cases z) hrD
    have hr4 := hr.ext (ext_bad (bad' := bad) e4) w2 n
    cases b with
    | true =>
      rw [if_pos rfl] at q2
      refine iteT ?_
      refine ⟨D :: bad, Γ', g2, he5, hp5, w4, wpE_mono M (fun z g3 q3 y H5 fz e5 w5 rz nz fz' => ?_) q2⟩
      have hD5 : H5 D = some (.lst vs) := e5.keep D _ hD4 (fun ps z => by cases z) hrD
      obtain ⟨nz1, nzD⟩ := nr_unbar nz
      have hr5 := hr4.ext (ext_bad (bad' := bad) e5) w4.unbar n
      refine ⟨vs, hD5, ?_, by omega, acc ++ [z], vs ++ [y], fp ++ fz, g3, upd_same, ?_, nr_app n nz1, ?_, ?_, ?_, by simp; omega, ?_, q3⟩
      · have hsz : rs.length ≤ sizeLine := srcLen
        omega
      · have st : ∀ {b o}, H5 b = some o → (∀ xs, o ≠ .lst xs) → upd H5 D (.lst (vs ++ [y])) b = some o := fun {b o} hbo hne => by
          rw [upd_ne]
          · exact hbo
          · intro hbD
            rw [hbD, hD5] at hbo
            exact hne vs (Option.some.inj hbo).symm
        refine Rps.append (hr5.stay (fun b xs h => st h (fun _ z => by cases z)) (fun b o u h => st h (fun _ z => by cases z)) fun p hp => ?_) (Rps.one (rz.stay (fun b xs h => st h (fun _ z => by cases z)) (fun b o u h => st h (fun _ z => by cases z)) fun p hp => ?_))
        · rw [upd_ne]; exact fun e => hnD (e ▸ hp)
        · rw [upd_ne]; exact fun e => nzD (e ▸ hp)
      · intro hm
        rcases List.mem_append.mp hm with z | z
        · exact hnD z
        · exact nzD z
      · have e15 := e14.trans (ext_bad (bad' := bad) e5)
        refine ⟨fun b o hbo hnt hnr => ?_, fun b hb => ?_⟩
        · rw [upd_ne (ne_of_none hbo hD)]
          exact e15.keep b o hbo hnt hnr
        · by_cases hbD : b = D
          · rw [hbD]; exact hD
          · rw [upd_ne hbD] at hb
            exact e15.free b hb
      · have w5' := w5.unbar
        refine ⟨fun a ha => ?_, ?_, fun a ha => ?_⟩
        · obtain ⟨n, h1, h2⟩ := w5'.cnt a ha
          refine ⟨n, h1, ?_⟩
          rw [upd_ne]
          · exact h2
          · exact fun e => hrD (by rw [← e]; exact ha)
        · exact tabs_upd w5'.tab hD5
        · by_cases haD : a = D
          · rw [haD, upd_same]; exact fun z => by cases z
          · rw [upd_ne haD]; exact w5'.bad a ha
      · intro hall
        rw [List.all_append, Bool.and_eq_true] at hall
        obtain ⟨h1, h2⟩ := hall
        obtain ⟨f1, f2⟩ := hfr h1
        have h2 : (flat z || frs e z) = true := by simpa using h2
        have hz : fz.Nodup ∧ ∀ p ∈ fz, H4 p = none := by
          rw [Bool.or_eq_true] at h2
          rcases h2 with h2 | h2
          · rw [rz.flat h2]; exact ⟨List.nodup_nil, fun _ h => nomatch h⟩
          · exact fz' h2
        refine ⟨List.nodup_append.mpr ⟨f1, hz.1, fun a ha b hb e => ?_⟩, fun p hp => ?_⟩
        · obtain ⟨xs, t⟩ := hr4.there a ha
          rw [e, hz.2 b hb] at t; cases t
        · rcases List.mem_append.mp hp with y | y
          · exact f2 p y
          · exact e14.free p (hz.2 p y)
    | false =>
      rw [if_neg Bool.false_ne_true] at q2
      refine iteF ?_
      refine ⟨by omega, acc, vs, fp, g2, hD4, hr4, n, hnD, e14, w4.unbar, by omega, hfr, q2⟩
end
end W3
namespace W3
open PySem PySem.Spec PyProof.Rows L2 NdefX LamX
open PySem.W (alike dataLt AllAlike Sortable dataLe AlikeAll minD maxD)

/-- a def without the pool keeps its promise -/
def spN (T : List NTab) (K : PySem.W.Frag) (F : List D → (D → Prop) → Prop) : Sp := fun vs H Q _ => ∃ ds fp, Rps K H vs ds fp ∧ TabsN T H ∧
  F ds fun z => ∀ (v : V) (H' : Hp) (fp' : List Addr), Ext ⟨none, T, []⟩ H H' → TabsN T H' → Rp K H' v z fp' → (fp'.Nodup ∧ ∀ p ∈ fp', H p = none) → Q v H'
/-- a def with the pool as its first argument -/
def spPl (T : List NTab) (K : PySem.W.Frag) (F : List D → Nat → Kc → Prop) : Sp := fun vs H Q _ => ∃ (r p : Addr) (vs' : List V) (ds : List D) (fp : List Addr) (g : Nat), vs = .ref p :: vs' ∧ PoolAt ⟨some r, T, []⟩ H p ∧ Rps K H vs' ds fp ∧ r ∉ fp ∧ WI ⟨some r, T, []⟩ g H ∧
  F ds g fun z g' => ∀ (v : V) (H' : Hp) (fp' : List Addr), Ext ⟨some r, T, []⟩ H H' → WI ⟨some r, T, []⟩ g' H' → Rp K H' v z fp' → (fp'.Nodup ∧ ∀ p ∈ fp', H p = none) → Q v H'
structure FnG (X : Cx) (x : Str) (sp : Sp) : Prop where
  ex : ∃ (k : Nat) (f : Addr) (fd : FuncData) (ps : List Str), Room k X.A ∧ FnOk X.prog X.w X.K X.mg X.base L2.CX0 k f fd ps sp ∧ X.mg x = some (.ref f) ∧ PySem.W.keepIn X.K (.ref f) = true ∧ Binds X.K fd ps []
def bNames : List Str := ["len", "tuple", "list", "sum", "all", "any", "min", "max", "sorted", "int", "abs", "set", "range", "isinstance"]
/-- what the making of lambdas asks -/
structure LamG (T : List NTab) (X : Cx) : Prop where
  ex : ∃ (LT : List (Addr × Str)) (c P : Addr), T = LT.map (fun p => (p.1, fun _ _ => p.2)) ∧ TabB X.base X.mg c P ∧ X.env.code = .ref c ∧ (P, X.env.qual ++ "<lambda>") ∈ LT ∧ ∀ p ∈ LT, p.1 = P → p.2 = X.env.qual ++ "<lambda>"
  room : Room 2 X.A
structure Good (Φ : Fam) (T : List NTab) (C : Mc) (X : Cx) : Prop where
  calm : X.calm = true
  N : X.N = C.N
  nd : C.N.Nodup
  sc : X.env.scope = C.sc
  blk : C.blk = false → ∀ x, X.fn x = true
  hu : X.A.units + 100 < cLine
  bi : ∀ b ∈ bNames, X.mg b = none
  fs : ∀ f ∈ C.fs, FnG X (C.fnm f) (spN T X.K (Φ.sp f))
  fsP : ∀ f ∈ C.fsP, FnG X (C.fnm f) (spPl T X.K (Φ.spP f))
  gs : ∀ k ∈ C.gs, ∃ u v, X.mg (C.gnm k) = some u ∧ RelV v u ∧ ∀ H, Rp X.K H v (gd k) []
  lam : C.lam = true → C.blk = false → LamG T X
section
variable {Φ : Fam} {T : List NTab} {C : Mc} {X : Cx}
theorem Good.blkG (G : Good Φ T C X) (s : Shared) (H : Hp) (scope : Scope) (cl : List (Str × Addr)) (L : Addr) (fp : List Addr) : Good Φ T { C with sc := relS scope C.sc, blk := true } (X.blk s H scope (compEnvC scope cl L X.env) fp) where
  calm := G.calm
  N := G.N
  nd := G.nd
  sc := by rw [← G.sc]; rfl
  blk := fun h => by cases h
  hu := G.hu
  bi := G.bi
  fs := fun f hf => ⟨(G.fs f hf).ex⟩
  fsP := fun f hf => ⟨(G.fsP f hf).ex⟩
  gs := G.gs
  lam := fun _ h => by cases h
theorem vis_of {sc : Scope} {x : Str} (h : visB sc x = true) : Vis sc x := by
  unfold visB at h
  split at h
  · exact .inl (by assumption)
  · exact .inr (.inl (by assumption))
  · exact .inr (.inr (by assumption))
  · cases h
theorem Good.gl (G : Good Φ T C X) {x : Str} (h : glB C.sc x = true) : Gl X x := by
  unfold glB at h
  show X.env.scope.names.lookup x = some .globalImplicit
  rw [G.sc]
  split at h
  · assumption
  · cases h
theorem not_of {b : Bool} (h : (!b) = true) : b = false := by cases b <;> simp at h ⊢
theorem star_cons {e : Expr} {es : List Expr} {env : Env} (h : noStar e = true) : starEach (e :: es) env = (false, eval e env) :: starEach es env := by
  cases e <;> first | rfl | (simp [noStar] at h)
theorem nostar_all {env : Env} : ∀ {es : List Expr}, (es.all noStar) = true → (starEach es env).any (·.1) = false
  | [], _ => rfl
  | e :: es, h => by
    rw [List.all_cons, Bool.and_eq_true] at h
    rw [star_cons h.1, List.any_cons, nostar_all h.2]
    rfl
theorem backTo_any {pos : Pos} {l : List (Bool × Sem Value)} (h : l.any (·.1) = false) : (backTo pos l).any (·.1) = false := by
  first
    | (unfold backTo; split <;> simp_all)
    | (cases l <;> simp_all [backTo])
theorem mtL_star {C : Mc} : ∀ {cs : List Ex} {es : List Expr}, mtL cs C es = true → (es.all noStar) = true
  | [], [], _ => rfl
  | c :: cs, e :: es, h => by
    have h : (noStar e && mt c C e && mtL cs C es) = true := h
    simp only [Bool.and_eq_true] at h
    rw [List.all_cons, h.1.1, mtL_star h.2]
    rfl
  | [], _ :: _, h => by cases h
  | _ :: _, [], h => by cases h
theorem mtL_len {C : Mc} : ∀ {cs : List Ex} {es : List Expr}, mtL cs C es = true → cs.length = es.length
  | [], [], _ => rfl
  | c :: cs, e :: es, h => by
    have h : (noStar e && mt c C e && mtL cs C es) = true := h
    simp only [Bool.and_eq_true] at h
    simp [mtL_len h.2]
  | [], _ :: _, h => by cases h
  | _ :: _, [], h => by cases h
end
end W3
namespace W3
open PySem PySem.Spec PyProof.Rows L2 NdefX LamX
open PySem.W (alike dataLt AllAlike Sortable dataLe AlikeAll minD maxD)

def isBO : Expr → Bool
  | .BoolOp _ _ _ => true
  | _ => false
def plainE : Expr → Bool
  | .UnaryOp .Not _ _ => false
  | .BoolOp _ _ _ => false
  | .IfExp _ _ _ _ => false
  | .Compare _ _ _ _ => false
  | _ => true
/-- the text e does what the code c says -/
structure Snd (r : Option Addr) (T : List NTab) (pl : Option Nat) (Φ : Fam) (X : Cx) (c : Ex) (e : Expr) : Prop where
  pe : ∀ bad, PE X e (TEc ⟨r, T, bad⟩ X.K pl Φ c)
  pt : ∀ bad, PT X e (TTc ⟨r, T, bad⟩ X.K pl Φ c)
  pw : isBO e = true → ∀ bad, PW X e (TTc ⟨r, T, bad⟩ X.K pl Φ c)
section
variable {r : Option Addr} {T : List NTab} {Φ : Fam} {C : Mc} {X : Cx} (M : Φ.Mono)
theorem isTrue_plainE {e : Expr} (h : plainE e = true) (env : Env) (whole : Sem Value) : isTrue e env whole = (do let v ← whole; standAt e.pos; holding [v] (truthy v)) := by
  cases e <;> first
    | rfl
    | (simp [plainE] at h; done)
    | (rename_i op x pos; cases op <;> first | rfl | (simp [plainE] at h; done))
theorem bo_plain {e : Expr} (h : plainE e = true) : isBO e = false := by
  cases e <;> first | rfl | (simp [plainE] at h; done)
include M in
theorem mk_plain {c : Ex} {e : Expr} (h : ∀ bad, PE X e (TEc ⟨r, T, bad⟩ X.K C.pl Φ c)) (hp : plainE e = true) (hc : ∀ Γ g Q, wpE Φ c true Γ g Q → wpE Φ c false Γ g fun z g' => truK z fun b => Q (.bool b) g') : Snd r T C.pl Φ X c e :=
  ⟨h, fun bad => PT.weak (pt_truth (h bad) fun whole => isTrue_plainE hp _ _) fun σ H Q q => red_true M hc q, fun hb => by rw [bo_plain hp] at hb; cases hb⟩
include M in
theorem s_slot (G : Good Φ T C X) {i : Nat} {x : Str} {pos : Pos} (h : (decide (C.N[i]? = some x) && visB C.sc x && !(x == ("__debug__" : Str)) && !(x == ("__classdict__" : Str))) = true) : Snd r T C.pl Φ X (.slot i) (.Name x pos) := by
  simp only [Bool.and_eq_true, decide_eq_true_eq] at h
  obtain ⟨⟨⟨h1, h2⟩, h3⟩, h4⟩ := h
  refine mk_plain M (fun bad => PE.weak (pe_var (i := i) (by rw [G.N]; exact h1) (by rw [G.sc]; exact vis_of h2) (not_of h3) (not_of h4)) fun σ H Q q => ?_) rfl fun _ _ _ q => q
  obtain ⟨Γ, g, he, hp, w, q⟩ := q
  obtain ⟨d, hd, q⟩ := getS_at (show getS Γ i fun d => Out _ X.K H g d _ Q from q)
  obtain ⟨v, fp, h5, h6, h7⟩ := he.at_ i d hd
  exact ⟨v, h5, Out.same w h6 h7 (fun z => by simp [frs] at z) q⟩
theorem mtC_rel {d : D} {c : Const} (h : mtC d c = true) : ∃ v, (∀ (K : PySem.W.Frag) (H : Hp), Rp K H v d []) ∧ ∀ (X : Cx) (j : Nat) (pos : Pos), PE X (.Constant c j pos) (tC v) := by
  unfold mtC at h
  split at h
  · exact ⟨.non, fun _ _ => .non, fun _ _ _ => pe_non⟩
  · have := beq_iff_eq.mp h; subst this
    exact ⟨.bl _, fun _ _ => .bl _, fun _ _ _ => pe_bl⟩
  · have := beq_iff_eq.mp h; subst this
    exact ⟨.int _, fun _ _ => .int _, fun _ _ _ => pe_int⟩
  · simp only [Bool.and_eq_true, decide_eq_true_eq] at h
    obtain ⟨rfl, h2⟩ := h
    exact ⟨.str _, fun _ _ => .str _ h2, fun _ _ _ => pe_str⟩
  · cases h
include M in
theorem s_cst {d : D} {c : Const} {j : Nat} {pos : Pos} (h : mtC d c = true) : Snd r T C.pl Φ X (.cst d) (.Constant c j pos) := by
  obtain ⟨v, hv, hp⟩ := mtC_rel h
  refine mk_plain M (fun bad => PE.weak (hp X j pos) fun σ H Q q => ?_) rfl fun _ _ _ q => q
  obtain ⟨Γ, g, he, hp, w, q⟩ := q
  exact Out.here w (hv X.K H) (show Out _ X.K H g d _ Q from q)
include M in
theorem s_glob (G : Good Φ T C X) {k : Nat} {x : Str} {pos : Pos} (h : (decide (x = C.gnm k) && glB C.sc x && C.gs.contains k && !(x == ("__debug__" : Str))) = true) : Snd r T C.pl Φ X (.glob k) (.Name x pos) := by
  simp only [Bool.and_eq_true, decide_eq_true_eq] at h
  obtain ⟨⟨⟨rfl, h2⟩, h3⟩, h4⟩ := h
  obtain ⟨u, v, hm, hr, hg⟩ := G.gs k (by simpa using h3)
  refine mk_plain M (fun bad => PE.weak (pe_glob (G.gl h2) hm hr (not_of h4)) fun σ H Q q => ?_) rfl fun _ _ _ q => q
  obtain ⟨Γ, g, he, hp, w, q⟩ := q
  exact Out.here w (hg H) (show Out _ X.K H g (gd k) _ Q from q)
theorem opR_B (hu : X.A.units + 100 < cLine) {P : Pw} {o : O2} {op : Operator} (h : opB o = some op) : OpR X (binaryOp op) (rD2 P X.K o) := by
  cases o <;> simp [opB] at h <;> subst h
  · exact opD_add
  · exact opD_sub
  · exact opD_mul
  · exact opD_fdv
  · exact opD_mod
  · exact opD_pow
  · exact opD_shl
  · exact opD_shr
  · exact opD_band
theorem opR_C (hu : X.A.units + 100 < cLine) {P : Pw} {o : O2} {op : CmpOp} (h : opC o = some op) : isC o = true ∧ OpR X (compareOp op) (rD2 P X.K o) := by
  cases o <;> simp [opC] at h <;> subst h
  · exact ⟨rfl, opD_lt hu⟩
  · exact ⟨rfl, opD_le⟩
  · exact ⟨rfl, opD_gt⟩
  · exact ⟨rfl, opD_ge⟩
  · exact ⟨rfl, opD_eq hu⟩
  · exact ⟨rfl, opD_ne hu⟩
  · exact ⟨rfl, opD_in hu⟩
  · exact ⟨rfl, opD_nin hu⟩
theorem marks {op : CmpOp} {b : Expr} (h : noSet b = true) : behindInMarks op b = false := by
  cases b <;> first | rfl | (simp [noSet] at h; done)
include M in
theorem s_bin (G : Good Φ T C X) {o : O2} {op : Operator} {a b : Ex} {a' b' : Expr} {pos : Pos} (h : opB o = some op) (ha : Snd r T C.pl Φ X a a') (hb : Snd r T C.pl Φ X b b') : Snd r T C.pl Φ X (.op o a b) (.BinOp a' op b' pos) := by
  refine mk_plain M (fun bad => ?_) rfl fun _ _ _ q => q
  exact PE.weak (pe_op (opR_B (P := ⟨r, T, bad⟩) G.hu h) (ha.pe bad) (hb.pe bad)) fun σ H Q q => red_op M q
include M in
theorem s_cmp (G : Good Φ T C X) {o : O2} {op : CmpOp} {a b : Ex} {a' b' : Expr} {pos : Pos} (h : opC o = some op) (hs : noSet b' = true) (ha : Snd r T C.pl Φ X a a') (hb : Snd r T C.pl Φ X b b') : Snd r T C.pl Φ X (.op o a b) (.Compare a' [op] [b'] pos) := by
  refine ⟨fun bad => ?_, fun bad => ?_, fun h => by cases h⟩
  · exact PE.weak (pe_cmpR (opR_C (P := ⟨r, T, bad⟩) G.hu h).2 (ha.pe bad) (hb.pe bad) (marks hs)) fun σ H Q q => red_op M q
  · exact PT.weak (pt_cmpR (opR_C (P := ⟨r, T, bad⟩) G.hu h).2 (ha.pe bad) (hb.pe bad) (marks hs)) fun σ H Q q => red_opT M (opR_C (X := X) (P := ⟨r, T, bad⟩) G.hu h).1 q
include M in
theorem s_neg {a : Ex} {a' : Expr} {pos : Pos} (ha : Snd r T C.pl Φ X a a') : Snd r T C.pl Φ X (.un .neg a) (.UnaryOp .USub a' pos) := by
  refine mk_plain M (fun bad => PE.weak (pe_un (unD_neg (P := ⟨r, T, bad⟩)) (ha.pe bad)) fun σ H Q q => ?_) rfl fun _ _ _ q => q
  obtain ⟨Γ, g, he, hp, w, q⟩ := q
  exact stepE M he hp w q fun x g1 v H1 f1 e1 w1 r1 n1 _ he1 hp1 q1 => ⟨x, f1, g1, r1, n1, w1, op1_mono (fun z q => Out.up e1 q) q1⟩
include M in
theorem s_un (G : Good Φ T C X) {o : O1} {op : CmpOp} {k k' : Const} {a : Ex} {a' : Expr} {j : Nat} {pos pos2 : Pos} (h : o1C o = some (op, k)) (hk : sameC k k' = true) (ha : Snd r T C.pl Φ X a a') : Snd r T C.pl Φ X (.un o a) (.Compare a' [op] [.Constant k' j pos2] pos) := by
  have base : ∀ _ : Unit, ∃ (rr : R2) (v : V), OpR X (compareOp op) rr ∧ PE X (.Constant k' j pos2) (tC v) ∧ ∀ x (z : V) H fp (R : D → Prop), Rp X.K H z x fp → op1 o x R → ∃ b, R (.bool b) ∧ ∀ Q : VK, Q (.bl b) H → rr z v H Q := by
    intro _
    cases o <;> simp [o1C] at h <;> obtain ⟨rfl, rfl⟩ := h <;> cases k' <;> simp [sameC] at hk
    · exact ⟨_, .non, op_isN, pe_non, fun x z H fp R hr q => ⟨_, q, fun Q hq => ⟨rfl, by rw [isN_of hr]; exact hq⟩⟩⟩
    · exact ⟨_, .non, op_notN, pe_non, fun x z H fp R hr q => ⟨_, q, fun Q hq => ⟨rfl, by rw [isN_of hr]; exact hq⟩⟩⟩
    · subst hk
      refine ⟨_, .bl true, op_isBl, pe_bl, fun x z H fp R hr q => ?_⟩
      cases hr
      case bl b => exact ⟨b, q, fun Q hq => ⟨b, true, rfl, rfl, by cases b <;> exact hq⟩⟩
      all_goals exact False.elim q
    · subst hk
      refine ⟨_, .bl true, op_notBl, pe_bl, fun x z H fp R hr q => ?_⟩
      cases hr
      case bl b => exact ⟨!b, q, fun Q hq => ⟨b, true, rfl, rfl, by cases b <;> exact hq⟩⟩
      all_goals exact False.elim q
    · subst hk
      refine ⟨_, .bl false, op_isBl, pe_bl, fun x z H fp R hr q => ?_⟩
      cases hr
      case bl b => exact ⟨!b, q, fun Q hq => ⟨b, false, rfl, rfl, by cases b <;> exact hq⟩⟩
      all_goals exact False.elim q
    · subst hk
      refine ⟨_, .bl false, op_notBl, pe_bl, fun x z H fp R hr q => ?_⟩
      cases hr
      case bl b => exact ⟨b, q, fun Q hq => ⟨b, false, rfl, rfl, by cases b <;> exact hq⟩⟩
      all_goals exact False.elim q
  refine ⟨fun bad => ?_, fun bad => ?_, fun h => by cases h⟩
  · obtain ⟨rr, v, h1, h2, h3⟩ := base ()
    refine PE.weak (pe_cmpR h1 (ha.pe bad) h2 rfl) fun σ H Q q => ?_
    obtain ⟨Γ, g, he, hp, w, q⟩ := q
    refine stepE M he hp w q fun x g1 v1 H1 f1 e1 w1 r1 n1 _ he1 hp1 q1 => ?_
    obtain ⟨b, q2, h4⟩ := h3 x v1 H1 f1 _ r1 q1
    exact h4 Q (Out.here w1 (.bl b) (Out.up e1 q2))
  · obtain ⟨rr, v, h1, h2, h3⟩ := base ()
    refine PT.weak (pt_cmpR h1 (ha.pe bad) h2 rfl) fun σ H Q q => ?_
    obtain ⟨Γ, g, he, hp, w, q⟩ := q
    refine stepE M he hp w q fun x g1 v1 H1 f1 e1 w1 r1 n1 _ he1 hp1 q1 => ?_
    obtain ⟨b, q2, h4⟩ := h3 x v1 H1 f1 _ r1 q1
    exact h4 _ ⟨b, rfl, q2 H1 e1 w1⟩
include M in
theorem s_and {a b : Ex} {a' b' : Expr} {rest : List Expr} {pos : Pos} (ha : Snd r T C.pl Φ X a a')
    (hb : ∀ bad, PE X (.BoolOp .And (b' :: rest) pos) (TEc ⟨r, T, bad⟩ X.K C.pl Φ b)) (hw : ∀ bad, PW X (.BoolOp .And (b' :: rest) pos) (TTc ⟨r, T, bad⟩ X.K C.pl Φ b)) : Snd r T C.pl Φ X (.and a b) (.BoolOp .And (a' :: b' :: rest) pos) := by
  have w : ∀ bad, PW X (.BoolOp .And (a' :: b' :: rest) pos) (TTc ⟨r, T, bad⟩ X.K C.pl Φ (.and a b)) := fun bad => ⟨fun wh pins s σ H Q I q => (pw_and (ha.pt bad) (hw bad)).run wh pins s σ H Q I (by
    obtain ⟨Γ, g, he, hp, w, q⟩ := q
    refine stepT M he hp w q fun x g1 q1 => boolK_mono (fun c q2 H1 e1 w1 he1 hp1 => ?_) q1
    cases c with
    | true =>
      rw [if_pos rfl] at q2 ⊢
      exact ⟨Γ, g1, he1, hp1, w1, wpE_mono M (fun y g2 q3 => boolK_mono (fun c q4 H2 e2 w2 => q4 H2 (e1.trans e2) w2) q3) q2⟩
    | false =>
      rw [if_neg Bool.false_ne_true] at q2 ⊢
      exact q2 H1 e1 w1)⟩
  refine ⟨fun bad => ?_, fun bad => (w bad).pt, fun _ => w⟩
  refine PE.weak (pe_and (ha.pe bad) (hb bad)) fun σ H Q q => ?_
  obtain ⟨Γ, g, he, hp, w, q⟩ := q
  refine stepE M he hp w q fun x g1 v1 H1 f1 e1 w1 r1 n1 fr1 he1 hp1 q1 => ?_
  cases r1
  case bl c =>
    have q1 : if c = true then wpE Φ b false Γ g1 _ else _ := q1
    refine ⟨c, rfl, ?_⟩
    cases c with
    | true =>
      rw [if_pos rfl] at q1 ⊢
      refine stepE M he1 hp1 w1 q1 fun y g2 v2 H2 f2 e2 w2 r2 n2 fr2 he2 hp2 q2 => ?_
      cases r2
      case bl c => exact Out.here w2 (.bl c) (Out.up (e1.trans e2) (show Out _ X.K H g2 (.bool c) _ Q from q2))
      all_goals exact False.elim q2
    | false =>
      rw [if_neg Bool.false_ne_true] at q1 ⊢
      exact Out.here w1 (.bl false) (Out.up e1 q1)
  all_goals exact False.elim q1
include M in
theorem fin_tb {e : Ex} (h : ∀ Γ g Q, wpE Φ e true Γ g Q ↔ wpE Φ e false Γ g fun z g' => truK z fun b => Q (.bool b) g') {Γ : Sl} {g : Nat} {F : Kc} (q : wpE Φ e true Γ g F) : wpE Φ e true Γ g fun x g => (∃ b, x = .bool b) ∧ F x g :=
  (h _ _ _).mpr (wpE_mono M (fun z g q => truK_mono (fun b q => ⟨⟨b, rfl⟩, q⟩) q) ((h _ _ _).mp q))
include M in
theorem wpE_tb : ∀ (e : Ex) {Γ : Sl} {g : Nat} {F : Kc}, wpE Φ e true Γ g F → wpE Φ e true Γ g fun x g => (∃ b, x = .bool b) ∧ F x g
  | .and a b, _, _, _, q => wpE_mono M (e := a) (fun x g q => boolK_mono (fun c q => by
      cases c with
      | true =>
        rw [if_pos rfl] at q ⊢
        exact wpE_mono M (e := b) (fun y g q => boolK_mono (fun c q => ⟨⟨c, rfl⟩, q⟩) q) q
      | false =>
        rw [if_neg Bool.false_ne_true] at q ⊢
        exact ⟨⟨_, rfl⟩, q⟩) q) q
  | .or a b, _, _, _, q => wpE_mono M (e := a) (fun x g q => by
      obtain ⟨⟨c, rfl⟩, q⟩ := q
      have q : if c = true then _ else _ := q
      show if c = true then _ else _
      cases c with
      | true =>
        rw [if_pos rfl] at q ⊢
        exact ⟨⟨_, rfl⟩, q⟩
      | false =>
        rw [if_neg Bool.false_ne_true] at q ⊢
        exact wpE_tb b q) (wpE_tb a q)
  | .not a, _, _, _, q => wpE_mono M (e := a) (fun x g q => boolK_mono (fun c q => ⟨⟨_, rfl⟩, q⟩) q) q
  | .ite c a b, _, _, _, q => wpE_mono M (e := c) (fun x g q => boolK_mono (fun c q => by
      cases c with
      | true =>
        rw [if_pos rfl] at q ⊢
        exact wpE_tb a q
      | false =>
        rw [if_neg Bool.false_ne_true] at q ⊢
        exact wpE_tb b q) q) q
  | .chn _ _ a b c, _, _, _, q => wpE_mono M (e := a) (fun _ _ z => wpE_mono M (e := b) (fun _ _ z => op2_mono (fun _ z => boolK_mono (fun t z => by
      cases t
      · exact ⟨⟨_, rfl⟩, z⟩
      · exact wpE_mono M (e := c) (fun _ _ z => op2_mono (fun _ z => boolK_mono (fun _ z => ⟨⟨_, rfl⟩, z⟩) z) z) z) z) z) z) q
  | .slot _, _, _, _, q => fin_tb M (fun _ _ _ => Iff.rfl) q
  | .cst _, _, _, _, q => fin_tb M (fun _ _ _ => Iff.rfl) q
  | .glob _, _, _, _, q => fin_tb M (fun _ _ _ => Iff.rfl) q
  | .op _ _ _, _, _, _, q => fin_tb M (fun _ _ _ => Iff.rfl) q
  | .un _ _, _, _, _, q => fin_tb M (fun _ _ _ => Iff.rfl) q
  | .tup _, _, _, _, q => fin_tb M (fun _ _ _ => Iff.rfl) q
  | .lst _, _, _, _, q => fin_tb M (fun _ _ _ => Iff.rfl) q
  | .ix _ _, _, _, _, q => fin_tb M (fun _ _ _ => Iff.rfl) q
  | .sl _ _ _, _, _, _, q => fin_tb M (fun _ _ _ => Iff.rfl) q
  | .rev _, _, _, _, q => fin_tb M (fun _ _ _ => Iff.rfl) q
  | .b1 _ _, _, _, _, q => fin_tb M (fun _ _ _ => Iff.rfl) q
  | .mx2 _ _, _, _, _, q => fin_tb M (fun _ _ _ => Iff.rfl) q
  | .mn2 _ _, _, _, _, q => fin_tb M (fun _ _ _ => Iff.rfl) q
  | .mxd a b, _, _, _, q => wpE_mono M (e := a) (fun _ _ z => wpE_mono M (e := b) (fun _ _ z => seqK_mono (fun ds z => ⟨z.1, by
      have z := z.2
      cases ds
      · exact truK_mono (fun b q => ⟨⟨b, rfl⟩, q⟩) z
      · exact truK_mono (fun b q => ⟨⟨b, rfl⟩, q⟩) z⟩) z) z) q
  | .isi _ _, _, _, _, q => fin_tb M (fun _ _ _ => Iff.rfl) q
  | .idx _ _, _, _, _, q => fin_tb M (fun _ _ _ => Iff.rfl) q
  | .cnt _ _, _, _, _, q => fin_tb M (fun _ _ _ => Iff.rfl) q
  | .rl _ _, _, _, _, q => fin_tb M (fun _ _ _ => Iff.rfl) q
  | .call _ _, _, _, _, q => fin_tb M (fun _ _ _ => Iff.rfl) q
  | .callP _ _, _, _, _, q => fin_tb M (fun _ _ _ => Iff.rfl) q
  | .lc _ _ _ _ _ _, _, _, _, q => fin_tb M (fun _ _ _ => Iff.rfl) q
  | .lc2 _ _ _ _ _ _ _ _ _ _ _, _, _, _, q => fin_tb M (fun _ _ _ => Iff.rfl) q
  | .key _ _ _ _ _, _, _, _, q => fin_tb M (fun _ _ _ => Iff.rfl) q
include M in
theorem s_or {a b : Ex} {a' b' : Expr} {rest : List Expr} {pos : Pos} (ha : Snd r T C.pl Φ X a a')
    (hb : ∀ bad, PE X (.BoolOp .Or (b' :: rest) pos) (TEc ⟨r, T, bad⟩ X.K C.pl Φ b)) (hw : ∀ bad, PW X (.BoolOp .Or (b' :: rest) pos) (TTc ⟨r, T, bad⟩ X.K C.pl Φ b)) : Snd r T C.pl Φ X (.or a b) (.BoolOp .Or (a' :: b' :: rest) pos) := by
  have w : ∀ bad, PW X (.BoolOp .Or (a' :: b' :: rest) pos) (TTc ⟨r, T, bad⟩ X.K C.pl Φ (.or a b)) := fun bad => ⟨fun wh pins s σ H Q I q => (pw_or (ha.pt bad) (hw bad)).run wh pins s σ H Q I (by
    obtain ⟨Γ, g, he, hp, w, q⟩ := q
    refine stepT M he hp w (wpE_tb M a q) fun x g1 q1 => ?_
    obtain ⟨⟨c, rfl⟩, q1⟩ := q1
    have q1 : if c = true then _ else _ := q1
    show ∀ H1, _
    intro H1 e1 w1 he1 hp1
    cases c with
    | true =>
      rw [if_pos rfl] at q1 ⊢
      exact q1 H1 e1 w1
    | false =>
      rw [if_neg Bool.false_ne_true] at q1 ⊢
      exact ⟨Γ, g1, he1, hp1, w1, wpE_mono M (fun y g2 q3 => boolK_mono (fun c q4 H2 e2 w2 => q4 H2 (e1.trans e2) w2) q3) q1⟩)⟩
  refine ⟨fun bad => ?_, fun bad => (w bad).pt, fun _ => w⟩
  refine PE.weak (pe_orT (ha.pe bad) (hb bad)) fun σ H Q q => ?_
  obtain ⟨Γ, g, he, hp, w, q⟩ := q
  refine stepE M he hp w q fun x g1 v1 H1 f1 e1 w1 r1 n1 _ he1 hp1 q1 => ?_
  obtain ⟨k, hk, q2⟩ := tru_of r1 (show truK x _ from q1)
  refine ⟨k, hk, ?_⟩
  cases k with
  | true =>
    rw [if_pos rfl] at q2 ⊢
    exact Out.same w1 r1 n1 (fun z => by simp [frs] at z) (Out.up e1 q2)
  | false =>
    rw [if_neg Bool.false_ne_true] at q2 ⊢
    exact ⟨Γ, g1, he1, hp1, w1, wpE_mono M (fun z g2 q3 => Out.up e1 (Out.mono (fun z => by simp [frs] at z) q3)) q2⟩
end
end W3
namespace W3
open PySem PySem.Spec PyProof.Rows L2 NdefX LamX
open PySem.W (alike dataLt AllAlike Sortable dataLe AlikeAll minD maxD)
section
variable {r : Option Addr} {T : List NTab} {Φ : Fam} {C : Mc} {X : Cx} (M : Φ.Mono)
include M
theorem true_false {a : Ex} (hp : plainC a = true) {Γ : Sl} {g : Nat} {Q : Kc} (q : wpE Φ a true Γ g Q) : wpE Φ a false Γ g fun z g' => truK z fun b => Q (.bool b) g' := by
  cases a <;> first
    | exact q
    | (simp [plainC] at hp; done)
    | skip
theorem s_not {a : Ex} {a' : Expr} {pos : Pos} (hp : plainC a = true) (ha : Snd r T C.pl Φ X a a') : Snd r T C.pl Φ X (.not a) (.UnaryOp .Not a' pos) := by
  refine ⟨fun bad => PE.weak (pe_notT (ha.pe bad)) fun σ H Q q => ?_, fun bad => PT.weak (pt_not (ha.pt bad)) fun σ H Q q => ?_, fun h => by cases h⟩
  · obtain ⟨Γ, g, he, hep, w, q⟩ := q
    refine stepE M he hep w (true_false M hp q) fun x g1 v1 H1 f1 e1 w1 r1 n1 fr1 he1 hp1 q1 => ?_
    obtain ⟨k, hk, q2⟩ := tru_of r1 q1
    exact ⟨k, hk, Out.here w1 (.bl (!k)) (Out.up e1 q2)⟩
  · obtain ⟨Γ, g, he, hep, w, q⟩ := q
    exact stepT M he hep w q fun x g1 q1 => boolK_mono (fun c q2 H1 e1 w1 _ _ => q2 H1 e1 w1) q1
omit M in
theorem pt_ifExp {c a b : Expr} {tc ta tb : TT} {pos : Pos} (hc : PT X c tc) (ha : PT X a ta) (hb : PT X b tb) : PT X (.IfExp c a b pos) (fun σ H Q => tc σ H fun k H1 => if k = true then ta σ H1 Q else tb σ H1 Q) := by
  refine ⟨fun pins s σ H Q I h => ?_⟩
  show wpAny _ _ (do if ← isTrue c X.env (eval c X.env) then isTrue a X.env (eval a X.env) else isTrue b X.env (eval b X.env)) _ _ s
  refine wpAny_bind (thn (hc.run pins s σ H _ I h) fun k s1 ⟨H1, I1, q1⟩ => ?_)
  cases k with
  | true => exact ha.run pins s1 σ H1 Q I1 q1
  | false => exact hb.run pins s1 σ H1 Q I1 q1
theorem s_ite {c a b : Ex} {c' a' b' : Expr} {pos : Pos} (hc : Snd r T C.pl Φ X c c') (ha : Snd r T C.pl Φ X a a') (hb : Snd r T C.pl Φ X b b') : Snd r T C.pl Φ X (.ite c a b) (.IfExp c' a' b' pos) := by
  refine ⟨fun bad => PE.weak (pe_ifExp (hc.pt bad) (ha.pe bad) (hb.pe bad)) fun σ H Q q => ?_, fun bad => PT.weak (pt_ifExp (hc.pt bad) (ha.pt bad) (hb.pt bad)) fun σ H Q q => ?_, fun h => by cases h⟩
  · obtain ⟨Γ, g, he, hep, w, q⟩ := q
    refine stepT M he hep w q fun x g1 q1 => boolK_mono (fun k q2 H1 e1 w1 he1 hp1 => ?_) q1
    cases k with
    | true =>
      rw [if_pos rfl] at q2 ⊢
      refine ⟨Γ, g1, he1, hp1, w1, wpE_mono M (fun z g2 q3 v H2 fp e2 w2 r2 n2 f2 => q3 v H2 fp (e1.trans e2) w2 r2 n2 fun hz => ?_) q2⟩
      have hz : ((flat z || frs a z) && (flat z || frs b z)) = true := hz
      rw [Bool.and_eq_true, Bool.or_eq_true] at hz
      rcases hz.1 with h | h
      · rw [r2.flat h]; exact ⟨List.nodup_nil, fun _ h => nomatch h⟩
      · exact ⟨(f2 h).1, fun p hp => e1.free p ((f2 h).2 p hp)⟩
    | false =>
      rw [if_neg Bool.false_ne_true] at q2 ⊢
      refine ⟨Γ, g1, he1, hp1, w1, wpE_mono M (fun z g2 q3 v H2 fp e2 w2 r2 n2 f2 => q3 v H2 fp (e1.trans e2) w2 r2 n2 fun hz => ?_) q2⟩
      have hz : ((flat z || frs a z) && (flat z || frs b z)) = true := hz
      rw [Bool.and_eq_true, Bool.or_eq_true, Bool.or_eq_true] at hz
      rcases hz.2 with h | h
      · rw [r2.flat h]; exact ⟨List.nodup_nil, fun _ h => nomatch h⟩
      · exact ⟨(f2 h).1, fun p hp => e1.free p ((f2 h).2 p hp)⟩
  · obtain ⟨Γ, g, he, hep, w, q⟩ := q
    refine stepT M he hep w q fun x g1 q1 => boolK_mono (fun k q2 H1 e1 w1 he1 hp1 => ?_) q1
    cases k with
    | true =>
      rw [if_pos rfl] at q2 ⊢
      exact ⟨Γ, g1, he1, hp1, w1, wpE_mono M (fun z g2 q3 => boolK_mono (fun b q4 H2 e2 w2 => q4 H2 (e1.trans e2) w2) q3) q2⟩
    | false =>
      rw [if_neg Bool.false_ne_true] at q2 ⊢
      exact ⟨Γ, g1, he1, hp1, w1, wpE_mono M (fun z g2 q3 => boolK_mono (fun b q4 H2 e2 w2 => q4 H2 (e1.trans e2) w2) q3) q2⟩
theorem s_chn (G : Good Φ T C X) {o1 o2 : O2} {p1 p2 : CmpOp} {a b c : Ex} {a' b' c' : Expr} {pos : Pos} (h1 : opC o1 = some p1) (h2 : opC o2 = some p2) (hs : noSet c' = true) (ha : Snd r T C.pl Φ X a a') (hb : Snd r T C.pl Φ X b b') (hc : Snd r T C.pl Φ X c c') :
    Snd r T C.pl Φ X (.chn o1 o2 a b c) (.Compare a' [p1, p2] [b', c'] pos) := by
  have lm : lastMarks [p1, p2] [b', c'] = false := marks hs
  refine ⟨fun bad => PE.weak (pe_chain (opR_C (P := ⟨r, T, bad⟩) G.hu h1).2 (opR_C (P := ⟨r, T, bad⟩) G.hu h2).2 (ha.pe bad) (hb.pe bad) (hc.pe bad) lm) fun σ H Q q => ?_,
    fun bad => PT.weak (pt_chain (opR_C (P := ⟨r, T, bad⟩) G.hu h1).2 (opR_C (P := ⟨r, T, bad⟩) G.hu h2).2 (ha.pe bad) (hb.pe bad) (hc.pe bad) lm) fun σ H Q q => ?_, fun h => by cases h⟩
  · obtain ⟨Γ, g, he, hep, w, q⟩ := q
    refine stepE M he hep w q fun x g1 v1 H1 f1 e1 w1 r1 n1 _ he1 hp1 q1 => ?_
    refine stepE M he1 hp1 w1 q1 fun y g2 v2 H2 f2 e2 w2 r2 n2 _ he2 hp2 q2 => ?_
    refine ⟨x, y, f1, f2, g2, r1.ext e2 w1 n1, r2, n1, n2, w2, op2_mono (fun z q3 v3 H3 f3 e3 w3 r3 n3 fr3 => ?_) q2⟩
    have he3 := he2.ext e3 w2
    have hp3 := hp2.ext e3
    cases r3
    case bl k =>
      have q3 : if k = true then _ else _ := q3
      refine ⟨k, rfl, ?_⟩
      cases k with
      | true =>
        rw [if_pos rfl] at q3 ⊢
        refine stepE M he3 hp3 w3 q3 fun w' g4 v4 H4 f4 e4 w4 r4 n4 _ he4 hp4 q4 => ?_
        refine ⟨y, w', f2, f4, g4, (r2.ext e3 w2 n2).ext e4 w3 n2, r4, n2, n4, w4, op2_mono (fun z q5 => ?_) (op2_bool (opR_C (X := X) (P := ⟨r, T, bad⟩) G.hu h2).1 q4)⟩
        obtain ⟨b, rfl, q5⟩ := q5
        exact Out.mono (fun z => by simp [frs] at z) (Out.up (((e1.trans e2).trans e3).trans e4) (show Out _ X.K H g4 (.bool b) _ Q from q5))
      | false =>
        rw [if_neg Bool.false_ne_true] at q3 ⊢
        exact Out.here w3 (.bl false) (Out.up ((e1.trans e2).trans e3) q3)
    all_goals exact False.elim q3
  · obtain ⟨Γ, g, he, hep, w, q⟩ := q
    refine stepE M he hep w q fun x g1 v1 H1 f1 e1 w1 r1 n1 _ he1 hp1 q1 => ?_
    refine stepE M he1 hp1 w1 q1 fun y g2 v2 H2 f2 e2 w2 r2 n2 _ he2 hp2 q2 => ?_
    refine ⟨x, y, f1, f2, g2, r1.ext e2 w1 n1, r2, n1, n2, w2, op2_mono (fun z q3 v3 H3 f3 e3 w3 r3 n3 fr3 => ?_) q2⟩
    have he3 := he2.ext e3 w2
    have hp3 := hp2.ext e3
    cases r3
    case bl k =>
      have q3 : if k = true then _ else _ := q3
      refine ⟨k, rfl, ?_⟩
      cases k with
      | true =>
        rw [if_pos rfl] at q3 ⊢
        refine stepE M he3 hp3 w3 q3 fun w' g4 v4 H4 f4 e4 w4 r4 n4 _ he4 hp4 q4 => ?_
        refine ⟨y, w', f2, f4, g4, (r2.ext e3 w2 n2).ext e4 w3 n2, r4, n2, n4, w4, op2_mono (fun z q5 v5 H5 f5 e5 w5 r5 n5 _ => ?_) (op2_bool (opR_C (X := X) (P := ⟨r, T, bad⟩) G.hu h2).1 q4)⟩
        obtain ⟨b, rfl, q5⟩ := q5
        cases r5
        exact ⟨b, rfl, q5 H5 ((((e1.trans e2).trans e3).trans e4).trans e5) w5⟩
      | false =>
        rw [if_neg Bool.false_ne_true] at q3 ⊢
        exact ⟨false, rfl, q3 H3 ((e1.trans e2).trans e3) w3⟩
    all_goals exact False.elim q3
theorem s_tup {es : List Ex} {es' : List Expr} {k : Nat} {pos : Pos} (hl : ∀ bad, PA X es' (TLc ⟨r, T, bad⟩ X.K C.pl Φ es)) (hz : es.length ≤ 1000) : Snd r T C.pl Φ X (.tup es) (.Tuple es' k pos) := by
  refine mk_plain M (fun bad => PE.weak (pe_tup (hl bad)) fun σ H Q q => ?_) rfl fun _ _ _ q => q
  obtain ⟨Γ, g, he, hep, w, q⟩ := q
  refine stepL M he hep w (wpL_len M q) fun ds g1 vs H1 f1 e1 w1 r1 n1 fr he1 hp1 q1 => ?_
  obtain ⟨hn, q1⟩ := q1
  refine ⟨by rw [r1.length, hn, sizeLine_eq]; omega, fun p hp => ?_⟩
  exact q1 (.ref p) _ f1 (e1.trans (Ext.upd hp)) (w1.upd hp) (.tup (SqT.of upd_same) (r1.ext (Ext.upd hp) w1 n1)) n1 fr
theorem s_lst {es : List Ex} {es' : List Expr} {pos : Pos} (hl : ∀ bad, PA X es' (TLc ⟨r, T, bad⟩ X.K C.pl Φ es)) (hz : es.length ≤ 1000) : Snd r T C.pl Φ X (.lst es) (.List es' pos) := by
  refine mk_plain M (fun bad => PE.weak (pe_lst (hl bad)) fun σ H Q q => ?_) rfl fun _ _ _ q => q
  obtain ⟨Γ, g, he, hep, w, q⟩ := q
  refine stepL M he hep w (wpL_len M q) fun ds g1 vs H1 f1 e1 w1 r1 n1 fr he1 hp1 q1 => ?_
  obtain ⟨hn, q1⟩ := q1
  refine ⟨by rw [r1.length, hn, sizeLine_eq]; omega, fun p hp => ?_⟩
  refine q1 (.ref p) _ (p :: f1) (e1.trans (Ext.upd hp)) (w1.upd hp) (.lst upd_same (r1.ext (Ext.upd hp) w1 n1)) (fun a ha hm => ?_) fun z => ?_
  · rcases List.mem_cons.mp hm with y | y
    · exact cnt_ne w1 hp a ha y
    · exact n1 a ha y
  · obtain ⟨h1, h2⟩ := fr z
    refine ⟨List.nodup_cons.mpr ⟨fun hm => ?_, h1⟩, fun b hb => ?_⟩
    · obtain ⟨xs, y⟩ := r1.there p hm
      rw [hp] at y; cases y
    · rcases List.mem_cons.mp hb with y | y
      · rw [y]; exact e1.free p hp
      · exact h2 b y
omit M in
theorem plain_ix {b : Expr} (h : noSlice b = true) : PlainIx b := by
  intro o i
  cases b <;> first | rfl | (simp [noSlice] at h; done)
theorem s_ix {a b : Ex} {a' b' : Expr} {pos : Pos} (hs : noSlice b' = true) (ha : Snd r T C.pl Φ X a a') (hb : Snd r T C.pl Φ X b b') : Snd r T C.pl Φ X (.ix a b) (.Subscript a' b' pos) := by
  refine mk_plain M (fun bad => PE.weak (pe_ix (ixD (P := ⟨r, T, bad⟩)) (ha.pe bad) (hb.pe bad) (plain_ix hs)) fun σ H Q q => ?_) rfl fun _ _ _ q => q
  obtain ⟨Γ, g, he, hp, w, q⟩ := q
  refine stepE M he hp w q fun x g1 v H1 f1 e1 w1 r1 n1 _ he1 hp1 q1 => ?_
  refine stepE M he1 hp1 w1 q1 fun y g2 u H2 f2 e2 w2 r2 n2 _ _ _ q2 => ?_
  exact ⟨x, y, f1, f2, g2, r1.ext e2 w1 n1, r2, n1, w2, ixK_mono (fun z q => Out.mono (fun z => by simp [frs] at z) (Out.up (e1.trans e2) q)) q2⟩
/-- a part of a slice -/
theorem s_sl {a : Ex} {a' : Expr} {lo hi : Option Ex} {lo' hi' : Option Expr} {p2 pos : Pos} (ha : Snd r T C.pl Φ X a a')
    (hlo : ∀ bad, PO X lo' (fun σ H Q => ∃ Γ g, EnvR ⟨r, T, bad⟩ X.K σ H Γ ∧ EnvP ⟨r, T, bad⟩ C.pl σ H ∧ WI ⟨r, T, bad⟩ g H ∧ wpO Φ lo Γ g fun o g' => ∀ H', Ext ⟨r, T, bad⟩ H H' → WI ⟨r, T, bad⟩ g' H' → Q o H'))
    (hhi : ∀ bad, PO X hi' (fun σ H Q => ∃ Γ g, EnvR ⟨r, T, bad⟩ X.K σ H Γ ∧ EnvP ⟨r, T, bad⟩ C.pl σ H ∧ WI ⟨r, T, bad⟩ g H ∧ wpO Φ hi Γ g fun o g' => ∀ H', Ext ⟨r, T, bad⟩ H H' → WI ⟨r, T, bad⟩ g' H' → Q o H')) :
    Snd r T C.pl Φ X (.sl a lo hi) (.Subscript a' (.Slice lo' hi' none p2) pos) := by
  refine mk_plain M (fun bad => PE.weak (pe_slice (slD (P := ⟨r, T, bad⟩)) (ha.pe bad) (hlo bad) (hhi bad)) fun σ H Q q => ?_) rfl fun _ _ _ q => q
  obtain ⟨Γ, g, he, hp, w, q⟩ := q
  refine stepE M he hp w q fun x g1 v H1 f1 e1 w1 r1 n1 _ he1 hp1 q1 => ?_
  refine ⟨Γ, g1, he1, hp1, w1, wpO_mono M (fun l g2 q2 H2 e2 w2 => ?_) q1⟩
  refine ⟨Γ, g2, he1.ext e2 w1, hp1.ext e2, w2, wpO_mono M (fun u g3 q3 H3 e3 w3 => ?_) q2⟩
  refine ⟨x, f1, g3, (r1.ext e2 w1 n1).ext e3 w2 n1, n1, w3, ?_⟩
  exact slK_mono (fun z q => Out.up ((e1.trans e2).trans e3) q) q3
omit M in
theorem bi_of (G : Good Φ T C X) {b : Str} (h : b ∈ bNames) : X.mg b = none := G.bi b h
theorem red_b1 {f : B1} {bad : List Addr} {a : Ex} {σ : L2.St} {H : Hp} {Q : VK} (q : TEc ⟨r, T, bad⟩ X.K C.pl Φ (.b1 f a) σ H Q) : TEc ⟨r, T, bad⟩ X.K C.pl Φ a σ H fun v H1 => rB ⟨r, T, bad⟩ X.K f [v] H1 Q := by
  obtain ⟨Γ, g, he, hp, w, q⟩ := q
  refine stepE M he hp w q fun x g1 v H1 f1 e1 w1 r1 n1 _ he1 hp1 q1 => ?_
  exact ⟨v, x, f1, g1, rfl, r1, n1, w1, b1K_mono (fun z q => Out.up e1 q) q1⟩
theorem s_b1 (G : Good Φ T C X) {f : B1} {x : Str} {a : Ex} {a' : Expr} {p pos : Pos} (hf : b1N f = some x) (hg : glB C.sc x = true) (hs : noStar a' = true) (ha : Snd r T C.pl Φ X a a') : Snd r T C.pl Φ X (.b1 f a) (.Call (.Name x p) [a'] [] pos) := by
  have bi := G.bi
  have gl := G.gl hg
  have na : starEach [a'] X.env = (false, eval a' X.env) :: starEach [] X.env := star_cons hs
  refine mk_plain M (fun bad => PE.weak (t := fun σ H Q => TEc ⟨r, T, bad⟩ X.K C.pl Φ a σ H fun v H1 => rB ⟨r, T, bad⟩ X.K f [v] H1 Q) ?_ fun σ H Q q => red_b1 M q) rfl fun _ _ _ q => q
  have A := pa_cons (ha.pe bad) pa_nil na
  cases f <;> simp [b1N] at hf <;> subst hf
  · exact pe_callB cb_len gl (bi _ (by decide +kernel)) (by decide +kernel) A (he := na) (hpl := rfl)
  · exact pe_callTy cb_tup gl (bi _ (by decide +kernel)) (by decide +kernel) A (he := na) (hpl := rfl)
  · exact pe_callTy cb_lst gl (bi _ (by decide +kernel)) (by decide +kernel) A (he := na) (hpl := rfl)
  · exact pe_callB (cb_sum G.calm) gl (bi _ (by decide +kernel)) (by decide +kernel) A (he := na) (hpl := rfl)
  · exact pe_callB (cb_all G.calm) gl (bi _ (by decide +kernel)) (by decide +kernel) A (he := na) (hpl := rfl)
  · exact pe_callB (cb_any G.calm) gl (bi _ (by decide +kernel)) (by decide +kernel) A (he := na) (hpl := rfl)
  · exact pe_callB (cb_mn G.calm G.hu) gl (bi _ (by decide +kernel)) (by decide +kernel) A (he := na) (hpl := rfl)
  · exact pe_callB (cb_mx G.calm G.hu) gl (bi _ (by decide +kernel)) (by decide +kernel) A (he := na) (hpl := rfl)
  · exact pe_callTy cb_int gl (bi _ (by decide +kernel)) (by decide +kernel) A (he := na) (hpl := rfl)
  · exact pe_callB cb_abs gl (bi _ (by decide +kernel)) (by decide +kernel) A (he := na) (hpl := rfl)
theorem s_sset (G : Good Φ T C X) {a : Ex} {a' : Expr} {p p2 p3 pos : Pos} (hg : glB C.sc "sorted" = true) (hg2 : glB C.sc "set" = true) (hs : noStar a' = true) (ha : Snd r T C.pl Φ X a a') : Snd r T C.pl Φ X (.b1 .sset a) (.Call (.Name "sorted" p) [.Call (.Name "set" p2) [a'] [] p3] [] pos) := by
  refine mk_plain M (fun bad => PE.weak (pe_sset G.calm G.hu (G.gl hg) (G.bi _ (by decide +kernel)) (G.gl hg2) (G.bi _ (by decide +kernel)) (ha.pe bad) (star_cons hs)) fun σ H Q q => ?_) rfl fun _ _ _ q => q
  obtain ⟨Γ, g, he, hp, w, q⟩ := red_b1 M q
  exact ⟨Γ, g, he, hp, w, wpE_mono M (fun z g1 q v H1 fp e1 w1 r1 n1 f1 => sset_key v H1 (q v H1 fp e1 w1 r1 n1 f1)) q⟩
theorem s_lset (G : Good Φ T C X) {a : Ex} {a' : Expr} {p p2 p3 pos : Pos} (hg : glB C.sc "len" = true) (hg2 : glB C.sc "set" = true) (hs : noStar a' = true) (ha : Snd r T C.pl Φ X a a') : Snd r T C.pl Φ X (.b1 .lset a) (.Call (.Name "len" p) [.Call (.Name "set" p2) [a'] [] p3] [] pos) := by
  refine mk_plain M (fun bad => PE.weak (pe_lset G.calm (G.gl hg) (G.bi _ (by decide +kernel)) (G.gl hg2) (G.bi _ (by decide +kernel)) (ha.pe bad) (star_cons hs)) fun σ H Q q => ?_) rfl fun _ _ _ q => q
  obtain ⟨Γ, g, he, hp, w, q⟩ := red_b1 M q
  exact ⟨Γ, g, he, hp, w, wpE_mono M (fun z g1 q v H1 fp e1 w1 r1 n1 f1 => lset_key v H1 (q v H1 fp e1 w1 r1 n1 f1)) q⟩
end
end W3
namespace W3
open PySem PySem.Spec PyProof.Rows L2 NdefX LamX
open PySem.W (alike dataLt AllAlike Sortable dataLe AlikeAll minD maxD)
theorem PG.weak {X : Cx} {e : Expr} {t t' : TG} (h : PG X e t) (hw : ∀ v σ H Q, t' v σ H Q → t v σ H Q) : PG X e t' := ⟨fun pins s σ H v u Q I r q => h.run pins s σ H v u Q I r (hw _ _ _ _ q)⟩
theorem PGs.weak {X : Cx} {e : List Expr} {t t' : TGs} (h : PGs X e t) (hw : ∀ v σ H Q, t' v σ H Q → t v σ H Q) : PGs X e t' := ⟨fun pins s σ H v u Q I r q => h.run pins s σ H v u Q I r (hw _ _ _ _ q)⟩
theorem PI.weak {X : Cx} {tg e : Expr} {t t' : TI} (h : PI X tg e t) (hw : ∀ σ H Q, t' σ H Q → t σ H Q) : PI X tg e t' := ⟨fun pins s σ H Q I q => h.run pins s σ H Q I (hw _ _ _ q)⟩
theorem PA.weak {X : Cx} {es : List Expr} {t t' : TA} (h : PA X es t) (hw : ∀ σ H Q, t' σ H Q → t σ H Q) : PA X es t' := ⟨fun pos pins s σ H Q I q => h.run pos pins s σ H Q I (hw _ _ _ q)⟩
theorem asg_cons {e : Expr} {es : List Expr} {env : Env} (h : noStar e = true) : assignEach (e :: es) env = (false, assign e env) :: assignEach es env := by
  cases e <;> first | rfl | (simp [noStar] at h; done)
section
variable {r : Option Addr} {T : List NTab} {Φ : Fam} {C : Mc} {X : Cx}
theorem mtGs_star : ∀ {ts : List Tg} {es : List Expr}, mtGs C ts es = true → ∀ env, (assignEach es env).length = ts.length ∧ (assignEach es env).findIdx? (·.1) = none
  | [], [], _, _ => ⟨rfl, rfl⟩
  | t :: ts, e :: es, h, env => by
    simp only [mtGs, Bool.and_eq_true] at h
    obtain ⟨h1, h2⟩ := mtGs_star h.2 env
    rw [asg_cons h.1.1]
    refine ⟨by simp [h1], ?_⟩
    rw [List.findIdx?_cons, h2]
    rfl
  | [], _ :: _, h, _ => by simp [mtGs] at h
  | _ :: _, [], h, _ => by simp [mtGs] at h
mutual
theorem tg_sound (G : Good Φ T C X) (P : Pw) : ∀ (tg : Tg) (e : Expr), mtG C tg e = true → PG X e (TGc P X.K C.pl tg)
  | .nm i, e, h => by
    cases e with
    | Name x pos =>
      simp only [mtG, Bool.and_eq_true, decide_eq_true_eq] at h
      obtain ⟨⟨h1, h2⟩, h3⟩ := h
      refine PG.weak (pg_name (i := i) (by rw [G.N]; exact G.nd) (by rw [G.N]; exact h1) ?_ ?_) fun v σ H Q q => red_nm h3 q
      · unfold stB at h2
        show _ ∨ _
        rw [G.sc]
        split at h2
        · exact .inl (by assumption)
        · exact .inr (by assumption)
        · cases h2
      · unfold stB at h2
        rw [G.sc]
        split at h2
        · exact .inr (by assumption)
        · exact .inl (G.blk (not_of h2) x)
        · cases h2
    | _ => simp [mtG] at h
  | .tp ts, e, h => by
    cases e with
    | Tuple es k pos =>
      obtain ⟨h1, h2⟩ := mtGs_star (show mtGs C ts es = true from h) X.env
      exact PG.weak (pg_tup (n := ts.length) G.calm (tgs_sound G P ts es h) h1 h2) fun v σ H Q q => red_tp rfl q
    | _ => simp [mtG] at h
theorem tgs_sound (G : Good Φ T C X) (P : Pw) : ∀ (ts : List Tg) (es : List Expr), mtGs C ts es = true → PGs X es (TGsc P X.K C.pl ts)
  | [], [], _ => PGs.weak pgs_nil fun _ _ _ _ q => red_tnil q
  | t :: ts, e :: es, h => by
    simp only [mtGs, Bool.and_eq_true] at h
    exact PGs.weak (pgs_cons (tg_sound G P t e h.1.2) (tgs_sound G P ts es h.2) (by rw [asg_cons h.1.1]; rfl)) fun _ _ _ _ q => red_tcons q
  | [], _ :: _, h => by simp [mtGs] at h
  | _ :: _, [], h => by simp [mtGs] at h
end
variable (M : Φ.Mono)
include M
theorem s_mx2 (G : Good Φ T C X) {a b : Ex} {a' b' : Expr} {p pos : Pos} (hg : glB C.sc "max" = true) (na : noStar a' = true) (nb : noStar b' = true) (ha : Snd r T C.pl Φ X a a') (hb : Snd r T C.pl Φ X b b') : Snd r T C.pl Φ X (.mx2 a b) (.Call (.Name "max" p) [a', b'] [] pos) := by
  refine mk_plain M (fun bad => PE.weak (pe_callB (call_max2 G.calm) (G.gl hg) (G.bi _ (by decide +kernel)) (by decide +kernel) (pa_cons (ha.pe bad) (pa_cons (hb.pe bad) pa_nil (star_cons nb)) (star_cons na)) (he := star_cons na) (hpl := backTo_any (nostar_all (by simp [nb])))) fun σ H Q q => ?_) rfl fun _ _ _ q => q
  obtain ⟨Γ, g, he, hp, w, q⟩ := q
  refine stepE M he hp w q fun x g1 v H1 f1 e1 w1 r1 n1 _ he1 hp1 q1 => ?_
  refine stepE M he1 hp1 w1 q1 fun y g2 u H2 f2 e2 w2 r2 n2 _ _ _ q2 => ?_
  have r1 := r1.ext e2 w1 n1
  cases r1 with
  | int i =>
    cases r2 with
    | int j =>
      have q2 : Out _ X.K H g2 (.int (if j > i then j else i)) _ Q := q2
      exact ⟨i, j, rfl, Out.here w2 (.int _) (Out.up (e1.trans e2) q2)⟩
    | _ => exact False.elim q2
  | _ => exact False.elim q2
theorem s_mn2 (G : Good Φ T C X) {a b : Ex} {a' b' : Expr} {p pos : Pos} (hg : glB C.sc "min" = true) (na : noStar a' = true) (nb : noStar b' = true) (ha : Snd r T C.pl Φ X a a') (hb : Snd r T C.pl Φ X b b') : Snd r T C.pl Φ X (.mn2 a b) (.Call (.Name "min" p) [a', b'] [] pos) := by
  refine mk_plain M (fun bad => PE.weak (pe_callB (call_min2 G.calm) (G.gl hg) (G.bi _ (by decide +kernel)) (by decide +kernel) (pa_cons (ha.pe bad) (pa_cons (hb.pe bad) pa_nil (star_cons nb)) (star_cons na)) (he := star_cons na) (hpl := backTo_any (nostar_all (by simp [nb])))) fun σ H Q q => ?_) rfl fun _ _ _ q => q
  obtain ⟨Γ, g, he, hp, w, q⟩ := q
  refine stepE M he hp w q fun x g1 v H1 f1 e1 w1 r1 n1 _ he1 hp1 q1 => ?_
  refine stepE M he1 hp1 w1 q1 fun y g2 u H2 f2 e2 w2 r2 n2 _ _ _ q2 => ?_
  have r1 := r1.ext e2 w1 n1
  cases r1 with
  | int i =>
    cases r2 with
    | int j =>
      have q2 : Out _ X.K H g2 (.int (if j < i then j else i)) _ Q := q2
      exact ⟨i, j, rfl, Out.here w2 (.int _) (Out.up (e1.trans e2) q2)⟩
    | _ => exact False.elim q2
  | _ => exact False.elim q2
omit M in
theorem ext_none {bad : List Addr} {H H' : Hp} (e : Ext ⟨none, T, []⟩ H H') : Ext ⟨r, T, bad⟩ H H' := ⟨fun b o h n _ => e.keep b o h n (fun z => by cases z), e.free⟩
omit M in
theorem wi_none {bad : List Addr} {g : Nat} {H H' : Hp} (w : WI ⟨r, T, bad⟩ g H) (e : Ext ⟨none, T, []⟩ H H') (t : TabsN T H') : WI ⟨r, T, bad⟩ g H' := ⟨fun a ha => by
  obtain ⟨n, h1, h2⟩ := w.cnt a ha
  exact ⟨n, h1, e.keep a _ h2 (fun ps z => by cases z) (fun z => by cases z)⟩, t, fun a ha z => w.bad a ha (e.free a z)⟩
omit M in
theorem nr_fresh {bad : List Addr} {g : Nat} {H : Hp} {fp : List Addr} (w : WI ⟨r, T, bad⟩ g H) (f : ∀ p ∈ fp, H p = none) : nr ⟨r, T, bad⟩ fp := fun a ha hm => by
  rcases ha with z | z
  · obtain ⟨n, _, h2⟩ := w.cnt a z
    rw [f a hm] at h2; cases h2
  · exact w.bad a z (f a hm)
theorem s_call (G : Good Φ T C X) {f : Nat} {es : List Ex} {x : Str} {e : Expr} {es' : List Expr} {p pos : Pos} (hf : f ∈ C.fs) (hx : x = C.fnm f) (hg : glB C.sc x = true) (hd : (x == ("__debug__" : Str)) = false) (hs : ((e :: es').all noStar) = true) (hl : ∀ bad, PA X (e :: es') (TLc ⟨r, T, bad⟩ X.K C.pl Φ es)) : Snd r T C.pl Φ X (.call f es) (.Call (.Name x p) (e :: es') [] pos) := by
  subst hx
  obtain ⟨k, fa, fd, ps, hr, F, hm, hk, hb⟩ := (G.fs f hf).ex
  rw [List.all_cons, Bool.and_eq_true] at hs
  refine mk_plain M (fun bad => PE.weak (pe_call (CX := L2.CX0) (E := E0) F hr (G.gl hg) hm hk hb .nil pass0 (hl bad) hd (star_cons hs.1) (backTo_any (nostar_all hs.2))) fun σ H Q q => ?_) rfl fun _ _ _ q => q
  obtain ⟨Γ, g, he, hp, w, q⟩ := q
  refine stepL M he hp w q fun ds g1 vs H1 f1 e1 w1 r1 n1 _ he1 hp1 q1 => ?_
  refine ⟨ds, f1, by rw [List.append_nil]; exact r1, w1.tab, M.sp f ds _ _ (fun z q v H' fp' e' t' r' fr' => ?_) q1⟩
  refine q v H' fp' (e1.trans (ext_none e')) (wi_none w1 e' t') r' (nr_fresh w1 fr'.2) fun _ => ⟨fr'.1, fun p hp => e1.free p (fr'.2 p hp)⟩
theorem s_callP (G : Good Φ T C X) {f i : Nat} {es : List Ex} {x y : Str} {es' : List Expr} {p p2 pos : Pos} (hf : f ∈ C.fsP) (hx : x = C.fnm f) (hg : glB C.sc x = true) (hd : (x == ("__debug__" : Str)) = false) (hpl : C.pl = some i) (hy : C.N[i]? = some y) (hv : visB C.sc y = true) (hd2 : (y == ("__debug__" : Str)) = false) (hd3 : (y == ("__classdict__" : Str)) = false) (hs : (es'.all noStar) = true) (hl : ∀ bad, PA X es' (TLc ⟨r, T, bad⟩ X.K C.pl Φ es)) :
    Snd r T C.pl Φ X (.callP f es) (.Call (.Name x p) (.Name y p2 :: es') [] pos) := by
  subst hx
  obtain ⟨k, fa, fd, ps, hr, F, hm, hk, hb⟩ := (G.fsP f hf).ex
  refine mk_plain M (fun bad => PE.weak (pe_call (CX := L2.CX0) (E := E0) F hr (G.gl hg) hm hk hb .nil pass0 (pa_cons (pe_var (i := i) (by rw [G.N]; exact hy) (by rw [G.sc]; exact vis_of hv) hd2 hd3) (hl bad) (star_cons rfl)) hd (star_cons rfl) (backTo_any (nostar_all hs))) fun σ H Q q => ?_) rfl fun _ _ _ q => q
  obtain ⟨Γ, g, he, hp, w, q⟩ := q
  obtain ⟨pa, hpa, hat⟩ := hp i hpl
  refine ⟨.ref pa, hpa, ?_⟩
  refine stepL M he hp w q fun ds g1 vs H1 f1 e1 w1 r1 n1 _ he1 hp1 q1 => ?_
  have hat1 := hat.ext e1
  obtain ⟨q0, r0, rows, hr0, h1, h2, h3, h4, h5, h6⟩ := hat1.ex
  have hr0 : r = some r0 := hr0
  subst hr0
  refine ⟨r0, pa, vs, ds, f1, g1, by rw [List.append_nil], poolAt_bad hat1, r1, n1 r0 (.inl rfl), ⟨w1.cnt, w1.tab, fun _ h => nomatch h⟩, M.spP f ds g1 _ _ (fun z g2 q v H' fp' e' t' r' fr' => ?_) q1⟩
  have w' : WI ⟨some r0, T, bad⟩ g2 H' := ⟨t'.cnt, t'.tab, fun a ha z => w1.bad a ha (e'.free a z)⟩
  refine q v H' fp' (e1.trans (ext_bad e')) w' r' (nr_fresh w1 fr'.2) fun z => ⟨fr'.1, fun p hp => e1.free p (fr'.2 p hp)⟩
omit M in
/-- the tests of a clause -/
theorem pts_c {t : Option Ex} {ifs : List Expr} (h : mtOT t C ifs = true) (hs : ∀ c e, t = some c → ifs = [e] → Snd r T C.pl Φ X c e) : PTs X ifs (TOx r T X.K C.pl Φ t) := by
  match t, ifs, h with
  | none, [], _ => exact ⟨fun pins s σ H Q I q => pts_nil.run pins s σ H Q I (by
      obtain ⟨bad, Γ, g, he, hp, w, q⟩ := q
      exact q H (Ext.refl _ _) w)⟩
  | some c, [e], _ => exact ⟨fun pins s σ H Q I q => by
      obtain ⟨bad, q⟩ := q
      exact (pts_one ((hs c e rfl rfl).pt bad)).run pins s σ H Q I q⟩
  | none, _ :: _, h => cases h
  | some _, [], h => cases h
  | some _, _ :: _ :: _, h => cases h
omit M in
theorem PEx {c : Ex} {e : Expr} (h : Snd r T C.pl Φ X c e) : PE X e (TEx r T X.K C.pl Φ c) := ⟨fun pins s σ H Q I q => by
  obtain ⟨bad, q⟩ := q
  exact (h.pe bad).run pins s σ H Q I q⟩
omit M in
theorem PGx {tg : Tg} {e : Expr} (h : ∀ P, PG X e (TGc P X.K C.pl tg)) : PG X e (TGx r T X.K C.pl tg) := ⟨fun pins s σ H v u Q I rv q => by
  obtain ⟨bad, q⟩ := q
  exact (h _).run pins s σ H v u Q I rv q⟩
omit M in
theorem own_snd (N : List Str) (own : List Nat) : (ownOf N own).map (·.2) = own := by
  simp [ownOf, List.map_map, Function.comp_def]
theorem s_lc (G : Good Φ T C X) {own : List Nat} {tg : Tg} {rg : Bool} {es : List Ex} {t : Option Ex} {e : Ex} {elt tg' it : Expr} {ifs : List Expr} {scope : Scope} {pos : Pos}
    (hi : ∀ bad, PI X tg' it (TIc ⟨r, T, bad⟩ X.K C.pl Φ rg es)) (hb : blkC C.N C.sc scope (ownOf C.N own) = true) (hin : tgIn own tg = true) (hpl : ∀ i, C.pl = some i → i ∉ own) (hs : noSet it = true)
    (hg : ∀ X', Good Φ T { C with sc := relS scope C.sc, blk := true } X' → ∀ P, PG X' tg' (TGc P X'.K C.pl tg))
    (ht : ∀ X', Good Φ T { C with sc := relS scope C.sc, blk := true } X' → PTs X' ifs (TOx r T X'.K C.pl Φ t))
    (he : ∀ X', Good Φ T { C with sc := relS scope C.sc, blk := true } X' → Snd r T C.pl Φ X' e elt) : Snd r T C.pl Φ X (.lc own tg rg es t e) (.ListComp elt [⟨tg', it, ifs, 0⟩] scope pos) := by
  refine mk_plain M (fun bad => ?_) rfl fun _ _ _ q => q
  have fo : ∀ x, foldedSetIterable it X.env x = pure x := fun x => by
    cases it <;> first | rfl | (simp [noSet] at hs; done)
  have := pe_lc (tg := tg') (ifs := ifs) (g := TGx r T X.K C.pl tg) (tt := TOx r T X.K C.pl Φ t) (own := ownOf C.N own) G.calm (by rw [G.N]; exact G.nd) (hi bad) (by rw [G.N, G.sc]; exact blkOk_by hb)
    (fun s H L cl fp => PGx (r := r) (T := T) (hg _ (G.blkG s H scope cl L fp))) (fun s H L cl fp => ht _ (G.blkG s H scope cl L fp))
    (te := TEx r T X.K C.pl Φ e) (fun s H L cl fp => PEx (C := { C with sc := relS scope C.sc, blk := true }) (he _ (G.blkG s H scope cl L fp))) fo (elt := elt) (pos := pos)
  rw [own_snd] at this
  exact PE.weak this fun σ H Q q => red_lc M hin hpl q
end
end W3
namespace W3
open PySem PySem.Spec PyProof.Rows L2 NdefX LamX
open PySem.W (alike dataLt AllAlike Sortable dataLe AlikeAll minD maxD)
/-- the list at D under way: H1 the heap before it -/
structure AccI (r : Option Addr) (T : List NTab) (bad : List Addr) (K : PySem.W.Frag) (e : Ex) (D : Addr) (H1 H' : Hp) (acc : List PyData) (g : Nat) : Prop where
  ex : ∃ vs fp, H' D = some (.lst vs) ∧ Rps K H' vs acc fp ∧ nr ⟨r, T, bad⟩ fp ∧ D ∉ fp ∧ Ext ⟨r, T, bad⟩ H1 H' ∧ WI ⟨r, T, bad⟩ g H' ∧ ((acc.all fun d => flat d || frs e d) = true → fp.Nodup ∧ ∀ p ∈ fp, H1 p = none)
section
variable {r : Option Addr} {T : List NTab} {bad : List Addr} {K : PySem.W.Frag} {e : Ex} {D : Addr} {H1 H2 H3 : Hp} {acc : List PyData} {g g' : Nat}
theorem AccI.start (h : H1 D = none) (w : WI ⟨r, T, bad⟩ g H1) : AccI r T bad K e D H1 (upd H1 D (.lst [])) [] g :=
  ⟨[], [], upd_same, .nil, nr_nil, (fun h => nomatch h), Ext.upd h, w.upd h, fun _ => ⟨List.nodup_nil, fun _ h => nomatch h⟩⟩
theorem AccI.wi (a : AccI r T bad K e D H1 H2 acc g) : WI ⟨r, T, D :: bad⟩ g H2 := by
  obtain ⟨vs, fp, h1, h2, h3, h4, h5, h6, h7⟩ := a.ex
  exact h6.bar (by rw [h1]; exact fun z => by cases z)
theorem AccI.next (a : AccI r T bad K e D H1 H2 acc g) (hr : r ≠ some D) (x : Ext ⟨r, T, D :: bad⟩ H2 H3) (w : WI ⟨r, T, D :: bad⟩ g' H3) : AccI r T bad K e D H1 H3 acc g' := by
  obtain ⟨vs, fp, h1, h2, h3, h4, h5, h6, h7⟩ := a.ex
  exact ⟨vs, fp, x.keep D _ h1 (fun ps z => by cases z) hr, h2.ext (ext_bad (bad' := bad) x) h6 h3, h3, h4, h5.trans (ext_bad x), w.unbar, h7⟩
theorem AccI.push (a : AccI r T bad K e D H1 H2 acc g) (hD : H1 D = none) (hr : r ≠ some D) {y : V} {z : PyData} {fz : List Addr} (x : Ext ⟨r, T, D :: bad⟩ H2 H3) (w : WI ⟨r, T, D :: bad⟩ g' H3) (rz : Rp K H3 y z fz) (nz : nr ⟨r, T, D :: bad⟩ fz) (fr : frs e z = true → fz.Nodup ∧ ∀ p ∈ fz, H2 p = none) :
    ∃ vs, H3 D = some (.lst vs) ∧ vs.length = acc.length ∧ AccI r T bad K e D H1 (upd H3 D (.lst (vs ++ [y]))) (acc ++ [z]) g' := by
  obtain ⟨vs, fp, hD4, hr4, n, hnD, e14, w4, hfr⟩ := a.ex
  have hD5 : H3 D = some (.lst vs) := x.keep D _ hD4 (fun ps z => by cases z) hr
  obtain ⟨nz1, nzD⟩ := nr_unbar nz
  have hr5 := hr4.ext (ext_bad (bad' := bad) x) w4 n
  refine ⟨vs, hD5, hr4.length, vs ++ [y], fp ++ fz, upd_same, ?_, nr_app n nz1, ?_, ?_, ?_, ?_⟩
  · have st : ∀ {b o}, H3 b = some o → (∀ xs, o ≠ .lst xs) → upd H3 D (.lst (vs ++ [y])) b = some o := fun {b o} hbo hne => by
      rw [upd_ne]
      · exact hbo
      · intro hbD
        rw [hbD, hD5] at hbo
        exact hne vs (Option.some.inj hbo).symm
    refine Rps.append (hr5.stay (fun b xs h => st h (fun _ z => by cases z)) (fun b o u h => st h (fun _ z => by cases z)) fun p hp => ?_) (Rps.one (rz.stay (fun b xs h => st h (fun _ z => by cases z)) (fun b o u h => st h (fun _ z => by cases z)) fun p hp => ?_))
    · rw [upd_ne]; exact fun e => hnD (e ▸ hp)
    · rw [upd_ne]; exact fun e => nzD (e ▸ hp)
  · intro hm
    rcases List.mem_append.mp hm with z | z
    · exact hnD z
    · exact nzD z
  · have e15 := e14.trans (ext_bad (bad' := bad) x)
    refine ⟨fun b o hbo hnt hnr => ?_, fun b hb => ?_⟩
    · rw [upd_ne (ne_of_none hbo hD)]
      exact e15.keep b o hbo hnt hnr
    · by_cases hbD : b = D
      · rw [hbD]; exact hD
      · rw [upd_ne hbD] at hb
        exact e15.free b hb
  · have w5' := w.unbar
    refine ⟨fun a ha => ?_, ?_, fun a ha => ?_⟩
    · obtain ⟨n, h1, h2⟩ := w5'.cnt a ha
      refine ⟨n, h1, ?_⟩
      rw [upd_ne]
      · exact h2
      · exact fun e => hr (by rw [← e]; exact ha)
    · exact tabs_upd w5'.tab hD5
    · by_cases haD : a = D
      · rw [haD, upd_same]; exact fun z => by cases z
      · rw [upd_ne haD]; exact w5'.bad a ha
  · intro hall
    rw [List.all_append, Bool.and_eq_true] at hall
    obtain ⟨h1, h2⟩ := hall
    obtain ⟨f1, f2⟩ := hfr h1
    have h2 : (flat z || frs e z) = true := by simpa using h2
    have hz : fz.Nodup ∧ ∀ p ∈ fz, H2 p = none := by
      rw [Bool.or_eq_true] at h2
      rcases h2 with h2 | h2
      · rw [rz.flat h2]; exact ⟨List.nodup_nil, fun _ h => nomatch h⟩
      · exact fr h2
    refine ⟨List.nodup_append.mpr ⟨f1, hz.1, fun a ha b hb e => ?_⟩, fun p hp => ?_⟩
    · obtain ⟨xs, t⟩ := hr4.there a ha
      rw [e, hz.2 b hb] at t; cases t
    · rcases List.mem_append.mp hp with y | y
      · exact f2 p y
      · exact e14.free p (hz.2 p y)
end
/-- the walk over data, under some barred places -/
def TIx (r : Option Addr) (T : List NTab) (K : PySem.W.Frag) (pl : Option Nat) (Φ : Fam) (rg : Bool) (es : List Ex) : TI := fun σ H R => ∃ bad, TIc ⟨r, T, bad⟩ K pl Φ rg es σ H R
section
variable {r : Option Addr} {T : List NTab} {bad : List Addr} {X : Cx} {pl : Option Nat} {Φ : Fam} (M : Φ.Mono)
include M
theorem red_lc2 {own own2 : List Nat} {tg tg2 : Tg} {rg rg2 : Bool} {es es2 : List Ex} {t t2 : Option Ex} {e : Ex} (hin : tgIn own tg = true) (hin2 : tgIn own2 tg2 = true) (hpl : ∀ i, pl = some i → i ∉ own) (hpl2 : ∀ i, pl = some i → i ∉ own2) {σ : L2.St} {H : Hp} {Q : VK}
    (q : TEc ⟨r, T, bad⟩ X.K pl Φ (.lc2 own own2 tg rg es t tg2 rg2 es2 t2 e) σ H Q) :
    tLc2 (TIc ⟨r, T, bad⟩ X.K pl Φ rg es) (TGx r T X.K pl tg) (TOx r T X.K pl Φ t) (TIx r T X.K pl Φ rg2 es2) (TGx r T X.K pl tg2) (TOx r T X.K pl Φ t2) (TEx r T X.K pl Φ e) own own2 σ H Q := by
  obtain ⟨Γ, g, he, hp, w, q⟩ := q
  refine ⟨Γ, g, he, hp, w, wpL_mono M (fun ds g1 q => itK_mono (fun rs q J H1 e1 w1 src srcLen D hD => ?_) q) q⟩
  have he1 := he.ext e1 w
  have hp1 := hp.ext e1
  have hrD : r ≠ some D := fun z => by
    obtain ⟨n, _, y⟩ := w1.cnt D z
    rw [hD] at y; cases y
  refine ⟨fun i m H' => m = rs.length - i ∧ i ≤ rs.length ∧ ∃ acc g', AccI r T bad X.K e D H1 H' acc g' ∧ lc2W _ (rs.drop i) acc g' _,
    ⟨rs.length, by simp, Nat.zero_le _, [], g1, AccI.start hD w1, q⟩, ?_⟩
  rintro i m H' ⟨rfl, hi, acc, g', A, q⟩
  obtain ⟨vs, fp, hD', hr, n, hnD, e2, w2, hfr⟩ := A.ex
  by_cases hlt : i < rs.length
  case neg =>
    have ei : i = rs.length := by omega
    subst ei
    refine .inl ⟨(src.ext e2 w1).stop, ?_⟩
    rw [List.drop_of_length_le (Nat.le_refl _)] at q
    have q : Out ⟨r, T, bad⟩ X.K H g' (.list acc) (frs (.lc2 own own2 tg rg es t tg2 rg2 es2 t2 e) (.list acc) = true) Q := q
    refine q _ _ (D :: fp) (e1.trans e2) w2 (.lst hD' hr) (fun a ha hm => ?_) fun z => ?_
    · rcases List.mem_cons.mp hm with y | y
      · exact cnt_ne w1 hD a ha y
      · exact n a ha y
    · have z : (acc.all fun d => flat d || frs e d) = true := z
      obtain ⟨f1, f2⟩ := hfr z
      refine ⟨List.nodup_cons.mpr ⟨hnD, f1⟩, fun p hp => ?_⟩
      rcases List.mem_cons.mp hp with y | y
      · rw [y]; exact e1.free D hD
      · exact e1.free p (f2 p y)
  case pos =>
    have hd : rs.drop i = rs[i] :: rs.drop (i + 1) := List.drop_eq_getElem_cons hlt
    rw [hd] at q
    refine .inr ⟨(src.ext e2 w1).go hlt, fun H'' => i + 1 ≤ rs.length ∧ ∃ acc g', AccI r T bad X.K e D H1 H'' acc g' ∧ lc2W _ (rs.drop (i + 1)) acc g' _, fun H'' z => ⟨rs.length - (i + 1), by omega, rfl, z⟩, fun x H3 y => ?_⟩
    obtain ⟨v0, fx, rx0, nx, hit⟩ := src.item (List.getElem?_eq_getElem hlt)
    obtain ⟨rfl, rfl⟩ := hit H' (e2.stp w1) x H3 y
    have he3 : EnvR ⟨r, T, D :: bad⟩ X.K σ H3 Γ := he1.bar e2 w1 hD
    have hp3 : EnvP ⟨r, T, D :: bad⟩ pl σ H3 := hp1.bar hD e2
    have w3 : WI ⟨r, T, D :: bad⟩ g' H3 := A.wi
    have nDx : D ∉ fx := fun hm => by
      obtain ⟨xs, z⟩ := rx0.there D hm
      rw [hD] at z; cases z
    have rx := rx0.ext e2 w1 nx
    refine ⟨D :: bad, wipeS Γ own, rs[i], fx, he3.wipe own, hp3.wipe hpl, rx, nr_bar nx nDx, wpTg_mono (fun Γ' q1 σ2 he4 hp4 hw4 => ?_) (show wpTg tg rs[i] (wipeS Γ own) _ from q)⟩
    have hww : L2.wipe σ2 own = L2.wipe σ own := (hw4 own hin).trans (wipe_wipe σ own)
    refine ⟨hww, D :: bad, Γ', g', he4, hp4, w3, wpOT_mono M (fun b g2 q2 H4 e4 w4 => ?_) q1⟩
    have he5 := he4.ext e4 w3
    have hp5 := hp4.ext e4
    have A4 := A.next hrD e4 w4
    cases b with
    | false =>
      rw [if_neg Bool.false_ne_true] at q2
      refine iteF ?_
      exact ⟨by omega, acc, g2, A4, q2⟩
    | true =>
      rw [if_pos rfl] at q2
      refine iteT ?_
      refine ⟨D :: bad, Γ', g2, he5, hp5, w4, wpL_mono M (fun ds2 g4 q => itK_mono (fun rs2 q J1 H5 e5 w5 src2 srcLen2 => ?_) q) q2⟩
      have A5 := A4.next hrD e5 w5
      have he6 := he5.ext e5 w4
      have hp6 := hp5.ext e5
      refine ⟨fun j k H' => k = rs2.length - j ∧ j ≤ rs2.length ∧ ∃ acc g', AccI r T bad X.K e D H1 H' acc g' ∧ StP ⟨r, T, D :: bad⟩ H5 H' ∧ lc2W _ (rs2.drop j) acc g' _,
        ⟨rs2.length, by simp, Nat.zero_le _, acc, g4, A5, StP.refl _ _, q⟩, ?_⟩
      rintro j k H6 ⟨rfl, hj, acc6, g6, A6, st6, q⟩
      by_cases hlt2 : j < rs2.length
      case neg =>
        have ej : j = rs2.length := by omega
        subst ej
        refine .inl ⟨(src2.stp st6).stop, ?_⟩
        rw [List.drop_of_length_le (Nat.le_refl _)] at q
        exact ⟨by omega, acc6, g6, A6, q⟩
      case pos =>
        have hd2 : rs2.drop j = rs2[j] :: rs2.drop (j + 1) := List.drop_eq_getElem_cons hlt2
        rw [hd2] at q
        refine .inr ⟨(src2.stp st6).go hlt2, fun H'' => j + 1 ≤ rs2.length ∧ ∃ acc g', AccI r T bad X.K e D H1 H'' acc g' ∧ StP ⟨r, T, D :: bad⟩ H5 H'' ∧ lc2W _ (rs2.drop (j + 1)) acc g' _, fun H'' z => ⟨rs2.length - (j + 1), by omega, rfl, z⟩, fun x7 H7 y7 => ?_⟩
        obtain ⟨v7, fx7, rx7, nx7, hit7⟩ := src2.item (List.getElem?_eq_getElem hlt2)
        obtain ⟨rfl, rfl⟩ := hit7 H6 st6 x7 H7 y7
        have he7 := he6.stp st6
        have hp7 := hp6.stp st6
        have w7 := A6.wi
        have rx8 := rx7.stp st6 nx7
        refine ⟨D :: bad, wipeS Γ' own2, rs2[j], fx7, he7.wipe own2, hp7.wipe hpl2, rx8, nx7, wpTg_mono (fun Γ2 q1 σ3 he8 hp8 hw8 => ?_) (show wpTg tg2 rs2[j] (wipeS Γ' own2) _ from q)⟩
        have hww2 : L2.wipe σ3 own2 = L2.wipe σ2 own2 := (hw8 own2 hin2).trans (wipe_wipe σ2 own2)
        refine ⟨hww2, D :: bad, Γ2, g6, he8, hp8, w7, wpOT_mono M (fun b g8 q2 H8 e8 w8 => ?_) q1⟩
        have he9 := he8.ext e8 w7
        have hp9 := hp8.ext e8
        have A8 := A6.next hrD e8 w8
        have st8 := st6.trans (e8.stp w7)
        cases b with
        | false =>
          rw [if_neg Bool.false_ne_true] at q2
          refine iteF ?_
          exact ⟨by omega, acc6, g8, A8, st8, q2⟩
        | true =>
          rw [if_pos rfl] at q2
          refine iteT ?_
          refine ⟨D :: bad, Γ2, g8, he9, hp9, w8, wpE_mono M (fun z g9 q3 y9 H9 fz e9 w9 rz nz fz' => ?_) q2⟩
          obtain ⟨vs9, hD9, hl9, A9⟩ := A8.push hD hrD e9 w9 rz nz fz'
          have hb : big ≤ sizeLine := by rw [sizeLine_eq]; decide
          refine ⟨vs9, hD9, by rw [hl9]; exact Nat.lt_of_lt_of_le q3.1 hb, by omega, acc6 ++ [z], g9, A9, ?_, q3.2⟩
          exact (st8.trans (e9.stp w8)).trans (StP.write hD9 List.mem_cons_self)
variable {C : Mc}
theorem s_lc2 (G : Good Φ T C X) {own own2 : List Nat} {tg tg2 : Tg} {rg rg2 : Bool} {es es2 : List Ex} {t t2 : Option Ex} {e : Ex} {elt tg' it tg2' it2 : Expr} {ifs ifs2 : List Expr} {scope : Scope} {pos : Pos}
    (hi : ∀ bad, PI X tg' it (TIc ⟨r, T, bad⟩ X.K C.pl Φ rg es)) (hb : blkC C.N C.sc scope (ownOf C.N own) = true) (hsub : ∀ i ∈ own2, i ∈ own) (hin : tgIn own tg = true) (hin2 : tgIn own2 tg2 = true) (hpl : ∀ i, C.pl = some i → i ∉ own) (hs : noSet it = true) (hs2 : noSet it2 = true)
    (hg : ∀ X', Good Φ T { C with sc := relS scope C.sc, blk := true } X' → ∀ P, PG X' tg' (TGc P X'.K C.pl tg))
    (ht : ∀ X', Good Φ T { C with sc := relS scope C.sc, blk := true } X' → PTs X' ifs (TOx r T X'.K C.pl Φ t))
    (hi2 : ∀ X', Good Φ T { C with sc := relS scope C.sc, blk := true } X' → ∀ bad, PI X' tg2' it2 (TIc ⟨r, T, bad⟩ X'.K C.pl Φ rg2 es2))
    (hg2 : ∀ X', Good Φ T { C with sc := relS scope C.sc, blk := true } X' → ∀ P, PG X' tg2' (TGc P X'.K C.pl tg2))
    (ht2 : ∀ X', Good Φ T { C with sc := relS scope C.sc, blk := true } X' → PTs X' ifs2 (TOx r T X'.K C.pl Φ t2))
    (he : ∀ X', Good Φ T { C with sc := relS scope C.sc, blk := true } X' → Snd r T C.pl Φ X' e elt) : Snd r T C.pl Φ X (.lc2 own own2 tg rg es t tg2 rg2 es2 t2 e) (.ListComp elt [⟨tg', it, ifs, 0⟩, ⟨tg2', it2, ifs2, 0⟩] scope pos) := by
  refine mk_plain M (fun bad => ?_) rfl fun _ _ _ q => q
  have fo : ∀ env x, foldedSetIterable it env x = pure x := fun env x => by
    cases it <;> first | rfl | (simp [noSet] at hs; done)
  have fo2 : ∀ env x, foldedSetIterable it2 env x = pure x := fun env x => by
    cases it2 <;> first | rfl | (simp [noSet] at hs2; done)
  have := pe_lc2 (tg := tg') (ifs := ifs) (g := TGx r T X.K C.pl tg) (tt := TOx r T X.K C.pl Φ t) (tg1 := tg2') (ifs1 := ifs2) (g1 := TGx r T X.K C.pl tg2) (tt1 := TOx r T X.K C.pl Φ t2) (te := TEx r T X.K C.pl Φ e) (wi1 := TIx r T X.K C.pl Φ rg2 es2) (vs1 := own2) (own := ownOf C.N own) G.calm (by rw [G.N]; exact G.nd) (hi bad) (by rw [G.N, G.sc]; exact blkOk_by hb)
    (by rw [own_snd]; exact hsub) (fun s H L cl fp => PGx (r := r) (T := T) (hg _ (G.blkG s H scope cl L fp))) (fun s H L cl fp => ht _ (G.blkG s H scope cl L fp))
    (fun s H L cl fp => ⟨fun pins s σ H Q I q => by
      obtain ⟨bad, q⟩ := q
      exact (hi2 _ (G.blkG _ _ scope cl L fp) bad).run pins s σ H Q I q⟩)
    (fun s H L cl fp => PGx (r := r) (T := T) (hg2 _ (G.blkG s H scope cl L fp))) (fun s H L cl fp => ht2 _ (G.blkG s H scope cl L fp))
    (fun s H L cl fp => PEx (C := { C with sc := relS scope C.sc, blk := true }) (he _ (G.blkG s H scope cl L fp))) (fo _) fo2 (elt := elt) (pos := pos)
  rw [own_snd] at this
  exact PE.weak this fun σ H Q q => red_lc2 M hin hin2 hpl (fun i h z => hpl i h (hsub i z)) q
end
end W3
namespace W3
open PySem PySem.Calls PyProof.Rows PySem.W PySem.SeqAt
section
variable {prog : Program} {w : World} {A : Around} {E : Value → Shared → Prop} {s : Shared}
/-- a tuple before a tuple, asked as keys of one type are -/
theorem oneLt_tup {xs ys : List PyData} {a b : Value} {as bs : List Addr} {Q : Bool → Shared → Prop} (ra : Reads s.heap a (.tuple xs) as) (rb : Reads s.heap b (.tuple ys) bs) (hal : alike (.tuple xs) (.tuple ys) = true)
    (room : A.units + min (PyData.tuple xs).depth (PyData.tuple ys).depth < cLine) (q : Q (dataLt (.tuple xs) (.tuple ys)) s) : wpAny (model prog w) A (oneLt' true a b) Q E s := by
  have hxy : alikeAll xs ys = true := by simpa [alike] using hal
  cases ra with
  | @tuple l o vs n _ _ a1 a2 a3 a4 =>
    cases rb with
    | @tuple l' o' vs' n' _ _ b1 b2 b3 b4 =>
      have s1 : vs.size = xs.length := by simpa using ReadsAll.length _ _ _ a4
      have s2 : vs'.size = ys.length := by simpa using ReadsAll.length _ _ _ b4
      rw [dataLt_tuple, ← firstLt_toks xs ys hxy, ← s1, ← s2] at q
      rw [oneLt'_eq]; simp only [if_true]
      refine wpAny_bind (wpAny_cRoomFor (room_here room) ?_)
      obtain ⟨c1, d1, t1, sl1⟩ := o
      obtain ⟨c2, d2, t2, sl2⟩ := o'
      simp only at a2 a3 b2 b3
      subst a2 a3 b2 b3
      refine wpAny_bind (wpAny_callSpecialIfBound?_slot (T := "tuple") ⟨_, a1, rfl⟩ F.slot_tuple_lt ?_)
      refine call_meets F.slot_tuple_lt ⟨_, a1, rfl⟩ F.entry_tuple_lt (F.args_tuple_lt_2 _ _) (tuple_ltAt l l' vs vs' n n' d1 d2 sl1 sl2 (pairEq xs ys) fun j => dataLt (xs.getD j .none) (ys.getD j .none)) ⟨a1, b1, fun j j1 j2 => ?_, fun j j1 j2 hj => ?_, ?_⟩
      · have t1 := eqAt_alikeAll xs ys A.in1 s vs.toList vs'.toList _ _ a4 b4 hxy (SeqAt.room_in room) j (by simpa using j1) (by simpa using j2)
        simpa using t1
      · have t2 := rcLt_alikeAll xs ys A.in1 s vs.toList vs'.toList _ _ a4 b4 hxy (SeqAt.room_in room) j (by simpa using j1) (by simpa using j2) hj
        simpa using t2
      · exact wpAny_truthy_bool q
/-- is it a tuple with an item? -/
def full : PyData → Bool
  | .tuple (_ :: _) => true
  | _ => false
theorem mix_firsts {M : Model} : ∀ {vs : List Value} {ds : List PyData}, EachIs (fun v d => ∃ as, Reads s.heap v d as) vs ds → (∀ d ∈ ds, ∃ xs, d = .tuple xs) → ∀ {Q : List (Option Value) → Shared → Prop},
    (∀ fs : List (Option Value), fs.map Option.isSome = ds.map full → Q fs s) → wpAny M A (vs.mapM firstOfTuple') Q E s
  | _, _, .nil, _, Q, k => by rw [List.mapM_nil]; exact wpAny_pure (k [] rfl)
  | v :: vs, d :: ds, .cons hd tl, ht, Q, k => by
    obtain ⟨as, r⟩ := hd
    obtain ⟨xs, rfl⟩ := ht _ List.mem_cons_self
    rw [List.mapM_cons, kas_first_eq]
    cases r with
    | @tuple a o ys n _ _ a1 a2 a3 a4 =>
      refine wpAny_bind (wpAny_bind (Looks.here (show Looks M s.heap (typeOf (.ref a)) o.cls from (Looks.ld a1).andThen .now) ?_))
      rw [a2, if_neg (by first | decide | simp)]
      refine wpAny_bind (listItems_at a1 a3 (wpAny_pure ?_))
      have hl : ys.size = xs.length := by simpa using ReadsAll.length _ _ _ a4
      refine wpAny_bind (mix_firsts tl (fun d hd => ht d (List.mem_cons_of_mem _ hd)) fun fs hfs => wpAny_pure (k _ ?_))
      rw [List.map_cons, List.map_cons, hfs]
      congr 1
      cases xs with
      | nil =>
        have hz : ys.size = 0 := hl
        rw [Array.getElem?_eq_none (by omega)]; rfl
      | cons x xs =>
        have h0 : 0 < ys.size := by rw [hl]; simp
        rw [Array.getElem?_eq_getElem h0]; rfl
theorem mix_kind {M : Model} {vs : List Value} {d : PyData} {ds : List PyData} {Q : SortKind → Shared → Prop} (e : EachIs (fun v d => ∃ as, Reads s.heap v d as) vs (d :: ds)) (ht : ∀ z ∈ d :: ds, ∃ xs, z = .tuple xs) (hno : (d :: ds).all full = false)
    (q : Q (if full d = true then general' else oneType') s) : wpAny M A (keyKind' vs.toArray) Q E s := by
  rw [keyKind'_eq, List.mapM_toArray, map_eq_pure_bind]
  refine wpAny_bind (wpAny_bind (mix_firsts e ht fun fs hfs => wpAny_pure ?_))
  have n1 : ¬ (fs.toArray.all fun x => x.isSome) = true := by
    intro z
    have z : fs.all (fun x => x.isSome) = true := by simpa using z
    have : (fs.map Option.isSome).all id = true := by rw [List.all_map]; exact z
    rw [hfs, List.all_map] at this
    have : (d :: ds).all full = true := this
    rw [hno] at this; cases this
  rw [if_neg n1]
  obtain ⟨f, fr, rfl⟩ : ∃ f fr, fs = f :: fr := by
    cases fs with
    | nil => simp at hfs
    | cons f fr => exact ⟨f, fr, rfl⟩
  have hf : f.isSome = full d := (List.cons.inj hfs).1
  have h0 : (((f :: fr).toArray[0]?).bind id).isSome = full d := by
    rw [← hf]; simp
  rw [h0]
  cases hfd : full d with
  | true =>
    rw [hfd] at q
    rw [if_pos rfl] at q ⊢
    exact wpAny_pure q
  | false =>
    rw [hfd] at q
    rw [if_neg Bool.false_ne_true] at q ⊢
    have hv : ∀ v ∈ vs, Looks M s.heap (typeOf v) (Value.type "tuple") := fun v hv => by
      obtain ⟨z, hz, as, r⟩ := e.left v hv
      obtain ⟨xs, rfl⟩ := ht z hz
      exact looks_reads r
    obtain ⟨v, vr, rfl⟩ : ∃ v vr, vs = v :: vr := by
      cases e with
      | cons => exact ⟨_, _, rfl⟩
    rw [oneTypeOnly'_eq, List.mapM_toArray, map_eq_pure_bind]
    refine wpAny_bind (wpAny_bind (wpAny_bind (kas_mapM (r := Value.type "tuple") _ (fun u hu Q' hq => (hv u hu).here hq) (wpAny_pure ?_))))
    have e0 : (List.map (fun _ => Value.type "tuple") (v :: vr)).toArray[0]? = some (Value.type "tuple") := by simp
    have ea : ((List.map (fun _ => Value.type "tuple") (v :: vr)).toArray.all fun x => x == Value.type "tuple") = true := by
      simp only [List.all_toArray, List.all_map, List.all_eq_true]
      intro _ _
      exact beq_self_eq_true _
    rw [e0]
    simp only [ea, if_true]
    exact wpAny_pure (wpAny_pure q)
/-- tuples can be sorted, empty ones too -/
theorem sorts_mix {vs : List Value} {ds : List PyData} (e : EachIs (fun v d => ∃ as, Reads s.heap v d as) vs ds) (hal : AllAlike ds) (hk : Sortable ds ∨ ∀ d ∈ ds, ∃ xs, d = .tuple xs) (hu : ∀ d, d ∈ ds → A.units + d.depth < cLine) : SortsAt prog w A s (dataKind s.heap ds) vs := by
  rcases hk with hk | ht
  · exact SortsAt.data e hal hk hu
  by_cases hno : ds.all full = true
  · refine SortsAt.data e hal (.inl fun d hd => ?_) hu
    obtain ⟨xs, rfl⟩ := ht d hd
    have := List.all_eq_true.mp hno _ hd
    cases xs with
    | nil => cases this
    | cons x r => exact ⟨x, r, rfl⟩
  have hno : ds.all full = false := by simpa using hno
  refine ⟨fun v hv => ?_, ?_⟩
  · obtain ⟨d, hd, as, r⟩ := e.left v hv
    exact ⟨_, dataKind_some hal hd r⟩
  cases ds with
  | nil => cases hno
  | cons d ds =>
    have lt : ∀ (b : Bool) (E : Value → Shared → Prop) (x y : Value) (k l : (dataKind s.heap (d :: ds)).α) {Q : Bool → Shared → Prop}, (dataKind s.heap (d :: ds)).keyOf x = some k → (dataKind s.heap (d :: ds)).keyOf y = some l →
        Q ((dataKind s.heap (d :: ds)).blt k l) s → wpAny (model prog w) A (oneLt' b x y) Q E s := by
      intro b E x y k l Q hx hy hq
      obtain ⟨d1, as, m1, r1, rfl⟩ := dataKind_inv hx
      obtain ⟨d2, as', m2, r2, rfl⟩ := dataKind_inv hy
      have al := hal d1 m1 d2 m2
      have room : A.units + min d1.depth d2.depth < cLine := Nat.lt_of_le_of_lt (Nat.add_le_add_left (Nat.min_le_left _ _) _) (hu d1 m1)
      obtain ⟨xs, rfl⟩ := ht d1 m1
      obtain ⟨ys, rfl⟩ := ht d2 m2
      cases b with
      | true => exact oneLt_tup r1 r2 al room hq
      | false => exact oneLt_alike (fun z => by cases z) r1 r2 al (fun z => by cases z) room hq
    refine ⟨if full d = true then general' else oneType', ?_, fun h2 E Q hq => mix_kind e ht hno hq⟩
    by_cases hf : full d = true
    · rw [if_pos hf]
      exact fun E x y k l Q hx hy hq => lt false E x y k l hx hy hq
    · rw [if_neg hf]
      exact fun E x y k l Q hx hy hq => lt true E x y k l hx hy hq
end
end W3
namespace W3
open PySem PySem.Calls PyProof.Rows PySem.W PySem.SeqAt
section
variable {prog : Program} {w : World} {A : Around} {E : Value → Shared → Prop} {s : Shared}
/-- the heap behind the collecting of x's items -/
abbrev colHeap (h : Heap) (vs : List Value) : Heap := (h.push (seqObj "list" #[] 0)).update h.objs.size (Obj.mapSeq (· ++ vs.toArray))
theorem collect_seq {x : Addr} {T : String} {o : Obj} {vs : List Value} {n : Nat} {Q : List Value → Shared → Prop} (hT : T = "list" ∨ T = "tuple") (ho : s.heap.get? x = some o) (hc : o.cls = .type T) (hd : o.data = .seq vs.toArray n) (hz : vs.length ≤ sizeLine)
    (q : Q vs { s with heap := colHeap s.heap vs }) : wpAny (model prog w) A (collect (.ref x)) Q E s := by
  unfold collect
  have p1 : (s.heap.push (seqObj "list" #[] 0)).get? s.heap.objs.size = some (seqObj "list" #[] 0) := Heap.get?_push_size _ rfl
  have z' : vs.toArray.size ≤ sizeLine := by rw [List.size_toArray]; exact hz
  refine wpAny_bind (wpAny_runValue (codeAny_builtin F.entry_proto_collect ?_)); rw [Around.under_plainId F.plain_proto_collect _]
  show wpAny _ A.in1 (newList [] >>= fun k => again (.builtin "list.__iadd__" ⟨[k, .ref x], []⟩)) _ _ s
  refine wpAny_bind (wpAny_newObj_type (wpAny_pure ⟨plainId_quiet F.plain_list_iadd _, codeAny_builtin F.entry_list_iadd ?_⟩)); rw [Around.under_plainId F.plain_list_iadd _]
  show wpAny _ A.in1 (Builtin.List.listExtendWith (.ref s.heap.objs.size) (.ref x) (.ref s.heap.objs.size)) _ _ { s with heap := s.heap.push (seqObj "list" #[] 0) }
  have done : wpAny (model prog w) A (match Value.ref s.heap.objs.size with
      | Value.ref a => do match (← load a).data with | Data.seq ys _ => pure ys.toList | _ => unsupported "internal:collect"
      | _ => unsupported "internal:collect") Q E { s with heap := colHeap s.heap vs } := by
    refine wpAny_bind (wpAny_load (Heap.get?_update_self (Obj.mapSeq (· ++ vs.toArray)) p1 rfl) (wpAny_pure ?_))
    have ev : ((#[] : Array Value) ++ vs.toArray).toList = vs := by simp
    show Q ((#[] : Array Value) ++ vs.toArray).toList _
    rw [ev]; exact q
  refine wpAny_mono (wpAny_extend_seq (A := A) (hsz := z') (R := fun r t => r = .ok (.ret (.ref s.heap.objs.size)) ∧ t = { s with heap := colHeap s.heap vs }) (s := { s with heap := s.heap.push (seqObj "list" #[] 0) }) _ x _ 0 hT p1 (Heap.get?_push_of_some _ ho) hc hd ⟨rfl, rfl⟩) (fun k t e => ?_) fun k t e => absurd e.1 (by simp)
  cases k with
  | done f => obtain ⟨e1, rfl⟩ := e; cases e1; exact done
  | again c => exact ⟨e.1, codeAny_mono e.2 fun r t e2 => by obtain ⟨rfl, rfl⟩ := e2; exact done⟩
/-- sorted is the sorting of a new list -/
theorem sorted_new {x : Addr} {T : String} {o : Obj} {vs : List Value} {n : Nat} {kw : List (Str × Value)} {Q : Value → Shared → Prop} (hT : T = "list" ∨ T = "tuple") (ho : s.heap.get? x = some o) (hc : o.cls = .type T) (hd : o.data = .seq vs.toArray n) (hz : vs.length ≤ sizeLine)
    (k1 : argsOk "sorted" ⟨[.ref x], kw⟩) (k2 : ∀ y, argsOk "list.sort" ⟨[.ref y], kw⟩)
    (run : ∀ E' : Value → Shared → Prop, wpAny (model prog w) A.in1.in1 (Builtin.«list.sort» ⟨[.ref (s.heap.objs.size + 1)], kw⟩) (fun f t => f = .done (.ret .none) ∧ Q (.ref (s.heap.objs.size + 1)) t) E' { s with heap := copyHeap s.heap vs }) :
    wpAny (model prog w) A (call (.builtin "sorted") [.ref x] kw) Q E s := by
  refine call_function_entry_kw kind_sorted plain_sorted entry_sorted k1 ?_; unfold Builtin.«sorted»
  refine wpAny_bind (m := checkCount "sorted" 1 1 _) (wpAny_pure (wpAny_bind (collect_seq hT ho hc hd hz (wpAny_bind (wpAny_newList ?_ hz)))))
  have n1 : (colHeap s.heap vs).objs.size = s.heap.objs.size + 1 := by rw [Heap.size_update, size_push']
  show wpAny _ _ _ _ _ { s with heap := copyHeap s.heap vs }; rw [n1]
  refine wpAny_bind (wpAny_holding (wpAny_call_entry_kw slot_list_sort ⟨_, copyHeap_at s.heap vs, rfl⟩ entry_list_sort ?_ (k2 _)))
  show wpAny (model prog w) A.in1.in1 (Builtin.«list.sort» _) _ _ _
  exact wpAny_mono (run _) (fun f t e => ⟨_, e.1, wpAny_pure ⟨_, rfl, e.2⟩⟩) fun _ _ e => e
variable {β : Type} {vs : List Value} {bs : List β} {enc : β → PyData} {R : Value → β → Prop}
theorem srt_room (hu : ∀ b, b ∈ bs → A.units + 2 + (enc b).depth < cLine) : ∀ d, d ∈ bs.map enc → A.in1.in1.units + d.depth < cLine := by
  intro d hd
  obtain ⟨b, hb, rfl⟩ := List.mem_map.mp hd
  exact hu b hb
/-- sorted(x) of data; downwards, too -/
theorem sorted_dat {x : Addr} {T : String} {o : Obj} {n : Nat} {Q : Value → Shared → Prop} (b : Bool) (kw : List (Str × Value)) (hkw : kw = [] ∧ b = false ∨ kw = [(Str.ofString "reverse", .bool b)]) (hT : T = "list" ∨ T = "tuple") (ho : s.heap.get? x = some o) (hc : o.cls = .type T) (hd : o.data = .seq vs.toArray n)
    (e : EachIs R vs bs) (er : EachIs (fun v b => ∃ as, Reads s.heap v (enc b) as) vs bs) (hal : AllAlike (bs.map enc)) (hk : Sortable (bs.map enc) ∨ ∀ d ∈ bs.map enc, ∃ xs, d = .tuple xs) (hL : bs.length ≤ sizeLine)
    (hu : ∀ b, b ∈ bs → A.units + 2 + (enc b).depth < cLine) (h : ∀ out, out.length = bs.length → EachIs R out (bs.mergeSort (dataLe b enc)) → Q (.ref (s.heap.objs.size + 1)) { s with heap := sortedAll s.heap vs out.toArray }) :
    wpAny (model prog w) A (call (.builtin "sorted") [.ref x] kw) Q E s := by
  have er2 : EachIs (fun v b => ∃ as, Reads (sortingHeap (copyHeap s.heap vs) (s.heap.objs.size + 1) vs) v (enc b) as) vs bs := er.mono fun _ _ ⟨as, r⟩ => ⟨as, PyProof.Rows.Reads.keeps (fun _ _ => sorting_copy_old) r⟩
  have S : SortsAt prog w A.in1.in1 { s with heap := sortingHeap (copyHeap s.heap vs) (s.heap.objs.size + 1) vs } (dataKind (sortingHeap (copyHeap s.heap vs) (s.heap.objs.size + 1) vs) (bs.map enc)) vs :=
    sorts_mix (s := { s with heap := sortingHeap (copyHeap s.heap vs) (s.heap.objs.size + 1) vs }) (each_map (R := fun v d => ∃ as, Reads (sortingHeap (copyHeap s.heap vs) (s.heap.objs.size + 1) vs) v d as) enc er2) hal hk (srt_room hu)
  have hz : vs.length ≤ sizeLine := by rw [e.length]; exact hL
  have q := h _ (by rw [sortVals_length b rfl]; exact e.length) (sortVals_data b e er2 hal)
  rcases hkw with ⟨rfl, rfl⟩ | rfl
  · exact sorted_new hT ho hc hd hz (args_sorted1 _) (fun _ => args_list_sort _) fun E' => list_sort_vals (s := { s with heap := copyHeap s.heap vs }) (copyHeap_at s.heap vs) S hz ⟨rfl, q⟩
  · exact sorted_new hT ho hc hd hz (args_sorted_rev _ _) (fun _ => args_list_sort_rev _ _) fun E' => list_sort_rev_vals (s := { s with heap := copyHeap s.heap vs }) (copyHeap_at s.heap vs) S hz ⟨rfl, q⟩
end
end W3
namespace W3
open PySem PySem.Spec PyProof.Rows L2 NdefX LamX
open PySem.W (alike dataLt AllAlike Sortable dataLe AlikeAll minD maxD EachIs)
section
variable {X : Cx} {P : Pw} {K : PySem.W.Frag} {H : Hp}
theorem each_of {pins : List (Addr × Obj)} {σ : L2.St} {s : Shared} (I : Inv X pins σ H s) : ∀ {vs : List V} {ds : List PyData} {fp : List Addr} {its : List Value}, Rps X.K H vs ds fp → Vals vs its →
    EachIs (fun (u : Value) (b : V × PyData) => RelV b.1 u ∧ (∃ as, Reads s.heap u b.2 as) ∧ ∃ f, Rp X.K H b.1 b.2 f ∧ ∀ a ∈ f, a ∈ fp) its (vs.zip ds)
  | [], _, _, its, .nil, hv => by cases hv; exact .nil
  | v :: vs, _, _, its, .cons (f1 := f1) (f2 := f2) h hs, hv => by
    cases hv with
    | cons r rr =>
      refine .cons ⟨r, h.reads I r, f1, h, fun a ha => List.mem_append_left _ ha⟩ ((each_of I hs rr).mono fun u b z => ⟨z.1, z.2.1, ?_⟩)
      obtain ⟨f, h1, h2⟩ := z.2.2
      exact ⟨f, h1, fun a ha => List.mem_append_right _ (h2 a ha)⟩
theorem of_each {fp : List Addr} {R : Value → Prop} : ∀ {its : List Value} {bs : List (V × PyData)}, EachIs (fun (u : Value) (b : V × PyData) => RelV b.1 u ∧ R u ∧ ∃ f, Rp K H b.1 b.2 f ∧ ∀ a ∈ f, a ∈ fp) its bs →
    Vals (bs.map Prod.fst) its ∧ ∃ f, Rps K H (bs.map Prod.fst) (bs.map Prod.snd) f ∧ ∀ a ∈ f, a ∈ fp
  | [], [], _ => ⟨.nil, [], .nil, fun _ h => nomatch h⟩
  | u :: us, b :: bs, h => by
    cases h with
    | cons h hs =>
      obtain ⟨h1, f2, h2, h3⟩ := of_each hs
      obtain ⟨r, _, f1, h4, h5⟩ := h
      exact ⟨.cons r h1, f1 ++ f2, .cons h4 h2, fun a ha => (List.mem_append.mp ha).elim (h5 a) (h3 a)⟩
  | [], _ :: _, h => nomatch h
  | _ :: _, [], h => nomatch h
theorem seq_obj {pins : List (Addr × Obj)} {σ : L2.St} {s : Shared} {a : Addr} {vs : List V} {d : D} {ds : List D} {fp f : List Addr} (I : Inv X pins σ H s) (hv : d = .list ds ∧ H a = some (.lst vs) ∧ fp = a :: f ∨ d = .tuple ds ∧ SqT X.K H a vs ∧ fp = f) :
    ∃ (its : List Value) (T : String) (o : Obj) (k : Nat), Vals vs its ∧ vs.length ≤ sizeLine ∧ (T = "list" ∨ T = "tuple") ∧ s.heap.get? a = some o ∧ o.cls = .type T ∧ o.data = .seq its.toArray k := by
  rcases hv with ⟨_, h, _⟩ | ⟨_, h, _⟩
  · obtain ⟨its, rv, ⟨o, k, e1, e2, _, e3⟩, hz⟩ := I.list (SqL.of h)
    exact ⟨its, "list", o, k, rv, hz, .inl rfl, e1, e2, e3⟩
  · obtain ⟨its, rv, ⟨o, e1, e2, k, e3⟩, hz⟩ := I.tuple h
    exact ⟨its, "tuple", o, k, rv, hz, .inr rfl, e1, e2, e3⟩
theorem cb_srt (hc : X.calm = true) (hu : X.A.units + 100 < cLine) : CallR X (.builtin "sorted") (rB P X.K .srt) := by
  intro pins s σ H xs us Q I r h
  obtain ⟨x, d, fd, g, rfl, hd, nd, w, q⟩ := h
  obtain ⟨a, vs, ds, f, rfl, hv, hs, q⟩ := rp_seq hd q
  have nf := nr_of hv nd
  rw [Vals.ref1 r]
  obtain ⟨⟨⟨ha, hk⟩, hsh⟩, q⟩ := q
  obtain ⟨its, T, o, k, rv, hz, hT, ho, hcl, hdt⟩ := seq_obj I hv
  have hlen := hs.length
  have E := each_of I hs rv
  have esnd : (vs.zip ds).map Prod.snd = ds := List.map_snd_zip (by omega)
  have hbl : (vs.zip ds).length = vs.length := by rw [List.length_zip]; omega
  refine sorted_dat (bs := vs.zip ds) (enc := Prod.snd) false [] (.inl ⟨rfl, rfl⟩) hT ho hcl hdt E (E.mono fun u b z => z.2.1) (by rw [esnd]; exact ha) (by rw [esnd]; exact hk) (by rw [hbl]; exact hz) (fun b hb => ?_) fun out ho eo => ?_
  · have hm : b.2 ∈ ds := by rw [← esnd]; exact List.mem_map.mpr ⟨b, hb, rfl⟩
    have := hsh _ hm
    unfold shp at this
    omega
  · obtain ⟨e1, f', e2, e3⟩ := of_each (K := X.K) (H := H) (fp := f) (R := fun u => ∃ b : V × PyData, True) (eo.mono fun u b z => ⟨z.1, ⟨b, trivial⟩, z.2.2⟩)
    have es : ((vs.zip ds).mergeSort (dataLe false Prod.snd)).map Prod.snd = sortD false ds := by
      unfold sortD
      rw [List.map_mergeSort (f := Prod.snd) (l := vs.zip ds) (r := dataLe false Prod.snd) (s := dataLe false fun d => d) (fun _ _ _ _ => rfl), esnd]
    obtain ⟨ep, he'⟩ := PyProof.Rows.sortedAll_at s.heap its out.toArray
    have ol : (((vs.zip ds).mergeSort (dataLe false Prod.snd)).map Prod.fst).length ≤ sizeLine := by
      rw [List.length_map, List.length_mergeSort, hbl]; exact hz
    refine ⟨.ref _, upd H (s.heap.objs.size + 1) (.lst (((vs.zip ds).mergeSort (dataLe false Prod.snd)).map Prod.fst)), I.laid (t' := s.toks) (fun _ _ => PyProof.Rows.sortedAll_old) (Nat.le_succ _) ⟨ol, out, ep, e1, he'⟩, rfl, ?_⟩
    exact Out.newF w e2 (fun a hb hm => nf a hb (e3 a hm)) (I.hok.fresh (Nat.le_succ _)) (by rw [es]; exact q)
end
theorem vName_eq {e : Expr} {x : Str} (h : vName e = some x) : ∃ p, e = .Name x p := by
  unfold vName at h; split at h
  · cases h; exact ⟨_, rfl⟩
  · cases h
theorem vConst_eq {e : Expr} {x : Const} (h : vConst e = some x) : ∃ j p, e = .Constant x j p := by
  unfold vConst at h; split at h
  · cases h; exact ⟨_, _, rfl⟩
  · cases h
theorem vBin_eq {e : Expr} {o : Operator} {a b : Expr} (h : vBin e = some (o, a, b)) : ∃ p, e = .BinOp a o b p := by
  unfold vBin at h; split at h
  · cases h; exact ⟨_, rfl⟩
  · cases h
theorem vCmp_eq {e : Expr} {o : CmpOp} {a b : Expr} (h : vCmp e = some (o, a, b)) : ∃ p, e = .Compare a [o] [b] p := by
  unfold vCmp at h; split at h
  · cases h; exact ⟨_, rfl⟩
  · cases h
theorem vCmp2_eq {e : Expr} {o o2 : CmpOp} {a b c : Expr} (h : vCmp2 e = some (o, o2, a, b, c)) : ∃ p, e = .Compare a [o, o2] [b, c] p := by
  unfold vCmp2 at h; split at h
  · cases h; exact ⟨_, rfl⟩
  · cases h
theorem vUn_eq {e : Expr} {o : UnaryOp} {a : Expr} (h : vUn e = some (o, a)) : ∃ p, e = .UnaryOp o a p := by
  unfold vUn at h; split at h
  · cases h; exact ⟨_, rfl⟩
  · cases h
theorem vBool_eq {e : Expr} {o : BoolOp} {a b : Expr} (h : vBool e = some (o, a, b)) : (∃ p, e = .BoolOp o [a, b] p) ∨ ∃ b' c r p, e = .BoolOp o (a :: b' :: c :: r) p ∧ b = .BoolOp o (b' :: c :: r) p := by
  unfold vBool at h; split at h
  · cases h; exact .inl ⟨_, rfl⟩
  · cases h; exact .inr ⟨_, _, _, _, rfl, rfl⟩
  · cases h
theorem vIf_eq {e c a b : Expr} (h : vIf e = some (c, a, b)) : ∃ p, e = .IfExp c a b p := by
  unfold vIf at h; split at h
  · cases h; exact ⟨_, rfl⟩
  · cases h
theorem vTup_eq {e : Expr} {es : List Expr} (h : vTup e = some es) : ∃ k p, e = .Tuple es k p := by
  unfold vTup at h; split at h
  · cases h; exact ⟨_, _, rfl⟩
  · cases h
theorem vLst_eq {e : Expr} {es : List Expr} (h : vLst e = some es) : ∃ p, e = .List es p := by
  unfold vLst at h; split at h
  · cases h; exact ⟨_, rfl⟩
  · cases h
theorem vSlice_eq {e a : Expr} {lo hi : Option Expr} (h : vSlice e = some (a, lo, hi)) : ∃ p2 p, e = .Subscript a (.Slice lo hi none p2) p := by
  unfold vSlice at h; split at h
  · cases h; exact ⟨_, _, rfl⟩
  · cases h
theorem vSub_eq {e a b : Expr} (h : vSub e = some (a, b)) : ∃ p, e = .Subscript a b p := by
  unfold vSub at h; split at h
  · cases h; exact ⟨_, rfl⟩
  · cases h
theorem vCall_eq {e : Expr} {f : Str} {es : List Expr} (h : vCall e = some (f, es)) : ∃ p2 p, e = .Call (.Name f p2) es [] p := by
  unfold vCall at h; split at h
  · cases h; exact ⟨_, _, rfl⟩
  · cases h
theorem rngE_eq {e : Expr} {es : List Expr} (h : rngE e = some es) : ∃ p2 p, e = .Call (.Name "range" p2) es [] p := by
  unfold rngE at h; split at h
  · split at h
    · rename_i hf; subst hf; cases h; exact ⟨_, _, rfl⟩
    · cases h
  · cases h
theorem vComp1_eq {e elt tg it : Expr} {ifs : List Expr} {sc : Scope} (h : vComp1 e = some (elt, tg, it, ifs, sc)) : ∃ p, e = .ListComp elt [⟨tg, it, ifs, 0⟩] sc p := by
  unfold vComp1 at h; split at h
  · cases h; exact ⟨_, rfl⟩
  · cases h
theorem vComp2_eq {e elt tg it tg2 it2 : Expr} {ifs ifs2 : List Expr} {sc : Scope} (h : vComp2 e = some (elt, (tg, it, ifs), (tg2, it2, ifs2), sc)) : ∃ p, e = .ListComp elt [⟨tg, it, ifs, 0⟩, ⟨tg2, it2, ifs2, 0⟩] sc p := by
  unfold vComp2 at h; split at h
  · cases h; exact ⟨_, rfl⟩
  · cases h
theorem isAnd_eq {o : BoolOp} : (isAnd o = true → o = .And) ∧ ((!isAnd o) = true → o = .Or) := by cases o <;> simp [isAnd]
theorem isUS_eq {o : UnaryOp} (h : isUS o = true) : o = .USub := by cases o <;> simp [isUS] at h ⊢
theorem isNotU_eq {o : UnaryOp} (h : isNotU o = true) : o = .Not := by cases o <;> simp [isNotU] at h ⊢
theorem vB1_eq {b : B1} {e a : Expr} {f : Str} {g : Option Str} (h : vB1 b e = some (f, g, a)) :
    (b = .sset ∧ f = "sorted" ∧ g = some (Str.ofString "set") ∧ ∃ p1 p2 p3 p4, e = .Call (.Name "sorted" p1) [.Call (.Name "set" p2) [a] [] p3] [] p4) ∨
    (b = .lset ∧ f = "len" ∧ g = some (Str.ofString "set") ∧ ∃ p1 p2 p3 p4, e = .Call (.Name "len" p1) [.Call (.Name "set" p2) [a] [] p3] [] p4) ∨
    (b = .srt ∧ f = "sorted" ∧ g = none ∧ ∃ p1 p2, e = .Call (.Name "sorted" p1) [a] [] p2) ∨
    (b1N b = some f ∧ g = none ∧ ∃ p1 p2, e = .Call (.Name f p1) [a] [] p2) := by
  unfold vB1 at h
  split at h
  · rename_i f' a' hc
    obtain ⟨p1, p2, rfl⟩ := vCall_eq hc
    split at h
    · split at h
      · rename_i hf
        split at h
        · rename_i h' a'' hc'
          split at h
          · rename_i hh
            obtain ⟨p3, p4, rfl⟩ := vCall_eq hc'
            cases h; subst hf hh
            exact .inl ⟨rfl, rfl, rfl, _, _, _, _, rfl⟩
          · cases h
        · cases h
      · cases h
    · split at h
      · rename_i hf
        split at h
        · rename_i h' a'' hc'
          split at h
          · rename_i hh
            obtain ⟨p3, p4, rfl⟩ := vCall_eq hc'
            cases h; subst hf hh
            exact .inr (.inl ⟨rfl, rfl, rfl, _, _, _, _, rfl⟩)
          · cases h
        · cases h
      · cases h
    · split at h
      · rename_i hf
        cases h; subst hf
        exact .inr (.inr (.inl ⟨rfl, rfl, rfl, _, _, rfl⟩))
      · cases h
    · split at h
      · rename_i hf
        cases h
        exact .inr (.inr (.inr ⟨hf, rfl, _, _, rfl⟩))
      · cases h
  · cases h
section
variable {r : Option Addr} {T : List NTab} {Φ : Fam} (M : Φ.Mono)
include M
theorem s_srt {C : Mc} {X : Cx} (G : Good Φ T C X) {a : Ex} {a' : Expr} {p pos : Pos} (hg : glB C.sc "sorted" = true) (hs : noStar a' = true) (ha : Snd r T C.pl Φ X a a') : Snd r T C.pl Φ X (.b1 .srt a) (.Call (.Name "sorted" p) [a'] [] pos) := by
  have na : starEach [a'] X.env = (false, eval a' X.env) :: starEach [] X.env := star_cons hs
  refine mk_plain M (fun bad => PE.weak (t := fun σ H Q => TEc ⟨r, T, bad⟩ X.K C.pl Φ a σ H fun v H1 => rB ⟨r, T, bad⟩ X.K .srt [v] H1 Q) ?_ fun σ H Q q => red_b1 M q) rfl fun _ _ _ q => q
  exact pe_callB (cb_srt G.calm G.hu) (G.gl hg) (G.bi _ (by decide +kernel)) (by decide +kernel) (pa_cons (ha.pe bad) pa_nil na) (he := na) (hpl := rfl)
omit M in
theorem pa_nil_c {C : Mc} {X : Cx} {P : Pw} : PA X [] (TLc P X.K C.pl Φ []) := PA.weak pa_nil fun σ H Q q => by
  obtain ⟨Γ, g, he, hp, w, q⟩ := q
  exact q [] H [] (Ext.refl _ _) w .nil nr_nil fun _ => ⟨List.nodup_nil, fun _ h => nomatch h⟩
theorem pa_cons_c {C : Mc} {X : Cx} {P : Pw} {c : Ex} {cs : List Ex} {e : Expr} {es : List Expr} (hs : noStar e = true) (h : PE X e (TEc P X.K C.pl Φ c)) (hl : PA X es (TLc P X.K C.pl Φ cs)) : PA X (e :: es) (TLc P X.K C.pl Φ (c :: cs)) := PA.weak (pa_cons h hl (star_cons hs)) fun σ H Q q => by
  obtain ⟨Γ, g, he, hp, w, q⟩ := q
  refine stepE M he hp w q fun x g1 v H1 f1 e1 w1 r1 n1 fr1 he1 hp1 q1 => ?_
  refine stepL M he1 hp1 w1 q1 fun ds g2 vs H2 f2 e2 w2 r2 n2 fr2 he2 hp2 q2 => ?_
  refine q2 (v :: vs) H2 (f1 ++ f2) (e1.trans e2) w2 (.cons (r1.ext e2 w1 n1) r2) (nr_app n1 n2) fun z => ?_
  have z : ((flat x || frs c x) && frsL cs ds) = true := z
  rw [Bool.and_eq_true, Bool.or_eq_true] at z
  obtain ⟨z1, z2⟩ := z
  obtain ⟨d2, k2⟩ := fr2 z2
  have h1 : f1.Nodup ∧ ∀ p ∈ f1, H p = none := by
    rcases z1 with z1 | z1
    · rw [r1.flat z1]; exact ⟨List.nodup_nil, fun _ h => nomatch h⟩
    · exact fr1 z1
  refine ⟨List.nodup_append.mpr ⟨h1.1, d2, fun a ha b hb e => ?_⟩, fun p hp => ?_⟩
  · obtain ⟨xs, t⟩ := r1.there a ha
    rw [e, k2 b hb] at t; cases t
  · exact (List.mem_append.mp hp).elim (h1.2 p) fun h => e1.free p (k2 p h)
/-- a part of a slice -/
def TOi (P : Pw) (K : PySem.W.Frag) (pl : Option Nat) (Φ : Fam) (lo : Option Ex) : TO := fun σ H Q => ∃ Γ g, EnvR P K σ H Γ ∧ EnvP P pl σ H ∧ WI P g H ∧ wpO Φ lo Γ g fun o g' => ∀ H', Ext P H H' → WI P g' H' → Q o H'
/-- each text does what its code says -/
def AllS (r : Option Addr) (T : List NTab) (pl : Option Nat) (Φ : Fam) (X : Cx) : List Ex → List Expr → Prop
  | [], [] => True
  | c :: cs, e :: es => (noStar e = true ∧ Snd r T pl Φ X c e) ∧ AllS r T pl Φ X cs es
  | _, _ => False
omit M in
theorem rps_rg {K : PySem.W.Frag} {H : Hp} (a : Int) : ∀ (n : Nat) (f : Nat → Int), (∀ i, f i = a + (i : Nat)) → Rps K H ((List.range n).map fun i => V.int (a + (i : Nat))) ((List.range n).map fun k => PyData.int (f k)) [] := by
  intro n f hf
  have h : ∀ l : List Nat, Rps K H (l.map fun i => V.int (a + (i : Nat))) (l.map fun k => PyData.int (f k)) [] := by
    intro l
    induction l with
    | nil => exact .nil
    | cons i l ih =>
      refine .cons (f1 := []) (f2 := []) ?_ ih
      show Rp K H (V.int (a + (i : Nat))) (.int (f i)) []
      rw [hf i]
      exact .int _
  exact h _
omit M in
theorem rg_le {i j : Int} (h1 : lim62 i) (h2 : lim62 j) : RgOk i j := by
  obtain ⟨a1, a2⟩ := h1
  obtain ⟨b1, b2⟩ := h2
  exact ⟨by omega, by omega, by omega, by omega, by omega⟩
theorem s_rl {C : Mc} {X : Cx} (G : Good Φ T C X) {tp : Bool} {es : List Ex} {es' : List Expr} {f : Str} {p p2 p3 pos : Pos} (hf : f = if tp = true then ("tuple" : Str) else "list") (hg : glB C.sc f = true) (hg2 : glB C.sc "range" = true) (hl : es'.length = 1 ∨ es'.length = 2) (hA : AllS r T C.pl Φ X es es') :
    Snd r T C.pl Φ X (.rl tp es) (.Call (.Name f p) [.Call (.Name "range" p2) es' [] p3] [] pos) := by
  have key : ∀ bad, ∃ te, PRg X (.Call (.Name "range" p2) es' [] p3) te ∧ ∀ σ H Q, TEc ⟨r, T, bad⟩ X.K C.pl Φ (.rl tp es) σ H Q → te σ H fun a b H1 => RgOk a b ∧ ∀ q, H1 q = none → Q (.ref q) (upd H1 q (if tp = true then .tup (rgV a b) else .lst (rgV a b))) := by
    intro bad
    have fin : ∀ (σ : L2.St) (H : Hp) (Q : VK) (g : Nat) (H1 : Hp) (a b : Int) (rs : List D), Ext ⟨r, T, bad⟩ H H1 → WI ⟨r, T, bad⟩ g H1 → Rps X.K H1 (rgV a b) rs [] → Out ⟨r, T, bad⟩ X.K H g (if tp = true then .tuple rs else .list rs) (frs (.rl tp es) (if tp = true then .tuple rs else .list rs) = true) Q → ∀ q, H1 q = none → Q (.ref q) (upd H1 q (if tp = true then .tup (rgV a b) else .lst (rgV a b))) := by
      intro σ H Q g H1 a b rs e1 w1 hr hq q hn
      cases tp with
      | true => exact Out.newT w1 hr nr_nil hn (fun _ => ⟨List.nodup_nil, fun _ h => nomatch h⟩) (Out.up e1 hq)
      | false => exact Out.newL w1 hr nr_nil hn (fun _ => ⟨List.nodup_nil, fun _ h => nomatch h⟩) (fun _ h => nomatch h) (Out.up e1 hq)
    match es, es', hl, hA with
    | [c], [e], _, hA =>
      refine ⟨_, prg_1 (G.gl hg2) (G.bi _ (by decide +kernel)) (hA.1.2.pe bad) (star_cons hA.1.1), fun σ H Q q => ?_⟩
      obtain ⟨Γ, g, he, hp, w, q⟩ := q
      refine stepE M he hp w q fun x g1 v H1 f1 e1 w1 r1 n1 _ he1 hp1 q1 => ?_
      cases r1 with
      | int j =>
        obtain ⟨h1, q1⟩ := q1
        refine ⟨j, rfl, rg_le ⟨by decide, by decide⟩ h1, fin σ H Q g1 H1 0 j _ e1 w1 ?_ q1⟩
        have := rps_rg (K := X.K) (H := H1) 0 (j - 0).toNat (fun k => (k : Nat)) fun i => by simp
        rw [Int.sub_zero] at this
        unfold rgV
        rw [Int.sub_zero]
        exact this
      | _ => exact False.elim q1
    | [c, c2], [e, e2], _, hA =>
      refine ⟨_, prg_2 (G.gl hg2) (G.bi _ (by decide +kernel)) (hA.1.2.pe bad) (hA.2.1.2.pe bad) (star_cons hA.1.1) (star_cons hA.2.1.1) (backTo_any (nostar_all (by simp [hA.2.1.1]))), fun σ H Q q => ?_⟩
      obtain ⟨Γ, g, he, hp, w, q⟩ := q
      refine stepE M he hp w q fun x g1 v H1 f1 e1 w1 r1 n1 _ he1 hp1 q1 => ?_
      refine stepE M he1 hp1 w1 q1 fun y g2 u H2 f2 e2 w2 r2 n2 _ he2 hp2 q2 => ?_
      cases r1 with
      | int i =>
        cases r2 with
        | int j =>
          obtain ⟨⟨h1, h2⟩, q2⟩ := q2
          exact ⟨i, j, rfl, rfl, rg_le h1 h2, fin σ H Q g2 H2 i j _ (e1.trans e2) w2 (rps_rg (K := X.K) (H := H2) i (j - i).toNat (fun k => i + (k : Nat)) fun _ => rfl) q2⟩
        | _ => exact False.elim q2
      | str => cases y <;> exact False.elim q2
      | _ => exact False.elim q2
    | [], [], h, _ => simp at h
    | [], _ :: _, _, hA => exact hA.elim
    | _ :: _, [], h, _ => simp at h
    | [_], _ :: _ :: _, _, hA => simp [AllS] at hA
    | _ :: _ :: _, [_], _, hA => simp [AllS] at hA
    | _ :: _ :: _ :: _, [_, _], _, hA => simp [AllS] at hA
    | _, _ :: _ :: _ :: _, h, _ => simp at h
  refine mk_plain M (fun bad => ?_) rfl fun _ _ _ q => q
  obtain ⟨te, hp, hq⟩ := key bad
  subst hf
  cases tp with
  | true => exact PE.weak (pe_tupRg G.calm (G.gl hg) (G.bi _ (by decide +kernel)) hp (star_cons rfl)) hq
  | false => exact PE.weak (pe_listRg G.calm (G.gl hg) (G.bi _ (by decide +kernel)) hp (star_cons rfl)) hq
end
end W3
namespace W3
open PySem
theorem runs_one {M : Model} {Γ : Ctx} {p : Pos} {t : Sem Fin} {fs : List Frame} {s : Shared} {e : End} {s1 : Shared} (h : Runs M Γ p t fs s e s1) : ∀ {e' : End} {s2 : Shared}, Runs M Γ p t fs s e' s2 → e = e' ∧ s1 = s2 := by
  induction h with
  | done => intro e' s2 h2; cases h2; exact ⟨rfl, rfl⟩
  | raise => intro e' s2 h2; cases h2; exact ⟨rfl, rfl⟩
  | again _ _ ih => intro e' s2 h2; cases h2; rename_i h; exact ih h
  | rule _ ih => intro e' s2 h2; cases h2; rename_i h; exact ih h
  | «at» _ ih => intro e' s2 h2; cases h2; rename_i h; exact ih h
  | load ho _ ih => intro e' s2 h2; cases h2; rename_i ho' h; rw [ho] at ho'; cases ho'; exact ih h
  | update _ _ ih => intro e' s2 h2; cases h2; rename_i h; exact ih h
  | loadIfAlive _ ih => intro e' s2 h2; cases h2; rename_i h; exact ih h
  | point _ ih => intro e' s2 h2; cases h2; rename_i h; exact ih h
  | alloc _ ih => intro e' s2 h2; cases h2; rename_i h; exact ih h
  | fresh _ ih => intro e' s2 h2; cases h2; rename_i h; exact ih h
  | ask _ ih => intro e' s2 h2; cases h2; rename_i h; exact ih h
  | choose _ _ ih => intro e' s2 h2; cases h2; rename_i h; exact ih h
  | os _ ih => intro e' s2 h2; cases h2; rename_i h; exact ih h
  | handled _ ih => intro e' s2 h2; cases h2; rename_i h; exact ih h
  | genState hg _ ih => intro e' s2 h2; cases h2; rename_i hg' h; rw [hg] at hg'; cases hg'; exact ih h
  | stack _ ih => intro e' s2 h2; cases h2; rename_i h; exact ih h
  | thread _ ih => intro e' s2 h2; cases h2; rename_i h; exact ih h
  | newGen _ ih => intro e' s2 h2; cases h2; rename_i h; exact ih h
  | call _ _ ih1 ih2 =>
    intro e' s2 h2
    cases h2 with
    | call a b =>
      obtain ⟨e1, e2⟩ := ih1 a
      cases e1; cases e2
      exact ih2 b
    | callSusp a =>
      obtain ⟨e1, e2⟩ := ih1 a
      cases e1
  | callSusp _ ih1 =>
    intro e' s2 h2
    cases h2 with
    | call a b =>
      obtain ⟨e1, e2⟩ := ih1 a
      cases e1
    | callSusp a =>
      obtain ⟨e1, e2⟩ := ih1 a
      cases e1; cases e2
      exact ⟨rfl, rfl⟩
  | yield => intro e' s2 h2; cases h2; exact ⟨rfl, rfl⟩
  | resumeFresh hg _ _ _ ih1 ih2 =>
    intro e' s2 h2
    cases h2 with
    | resumeFresh g a _ b =>
      rw [hg] at g; cases g
      obtain ⟨e1, e2⟩ := ih1 a
      cases e1; cases e2
      exact ih2 b
    | resumeSuspended g => rw [hg] at g; cases g
    | resumeJustStarted g n => exact absurd rfl n
    | resumeRunning g => rw [hg] at g; cases g
    | resumeFinished g => rw [hg] at g; cases g
  | resumeSuspended hg _ _ _ ih1 ih2 =>
    intro e' s2 h2
    cases h2 with
    | resumeFresh g => rw [hg] at g; cases g
    | resumeSuspended g a _ b =>
      rw [hg] at g; cases g
      obtain ⟨e1, e2⟩ := ih1 a
      cases e1; cases e2
      exact ih2 b
    | resumeJustStarted g n => rw [hg] at g; cases g
    | resumeThrowFresh g => rw [hg] at g; cases g
    | resumeRunning g => rw [hg] at g; cases g
    | resumeFinished g => rw [hg] at g; cases g
  | resumeJustStarted hg hn _ ih =>
    intro e' s2 h2
    cases h2 with
    | resumeFresh => exact absurd rfl hn
    | resumeSuspended g => rw [hg] at g; cases g
    | resumeJustStarted _ _ b => exact ih b
    | resumeRunning g => rw [hg] at g; cases g
    | resumeFinished g => rw [hg] at g; cases g
  | resumeThrowFresh hg _ ih =>
    intro e' s2 h2
    cases h2 with
    | resumeSuspended g => rw [hg] at g; cases g
    | resumeThrowFresh _ b => exact ih b
    | resumeRunning g => rw [hg] at g; cases g
    | resumeFinished g => rw [hg] at g; cases g
  | resumeRunning hg _ ih =>
    intro e' s2 h2
    cases h2 with
    | resumeFresh g => rw [hg] at g; cases g
    | resumeSuspended g => rw [hg] at g; cases g
    | resumeJustStarted g => rw [hg] at g; cases g
    | resumeThrowFresh g => rw [hg] at g; cases g
    | resumeRunning _ b => exact ih b
    | resumeFinished g => rw [hg] at g; cases g
  | resumeFinished hg _ ih =>
    intro e' s2 h2
    cases h2 with
    | resumeFresh g => rw [hg] at g; cases g
    | resumeSuspended g => rw [hg] at g; cases g
    | resumeJustStarted g => rw [hg] at g; cases g
    | resumeThrowFresh g => rw [hg] at g; cases g
    | resumeRunning g => rw [hg] at g; cases g
    | resumeFinished _ b => exact ih b
  | segRet _ _ ih1 ih2 =>
    intro e' s2 h2
    cases h2 with
    | segRet a b =>
      obtain ⟨e1, e2⟩ := ih1 a
      cases e1; cases e2
      exact ih2 b
    | segSuspOut _ a =>
      obtain ⟨e1, e2⟩ := ih1 a
      cases e1
    | segSuspGen _ a =>
      obtain ⟨e1, e2⟩ := ih1 a
      cases e1
  | segGen _ _ ih1 ih2 =>
    intro e' s2 h2
    cases h2 with
    | segGen a b =>
      obtain ⟨e1, e2⟩ := ih1 a
      cases e1; cases e2
      exact ih2 b
    | segSuspOut _ a =>
      obtain ⟨e1, e2⟩ := ih1 a
      cases e1
    | segSuspGen _ a =>
      obtain ⟨e1, e2⟩ := ih1 a
      cases e1
  | segSuspOut hn _ ih1 =>
    intro e' s2 h2
    cases h2 with
    | segRet a b =>
      obtain ⟨e1, e2⟩ := ih1 a
      cases e1
    | segGen a b =>
      obtain ⟨e1, e2⟩ := ih1 a
      cases e1
    | segSuspOut _ a =>
      obtain ⟨e1, e2⟩ := ih1 a
      cases e1; cases e2
      exact ⟨rfl, rfl⟩
    | segSuspGen n _ => rw [hn] at n; cases n
  | segSuspGen hn _ _ _ ih1 ih2 =>
    intro e' s2 h2
    cases h2 with
    | segRet a b =>
      obtain ⟨e1, e2⟩ := ih1 a
      cases e1
    | segGen a b =>
      obtain ⟨e1, e2⟩ := ih1 a
      cases e1
    | segSuspOut n _ => rw [hn] at n; cases n
    | segSuspGen n a _ b =>
      rw [hn] at n; cases n
      obtain ⟨e1, e2⟩ := ih1 a
      cases e1; cases e2
      exact ih2 b
theorem wakes_one {M : Model} {Γ : Ctx} {p : Pos} {g : Nat} {r : Resume} {s : Shared} {a b : GenResult} {s1 s2 : Shared} (h : Wakes M Γ p g r s a s1) (k : Wakes M Γ p g r s b s2) : a = b ∧ s1 = s2 := by
  unfold Wakes at h k
  split at h
  · exact h.elim
  · rename_i hg
    rw [hg] at k
    simp only at h k
    cases r with
    | throw x => exact ⟨h.1.trans k.1.symm, h.2.trans k.2.symm⟩
    | send v =>
      cases v
      case none =>
        obtain ⟨e1, t1, r1, _, rfl, rfl⟩ := h
        obtain ⟨e2, t2, r2, _, rfl, rfl⟩ := k
        obtain ⟨rfl, rfl⟩ := runs_one r1 r2
        exact ⟨rfl, rfl⟩
      all_goals exact ⟨h.1.trans k.1.symm, h.2.trans k.2.symm⟩
  · rename_i hg
    rw [hg] at k
    obtain ⟨e1, t1, r1, _, rfl, rfl⟩ := h
    obtain ⟨e2, t2, r2, _, rfl, rfl⟩ := k
    obtain ⟨rfl, rfl⟩ := runs_one r1 r2
    exact ⟨rfl, rfl⟩
  · rename_i hg
    rw [hg] at k
    exact ⟨h.1.trans k.1.symm, h.2.trans k.2.symm⟩
  · rename_i hg
    rw [hg] at k
    exact ⟨h.1.trans k.1.symm, h.2.trans k.2.symm⟩
theorem wp_all {ι : Type} [Nonempty ι] {α : Type} {M : Model} {Γ : Ctx} : ∀ (t : Sem α) {Q : ι → α → Pos → Shared → Prop} {E : ι → Value → Pos → Shared → Prop} {p : Pos} {s : Shared}, (∀ i, Sem.wp M Γ t (Q i) (E i) p s) → Sem.wp M Γ t (fun a p s => ∀ i, Q i a p s) (fun e p s => ∀ i, E i e p s) p s := by
  intro t
  induction t with
  | load a part k ih =>
    intro Q E p s h
    obtain ⟨o, ho, _⟩ := h (Classical.choice ‹Nonempty ι›)
    refine ⟨o, ho, ih o fun i => ?_⟩
    obtain ⟨o', ho', w⟩ := h i
    rw [ho] at ho'; cases ho'
    exact w
  | update a part f k ih => intro Q E p s h; exact ⟨(h (Classical.choice ‹Nonempty ι›)).1, ih () fun i => (h i).2⟩
  | choose src n k ih => intro Q E p s h; exact ⟨(h (Classical.choice ‹Nonempty ι›)).1, ih _ fun i => (h i).2⟩
  | call c hd g l k ih =>
    intro Q E p s h
    obtain ⟨r, s', hr, _⟩ := h (Classical.choice ‹Nonempty ι›)
    refine ⟨r, s', hr, ih r fun i => ?_⟩
    obtain ⟨r2, s2, hr2, w⟩ := h i
    obtain ⟨e1, rfl⟩ := runs_one hr hr2
    cases e1
    exact w
  | genState g k ih =>
    intro Q E p s h
    obtain ⟨st, hs, _⟩ := h (Classical.choice ‹Nonempty ι›)
    refine ⟨st, hs, ih _ fun i => ?_⟩
    obtain ⟨st', hs', w⟩ := h i
    rw [hs] at hs'; cases hs'
    exact w
  | resume g r l k ih =>
    intro Q E p s h
    obtain ⟨res, s', hr, _⟩ := h (Classical.choice ‹Nonempty ι›)
    refine ⟨res, s', hr, ih res fun i => ?_⟩
    obtain ⟨r2, s2, hr2, w⟩ := h i
    obtain ⟨rfl, rfl⟩ := wakes_one hr hr2
    exact w
  | pure a => intro Q E p s h; exact h
  | raise e => intro Q E p s h; exact h
  | unsupported w => intro Q E p s h; exact h (Classical.choice ‹Nonempty ι›)
  | finish e => intro Q E p s h; exact h (Classical.choice ‹Nonempty ι›)
  | register a k ih => intro Q E p s h; exact h (Classical.choice ‹Nonempty ι›)
  | yield v g l k ih => intro Q E p s h; exact h (Classical.choice ‹Nonempty ι›)
  | fork c k ih => intro Q E p s h; exact h (Classical.choice ‹Nonempty ι›)
  | await a f d l k ih => intro Q E p s h; exact h (Classical.choice ‹Nonempty ι›)
  | _ => intro Q E p s h; rename_i ih; exact ih _ h
theorem wpAny_all {ι : Type} [Nonempty ι] {α : Type} {M : Model} {A : Around} {t : Sem α} {Q : ι → α → Shared → Prop} {s : Shared} (h : ∀ i, wpAny M A t (Q i) (fun _ _ => False) s) : wpAny M A t (fun a s => ∀ i, Q i a s) (fun _ _ => False) s := by
  intro Γ p hΓ
  have := wp_all (E := fun _ _ _ _ => False) t fun i => h i Γ p hΓ
  have i0 : ι := Classical.choice ‹Nonempty ι›
  exact Sem.wp_mono _ _ _ (fun _ _ _ z => z) (fun _ _ _ z => z i0) _ _ this
end W3
namespace W3
open PySem PySem.Spec PyProof.Rows L2 NdefX LamX
/-- its parameter x, captured names, globals -/
structure LamP (sc scope : Scope) (x : Str) : Prop where
  kind : scope.kind = .function
  co : scope.isCoroutine = false
  gen : scope.isGenerator = false
  own : ∀ y ∈ scope.names, y.2 ≠ .cell ∧ (y.2 = .local → y.1 = x)
  par : scope.names.lookup x = some .local
  free : ∀ y ∈ scope.names, y.2 = .free → sc.names.lookup y.1 = some .cell ∨ sc.names.lookup y.1 = some .free
theorem lamP_by {sc scope : Scope} {x : Str} (h : lamPB sc scope x = true) : LamP sc scope x := by
  unfold lamPB at h
  simp only [Bool.and_eq_true, Bool.or_eq_true, Bool.not_eq_true', decide_eq_true_eq, decide_eq_false_iff_not, List.all_eq_true] at h
  obtain ⟨⟨⟨⟨a1, a2⟩, a3⟩, a4⟩, a5⟩ := h
  refine ⟨a1, a2, a3, fun y hy => ⟨(a5 y hy).1.1, fun z => (a5 y hy).1.2.resolve_left fun n => n z⟩, a4, fun y hy z => ?_⟩
  rcases (a5 y hy).2 with (n | n) | n
  · exact absurd z n
  · exact .inl n
  · exact .inr n
theorem LamP.has {X : Cx} {scope : Scope} {x : Str} (L : LamP X.env.scope scope x) (ok : X.Ok) : ∀ y ∈ scope.names, y.2 = .free → ∃ c, X.env.cells.lookup y.1 = some c := fun y hy e => by
  rcases L.free y hy e with k | k
  · exact ok.has _ (.inl k)
  · exact ok.has _ (.inr k)
section
variable {X : Cx} {pins : List (Addr × Obj)} {σ : L2.St} {H : Hp} {s : Shared}
theorem lam_in {A : Around} {scope : Scope} {f c' : Addr} {h₁ : Heap} {tk : Nat} {x : Str} {i : Nat} {v : V} {u : Value} (I : Inv X pins σ H s) (L : LamP X.env.scope scope x) (hA : A.frames = some X.stack) (hd : A.handled = none) (hN : X.N[i]? = some x) (nd : X.N.Nodup) (rv : RelV v u)
    (hns : h₁.Ns s.heap.objs.size fun y => ([(x, u)] : List (Str × Value)).reverse.lookup y) (kp : ∀ b o, s.heap.get? b = some o → h₁.get? b = some o) :
    Inv (lamCx X A X.stack s H (fun _ _ _ => False) scope f c') [] (σ.set i (some v)) H { s with heap := h₁, toks := tk } := by
  have e0 := I.env0
  have hfree := L.has I.ok
  have back : ∀ {y c}, (cloFrom X.env.cells scope.names []).lookup y = some c → X.env.cells.lookup y = some c := fun {y c} e => by
    rcases cloFrom_mem (PySem.mem_of_lookup e) with hm | ⟨h1, h2⟩
    · cases hm
    · obtain ⟨c1, hc⟩ := hfree _ h1 rfl
      rw [show X.env.cells.lookup y = some c1 from hc] at h2 ⊢
      first | exact h2.symm | (rw [h2]; rfl) | simp_all
  have fwd : ∀ {y}, scope.names.lookup y = some .free → ∃ c, (cloFrom X.env.cells scope.names []).lookup y = some c := fun {y} hl =>
    mem_lookup (cloFrom_has (cells := X.env.cells) (acc := []) (PySem.mem_of_lookup hl))
  have cellK : ∀ {c : Addr} {v : Option Value}, s.heap.IsCell c v → h₁.IsCell c v := fun {c v} ⟨o, ho, hd⟩ => ⟨o, kp _ _ ho, hd⟩
  have noE : ∀ b : Addr, b ∉ (lamCx X A X.stack s H (fun _ _ _ => False) scope f c').ex := fun b z => absurd (show b ∈ ([] : List Addr) from z) (by simp)
  refine ⟨⟨e0.mod, L.kind, rfl, rfl, Nat.le_refl _, fun y z c e1 e2 => I.ok.inj y z c (back e1) (back e2), fun y hy => ?_, fun y c z _ => ?_, fun _ => hd, Around.frames_deeper hA, .inr ⟨rfl, rfl⟩, fun b z => absurd z (noE b), e0.bs, e0.bsz, fun b _ _ => noE b,
      fun b z => absurd z (noE b), e0.funs, e0.frf⟩,
    rfl, e0.bare, Un.kept kp, ⟨_, hns, fun j y w e1 e2 e3 => ?_⟩, fun y c e => ?_, e0.hok.fresh (Nat.le_refl _), fun y c e => ?_, fun q hq => absurd (show q ∈ ([] : List (Addr × Obj)) ++ [] from hq) (by simp), e0.hok.kept kp, by rw [List.length_set]; exact I.len⟩
  · have hy : scope.names.lookup y = some .cell ∨ scope.names.lookup y = some .free := hy
    rcases hy with hy | hy
    · exact absurd rfl (L.own _ (PySem.mem_of_lookup hy)).1
    · exact fwd hy
  · have z : false = true := z
    cases z
  · have e3 : Vis scope y := e3
    have e1 : X.N[j]? = some y := e1
    by_cases hj : j = i
    · subst hj
      rw [hN] at e1
      cases e1
      have hl : j < σ.length := by
        rcases Nat.lt_or_ge j σ.length with z | z
        · exact z
        · rw [List.getElem?_eq_none (by rw [List.length_set]; exact z)] at e2; cases e2
      rw [List.getElem?_set_self hl] at e2
      cases e2
      exact ⟨u, rv, .inl ⟨L.par, by simp [List.lookup]⟩⟩
    · rw [List.getElem?_set_ne (Ne.symm hj)] at e2
      rcases e3 with k | k | k
      · have : y = x := (L.own _ (PySem.mem_of_lookup k)).2 rfl
        subst this
        obtain ⟨l1, q1⟩ := List.getElem?_eq_some_iff.mp e1
        obtain ⟨l2, q2⟩ := List.getElem?_eq_some_iff.mp hN
        exact absurd ((List.getElem_inj nd).mp (q1.trans q2.symm)) hj
      · exact absurd rfl (L.own _ (PySem.mem_of_lookup k)).1
      · obtain ⟨m, hn, hl⟩ := I.loc
        have hvis : Vis X.env.scope y := (L.free _ (PySem.mem_of_lookup k) rfl).elim (fun k => .inr (.inl k)) (fun k => .inr (.inr k))
        obtain ⟨w', r, q⟩ := hl j y w e1 e2 hvis
        obtain ⟨c2, h2⟩ := fwd k
        refine ⟨w', r, .inr ⟨.inr k, c2, h2, ?_⟩⟩
        have c1 := back h2
        rcases q with ⟨k', _⟩ | ⟨_, c3, e', z⟩
        · have k' : X.env.scope.names.lookup y = some .local := k'
          rcases L.free _ (PySem.mem_of_lookup k) rfl with k2 | k2 <;> rw [show X.env.scope.names.lookup y = _ from k2] at k' <;> cases k'
        · rw [c1] at e'
          cases e'
          exact cellK z
  · obtain ⟨w', z⟩ := I.cell y c (back e)
    exact ⟨w', cellK z⟩
  · exact I.freeC y c (back e)
/-- the lambda is made; which places are new -/
theorem lam_new {LT : List (Addr × Str)} {c P : Addr} {params : Arguments} {body : Expr} {scope : Scope} {pos : Pos} {E : Value → Shared → Prop} {Q : Value → Shared → Prop} (I : Inv X pins σ H s) (TB : TabB X.base X.mg c P) (hcode : X.env.code = .ref c) (hm : (P, X.env.qual ++ "<lambda>") ∈ LT)
    (hu : ∀ p ∈ LT, p.1 = P → p.2 = X.env.qual ++ "<lambda>") (hT : Tabs LT H) (hdef : defaultsOf params X.env = ([], [])) (hfree : ∀ y ∈ scope.names, y.2 = .free → ∃ c, X.env.cells.lookup y.1 = some c)
    (h : ∀ (f c' : Addr) (pm ctv : Value) (G : Hp) (s' : Shared), Inv X pins σ G s' → ExtN H G → (∀ b, G b = none → H b = none) → Tabs LT G → s'.heap.get? f = some (PySem.W.kla_obj "<lambda>" (X.env.qual ++ "<lambda>") params body scope (cloFrom X.env.cells scope.names []) pm c' ctv) →
      G f = none → f ∉ L2.frs X.stack → G c' = some (CodeO c' (X.env.qual ++ "<lambda>")) → Q (.ref f) s') : wpAny (model X.prog X.w) X.A (eval (.Lambda params body scope pos) X.env) Q E s := by
  obtain ⟨ps, tP, tok, among⟩ := hT _ hm
  have tP : H P = some (.tbl ps) := tP
  have among : ∀ (pos : Pos) (cv : Value), codeAmong pos ps.toList = some cv → ∃ d, cv = .ref d ∧ H d = some (CodeO d (X.env.qual ++ "<lambda>")) := among
  have hp0 : s.heap.get? P = some { cls := .none, data := .fields ps } := I.hok P _ tP
  have outer : ∀ f, s.heap.objs.size ≤ f → f ∉ L2.frs X.stack := fun f hf z => (List.mem_cons.mp (I.stkSub _ z)).elim (fun e => Nat.lt_irrefl _ (Nat.lt_of_lt_of_le (e ▸ I.lt) hf)) fun e => I.nofs hf e
  refine PySem.W.kla_eval hdef ?_
  cases hc : codeAmong pos ps.toList with
  | some cv =>
    obtain ⟨c', rfl, hco⟩ := among pos cv hc
    refine PySem.W.kla_makeFunctionHit (mg := X.mg) (c := c) (P := P) (ps := ps) (closure_ok hfree) I.ok.glob (I.mod.glob.keeps I.bk) hcode (TB.code.keeps I.bk) hp0 tok hc (TB.bm.keeps I.bk) fun ctv h' tk hx hsz => ?_
    exact h h'.objs.size c' _ ctv H _ (I.kept fun b o e => Heap.get?_push_of_some _ (hx b o e)) (ExtN.refl H) (fun _ e => e) hT (Heap.get?_push_size _ rfl) (I.hok.fresh hsz) (outer _ hsz) hco
  | none =>
    refine PySem.W.kla_makeFunction (mg := X.mg) (c := c) (P := P) (ps := ps) (closure_ok hfree) I.ok.glob (I.mod.glob.keeps I.bk) hcode (TB.code.keeps I.bk) hp0 tok hc TB.gP (TB.bm.keeps I.bk) fun c' ctv h' tk hx hge hlt hrec htb => ?_
    obtain ⟨_, oc, vs, t, e2, hoc, hd, hv⟩ := hrec; cases e2
    have grow : s.heap.objs.size ≤ h'.objs.size := Nat.le_trans hge (Nat.le_of_lt hlt)
    have fresh : H c' = none := I.hok.fresh hge
    generalize hmore : (#[rawInt pos.line, rawInt pos.col, .ref c'] : Array Value) = more at htb
    have J := inv_table (t' := tk) (more := more) (h' := h'.push (PySem.W.kla_obj "<lambda>" (X.env.qual ++ "<lambda>") params body scope (cloFrom X.env.cells scope.names []) ((X.mg "__name__").getD .none) c' ctv)) I tP
      (fun b o hb e => Heap.get?_push_of_some _ (hx b o hb e)) (Heap.get?_push_of_some _ htb) hge ⟨oc, vs, t, Heap.get?_push_of_some _ hoc, hd, hv⟩
    have ex : ExtN H (upd (upd H P (.tbl (ps ++ more))) c' (CodeO c' (X.env.qual ++ "<lambda>"))) := fun b o e n => by
      rw [upd_ne (ne_of_none e fresh), upd_ne fun z => n ps (Option.some.inj (e.symm.trans (by rw [z]; exact tP)))]; exact e
    have eL : (ps ++ more).toList = ps.toList ++ [rawInt pos.line, rawInt pos.col, .ref c'] := by rw [← hmore]; simp
    refine h h'.objs.size c' _ ctv _ _ J ex (fun b e => upd_none (upd_none e)) (fun p hp => ?_) (Heap.get?_push_size _ rfl) ?_ (outer _ grow) upd_same
    · by_cases hb : p.1 = P
      · rw [hu p hp hb, hb]
        refine ⟨_, by rw [upd_ne (ne_of_none tP fresh), upd_same], by rw [eL]; exact PySem.TriplesOk_snoc _ _ _ _ tok, fun p' cv hcv => ?_⟩
        rcases among_app _ tok (eL ▸ hcv) with z | z
        · obtain ⟨d, e1, e2⟩ := among p' cv z
          exact ⟨d, e1, ex _ _ e2 codeO_ne⟩
        · exact ⟨c', z, upd_same⟩
      · obtain ⟨qs, a1, a2, a3⟩ := hT p hp
        refine ⟨qs, by rw [upd_ne (ne_of_none a1 fresh), upd_ne hb]; exact a1, a2, fun p' cv hcv => ?_⟩
        obtain ⟨d, e1, e2⟩ := a3 p' cv hcv
        exact ⟨d, e1, ex _ _ e2 codeO_ne⟩
    · rw [upd_ne (Nat.ne_of_gt hlt), upd_ne (Nat.ne_of_gt (Nat.lt_of_lt_of_le (Heap.lt_size hp0) grow))]
      exact I.hok.fresh grow
/-- what is known of the made lambda -/
structure LamAt (X : Cx) (scope : Scope) (params : Arguments) (body : Expr) (f c' : Addr) (H : Hp) (s : Shared) : Prop where
  ex : ∃ pm ctv, s.heap.get? f = some (PySem.W.kla_obj "<lambda>" (X.env.qual ++ "<lambda>") params body scope (cloFrom X.env.cells scope.names []) pm c' ctv)
  none : H f = none
  fr : f ∉ L2.frs X.stack
  code : H c' = some (CodeO c' (X.env.qual ++ "<lambda>"))
/-- the lambda called -/
theorem lam_call {A : Around} {scope : Scope} {params : Arguments} {body : Expr} {f c' : Addr} {x : Str} {i : Nat} {v : V} {u : Value} {tb : TE} {Q : VK} (I : Inv X pins σ H s) (L : LamP X.env.scope scope x) (K : LamAt X scope params body f c' H s) (hA : A.frames = some X.stack) (hr : Room 1 A) (hN : X.N[i]? = some x) (nd : X.N.Nodup) (rv : RelV v u)
    (hbind : ∀ (q : Str) (cl : List (Str × Addr)) (pm cv ctv : Value), bindArgs (PySem.W.kla_fn "<lambda>" q params body scope cl pm cv ctv) ⟨[u], []⟩ = pure [(x, u)])
    (hbody : PE (lamCx X A X.stack s H (fun _ _ _ => False) scope f c') body tb) (q : tb (σ.set i (some v)) H Q) :
    wpAny (model X.prog X.w) A (call (.ref f) [u]) (fun u' s' => ∃ w H', Inv X pins σ H' s' ∧ Un (L2.frs X.stack) [] H H' s.heap s'.heap ∧ RelV w u' ∧ Q w H') (fun _ _ => False) s := by
  obtain ⟨pm, ctv, of1⟩ := K.ex
  obtain ⟨⟨oc, vs, t, hoc, hdc, hvc⟩, _, _⟩ := I.hok c' _ K.code
  have noC : ∀ e s', L2.CX X.prog X.w X.stack H s (fun _ _ _ => False) e s' → False := fun e s' ⟨_, _, _, _, _, _, _, _, _, _, _, _, z⟩ => z
  refine wpAny_call (PySem.W.kla_callFunE hr.depth of1 rfl L.co L.gen rfl ⟨c', oc, vs, t, rfl, hoc, hdc, hvc⟩ ?_)
  rw [hbind]
  refine wpAny_pure (wpAny_newFunctionEnv (fun y hy => (L.own y hy).1) (fun y hy => ?_) (fun h₁ hns hsb => ⟨I.nolimit.fresh _ hsb, ?_⟩) L.kind)
  · rw [List.mem_singleton.mp hy]; exact L.par
  show codeAny _ _ (.expr body (lamEnv X scope s.heap.objs.size f c')) _ _
  have kp : ∀ b o, s.heap.get? b = some o → h₁.get? b = some o := fun b o e => hsb.extBut b o (Nat.ne_of_lt (Heap.lt_size e)) (Heap.get?_push_of_some _ e)
  have J : Inv (lamCx X A X.stack s H (fun _ _ _ => False) scope f c') [] (σ.set i (some v)) H { s with heap := h₁, toks := s.toks + ([(x, u)] : List (Str × Value)).length } := lam_in I L hA hr.hd hN nd rv hns kp
  refine PySem.W.kla_codeExpr (wpAny_mono (hbody.run [] _ _ H Q J q) (fun w s' hq => ?_) fun e s' hq => wpAny_mono hq (fun _ s'' z => noC _ _ z) fun e' s'' z => noC _ _ z)
  obtain ⟨w', H', J', rw', q'⟩ := hq
  have ce : CE X.stack X.prog X.w H s (fun a b => a = w' ∧ b = H') w s' := ⟨w', H', J'.os, J'.bare, J'.base, J'.hok, rw', rfl, rfl⟩
  obtain ⟨w2, H2, I2, r2, e1, e2⟩ := I.after ce
  subst e1 e2
  exact ⟨w2, H2, I2, J'.base, r2, q'⟩
end
end W3
namespace W3
open PySem PySem.Spec PyProof.Rows L2 NdefX LamX
open PySem.W (alike dataLt)
/-- the list's items as values, whatever their signs -/
def LstSt (I l : Addr) (ws : List V) (i : Nat) (s : Shared) : Prop := s.heap.IsListIter I l i ∧ ∃ its : List Value, s.heap.IsList l its.toArray ∧ Vals ws its
theorem walk_lst {prog : Program} {w : World} {A : Around} (hh : A.handled = none) (I l : Addr) (hne : l ≠ I) (ws : List V) :
    WalksS prog w A I [I, l] [I] (fun a b => b = a) ws.length (fun i v => ∃ x, ws[i]? = some x ∧ RelV x v) (LstSt I l ws) where
  sub := fun b hb => by simp at hb; simp [hb]
  grefl := fun _ => rfl
  gtrans := fun _ _ _ h1 h2 => h2.trans h1
  frame := fun i s h' tk st _ hk => by
    obtain ⟨a, its, b, c⟩ := st
    exact ⟨a.at fun o e => hk I (by simp) o e, its, b.at fun o e => hk l (by simp) o e, c⟩
  item := fun i s Q E hi st hQ => by
    obtain ⟨a, its, b, c⟩ := st
    have hl := c.length
    refine (Walks.list (prog := prog) (w := w) (A := A) hh I l hne its.toArray).toS.item i s Q E (by rw [List.size_toArray]; omega) ⟨a, b⟩ fun v s' hP hst m => ?_
    have hP : its[i]? = some v := by simpa using hP
    have hw : ws[i]? = some (ws[i]'hi) := List.getElem?_eq_getElem hi
    obtain ⟨u, hu, r⟩ := c.get hw
    rw [hP] at hu
    cases hu
    exact hQ v s' ⟨_, hw, r⟩ ⟨hst.1, its, hst.2, c⟩ m
  done := fun s Q E st hQ => by
    obtain ⟨a, its, b, c⟩ := st
    have hl := c.length
    have e : ws.length = its.toArray.size := by rw [List.size_toArray]; exact hl
    rw [e] at a
    exact (Walks.list (prog := prog) (w := w) (A := A) hh I l hne its.toArray).toS.done s Q E ⟨a, b⟩ hQ
  self := fun i s Q E st q => by
    obtain ⟨a, its, b, c⟩ := st
    exact (Walks.list (prog := prog) (w := w) (A := A) hh I l hne its.toArray).toS.self i s Q E ⟨a, b⟩ q
/-- a ghost heap that goes on from H2 -/
structure Gh (X : Cx) (pins : List (Addr × Obj)) (σ : L2.St) (P : Pw) (g : Nat) (H2 : Hp) (scope : Scope) (params : Arguments) (body : Expr) (f c' : Addr) (ch : List Addr) (H' : Hp) (s : Shared) : Prop where
  inv : Inv X pins σ H' s
  ext : Ext P H2 H'
  wi : WI P g H'
  lam : LamAt X scope params body f c' H' s
  fp : ∀ b ∈ ch, FpOk X pins H' b
section
variable {X : Cx} {pins : List (Addr × Obj)} {σ : L2.St} {P : Pw} {g : Nat} {H2 H' : Hp} {scope : Scope} {params : Arguments} {body : Expr} {f c' : Addr} {ch : List Addr} {s s' : Shared}
theorem Gh.moved (G : Gh X pins σ P g H2 scope params body f c' ch H' s) (hf : f ∉ ch) (m : Moved ch (fun a b => b = a) s s') : Gh X pins σ P g H2 scope params body f c' ch H' s' := by
  have e : s' = { s with heap := s'.heap, toks := s'.toks } := by
    obtain ⟨hp, gs, d, tk, os⟩ := s'
    have h1 : gs = s.gens := m.gens
    have h2 : d = s.drawn := m.drawn
    have h3 : os = s.os := m.os
    subst h1 h2 h3
    rfl
  rw [e]
  refine ⟨G.inv.turnedL m.heap G.fp, G.ext, G.wi, ⟨?_, G.lam.none, G.lam.fr, G.lam.code⟩, G.fp⟩
  obtain ⟨pm, ctv, hfo⟩ := G.lam.ex
  exact ⟨pm, ctv, m.heap f _ hf hfo⟩
theorem FpOk.more {H'' : Hp} {b : Addr} (h : FpOk X pins H' b) (n : H'' b = none) : FpOk X pins H'' b := ⟨n, h.2⟩
theorem Gh.called {H'' : Hp} (G : Gh X pins σ P g H2 scope params body f c' ch H' s) (I : Inv X pins σ H'' s') (un : Un (L2.frs X.stack) [] H' H'' s.heap s'.heap) (e : Ext P H' H'') (w : WI P g H'') (hx : ∀ b ∈ ch, ∃ o, s.heap.get? b = some o) : Gh X pins σ P g H2 scope params body f c' ch H'' s' := by
  obtain ⟨pm, ctv, hfo⟩ := G.lam.ex
  refine ⟨I, G.ext.trans e, w, ⟨⟨pm, ctv, un.keep f _ hfo G.lam.none G.lam.fr (by simp)⟩, un.free f _ hfo G.lam.none (by simp), G.lam.fr, e.keep c' _ G.lam.code (fun ps => codeO_ne ps) fun z => ?_⟩, fun b hb => ?_⟩
  · obtain ⟨n, _, y⟩ := G.wi.cnt c' z
    rw [G.lam.code] at y
    unfold CodeO at y
    cases y
  · obtain ⟨o, ho⟩ := hx b hb
    exact FpOk.more (G.fp b hb) (un.free b o ho (G.fp b hb).1 (by simp))
variable {ws : List V} {ds : List D} {kf : D → D} {tb : TE} {x : Str} {i : Nat}
/-- what the keys' loop needs -/
structure KeyN (X : Cx) (pins : List (Addr × Obj)) (σ : L2.St) (P : Pw) (g : Nat) (H2 : Hp) (scope : Scope) (params : Arguments) (body : Expr) (f c' : Addr) (ws : List V) (ds : List D) (kf : D → D) (tb : TE) (x : Str) (i : Nat) : Prop where
  lamp : LamP X.env.scope scope x
  nm : X.N[i]? = some x
  nd : X.N.Nodup
  hbind : ∀ (u : Value) (q : Str) (cl : List (Str × Addr)) (pm cv ctv : Value), bindArgs (PySem.W.kla_fn "<lambda>" q params body scope cl pm cv ctv) ⟨[u], []⟩ = pure [(x, u)]
  hbody : ∀ (A : Around) (s : Shared) (H' : Hp), Room 1 A → PE (lamCx X A X.stack s H' (fun _ _ _ => False) scope f c') body tb
  hq : ∀ H', Ext P H2 H' → WI P g H' → ∀ d ∈ ds, ∀ vv, Rp X.K H' vv d [] → tb (σ.set i (some vv)) H' fun w H'' => Ext P H' H'' ∧ WI P g H'' ∧ Rp X.K H'' w (kf d) []
  hk : keyOk ds kf
  hs : Rps X.K H2 ws ds []
  w2 : WI P g H2
def JJ (X : Cx) (pins : List (Addr × Obj)) (σ : L2.St) (P : Pw) (g : Nat) (H2 : Hp) (scope : Scope) (params : Arguments) (body : Expr) (f c' : Addr) (ch : List Addr) (s : Shared) : Prop := ∃ H', Gh X pins σ P g H2 scope params body f c' ch H' s
def VV (X : Cx) (pins : List (Addr × Obj)) (σ : L2.St) (P : Pw) (g : Nat) (H2 : Hp) (scope : Scope) (params : Arguments) (body : Expr) (f c' : Addr) (ch : List Addr) (ds : List D) (kf : D → D) (j : Nat) (k : Value) (s : Shared) : Prop :=
  j < ds.length ∧ ∃ H' v, Gh X pins σ P g H2 scope params body f c' ch H' s ∧ RelV v k ∧ Rp X.K H' v (kf (ds.getD j .none)) []
theorem getD_in {j : Nat} (h : j < ds.length) : ds.getD j .none ∈ ds := by
  rw [List.getD_eq_getElem?_getD, List.getElem?_eq_getElem h]
  exact List.getElem_mem h
/-- one key -/
theorem key_turn {A : Around} (N : KeyN X pins σ P g H2 scope params body f c' ws ds kf tb x i) (hA : A.frames = some X.stack) (hr : Room 1 A) (S I l : Addr) (hl : ∀ H', Ext P H2 H' → H' l = some (.lst ws)) (hlne : l ≠ S ∧ l ≠ I) (j : Nat) (v : Value) (o : Obj) (Q : Value → Shared → Prop) (E : Value → Shared → Prop)
    (hj : j < ws.length) (hP : ∃ vv, ws[j]? = some vv ∧ RelV vv v) (hJ : JJ X pins σ P g H2 scope params body f c' [S, I] s) (hS : LstSt I l ws (j + 1) s) (ho : s.heap.get? S = some o)
    (k : ∀ k s', JJ X pins σ P g H2 scope params body f c' [S, I] s' → LstSt I l ws (j + 1) s' → s'.heap.get? S = some o → VV X pins σ P g H2 scope params body f c' [S, I] ds kf j k s' → (∀ j k', VV X pins σ P g H2 scope params body f c' [S, I] ds kf j k' s → VV X pins σ P g H2 scope params body f c' [S, I] ds kf j k' s') → Q k s') :
    wpAny (model X.prog X.w) A (call (.ref f) [v]) Q E s := by
  obtain ⟨H1, G1⟩ := hJ
  have hlen := N.hs.length
  have hjd : j < ds.length := by omega
  obtain ⟨vv, hvv, rv⟩ := hP
  have hdj : ds[j]? = some (ds.getD j .none) := by rw [List.getD_eq_getElem?_getD, List.getElem?_eq_getElem hjd]; rfl
  let ι := { H' : Hp // Gh X pins σ P g H2 scope params body f c' [S, I] H' s }
  have inst : Nonempty ι := ⟨⟨H1, G1⟩⟩
  have iex : ∃ oi, s.heap.get? I = some oi := by
    obtain ⟨⟨oi, h, _⟩, _⟩ := hS
    exact ⟨oi, h⟩
  have hx : ∀ b ∈ [S, I], ∃ o, s.heap.get? b = some o := fun b hb => by
    rcases List.mem_cons.mp hb with e | hb
    · rw [e]; exact ⟨o, ho⟩
    · rw [List.mem_singleton.mp hb]; exact iex
  have one : ∀ a : ι, wpAny (model X.prog X.w) A (call (.ref f) [v]) (fun u' s' => ∃ w H'', Inv X pins σ H'' s' ∧ Un (L2.frs X.stack) [] a.1 H'' s.heap s'.heap ∧ RelV w u' ∧ Ext P a.1 H'' ∧ WI P g H'' ∧ Rp X.K H'' w (kf (ds.getD j .none)) []) (fun _ _ => False) s := fun a => by
    have G := a.2
    obtain ⟨v0, f0, h0, r0, s0⟩ := N.hs.get hdj
    rw [hvv] at h0
    cases h0
    rw [List.sublist_nil.mp s0] at r0
    have r1 : Rp X.K a.1 vv (ds.getD j .none) [] := r0.ext G.ext N.w2 nr_nil
    exact lam_call G.inv N.lamp G.lam hA hr N.nm N.nd rv (N.hbind v) (N.hbody A s a.1 hr) (N.hq a.1 G.ext G.wi _ (getD_in hjd) vv r1)
  refine wpAny_mono (wpAny_all one) (fun u' s' h => ?_) fun _ _ z => z.elim
  have gh : ∀ a : ι, ∃ w H'', Gh X pins σ P g H2 scope params body f c' [S, I] H'' s' ∧ RelV w u' ∧ Ext P a.1 H'' ∧ Rp X.K H'' w (kf (ds.getD j .none)) [] := fun a => by
    obtain ⟨w, H'', I', un, r, e, wi, rp⟩ := h a
    exact ⟨w, H'', a.2.called I' un e wi hx, r, e, rp⟩
  obtain ⟨w, H'', G'', r, e, rp⟩ := gh ⟨H1, G1⟩
  obtain ⟨_, _, _, un, _⟩ := h ⟨H1, G1⟩
  have nofr : ∀ b ∈ [S, I], b ∉ L2.frs X.stack := fun b hb z => by
    rcases List.mem_cons.mp (G1.inv.stkSub b z) with y | y
    · exact (G1.fp b hb).2.1 y
    · exact (G1.fp b hb).2.2.1 y
  have keep : ∀ b ∈ [S, I], ∀ o, s.heap.get? b = some o → s'.heap.get? b = some o := fun b hb o ho => un.keep b o ho (G1.fp b hb).1 (nofr b hb) (by simp)
  refine k u' s' ⟨H'', G''⟩ ?_ (keep S (by simp) o ho) ⟨hjd, H'', w, G'', r, rp⟩ fun m k' ⟨hm, Hm, vm, Gm, rm, rpm⟩ => ?_
  · obtain ⟨its, rv', pl, _⟩ := G''.inv.list (SqL.of (hl H'' G''.ext))
    exact ⟨hS.1.at fun o e => keep I (by simp) o e, its, pl.isList, rv'⟩
  · obtain ⟨_, H3, G3, _, e3, _⟩ := gh ⟨Hm, Gm⟩
    exact ⟨hm, H3, vm, G3, rm, rpm.ext e3 Gm.wi nr_nil⟩
/-- two keys -/
theorem key_lt {A : Around} (N : KeyN X pins σ P g H2 scope params body f c' ws ds kf tb x i) (hu : A.units + 100 < cLine) (j m : Nat) (kj km : Value) (Q : Value → Shared → Prop) (E : Value → Shared → Prop)
    (h1 : VV X pins σ P g H2 scope params body f c' ch ds kf j kj s) (h2 : VV X pins σ P g H2 scope params body f c' ch ds kf m km s) (q : Q (.bool (dataLt (kf (ds.getD j .none)) (kf (ds.getD m .none)))) s) :
    wpAny (model X.prog X.w) A (richCompare .Lt kj km) Q E s := by
  obtain ⟨hj, H1, v1, G1, r1, p1⟩ := h1
  obtain ⟨hm, H3, v3, G3, r3, p3⟩ := h2
  obtain ⟨as, ra⟩ := p1.reads G1.inv r1
  obtain ⟨bs, rb⟩ := p3.reads G3.inv r3
  obtain ⟨⟨y, rr, e1⟩, sh, _⟩ := N.hk.2 _ (getD_in hj)
  exact PySem.W.rcLt_alike _ _ A s kj km _ _ ra rb (N.hk.1 _ (getD_in hj) _ (getD_in hm)) (by rw [e1]; exact fun z => by cases z) (room_shp sh hu) X.prog X.w E Q q
theorem key_gt {A : Around} (N : KeyN X pins σ P g H2 scope params body f c' ws ds kf tb x i) (hu : A.units + 100 < cLine) (j m : Nat) (kj km : Value) (Q : Value → Shared → Prop) (E : Value → Shared → Prop)
    (h1 : VV X pins σ P g H2 scope params body f c' ch ds kf j kj s) (h2 : VV X pins σ P g H2 scope params body f c' ch ds kf m km s) (q : Q (.bool (dataLt (kf (ds.getD m .none)) (kf (ds.getD j .none)))) s) :
    wpAny (model X.prog X.w) A (richCompare .Gt kj km) Q E s := by
  obtain ⟨hj, H1, v1, G1, r1, p1⟩ := h1
  obtain ⟨hm, H3, v3, G3, r3, p3⟩ := h2
  obtain ⟨as, ra⟩ := p1.reads G1.inv r1
  obtain ⟨bs, rb⟩ := p3.reads G3.inv r3
  obtain ⟨⟨y, rr, e1⟩, sh, _⟩ := N.hk.2 _ (getD_in hj)
  exact PySem.W.rcGt_alike _ _ A s kj km _ _ ra rb (N.hk.1 _ (getD_in hj) _ (getD_in hm)) (by rw [e1]; exact fun z => by cases z) (room_shp sh hu) X.prog X.w E Q q
/-- the loop's needs, for either comparison -/
theorem key_run {A : Around} {op : CmpOp} {bt : Nat → Nat → Bool} (N : KeyN X pins σ P g H2 scope params body f c' ws ds kf tb x i) (hA : A.frames = some X.stack) (hr : Room 1 A) (S I l : Addr) (hl : ∀ H', Ext P H2 H' → H' l = some (.lst ws)) (hlne : l ≠ S ∧ l ≠ I) (hf : f ∉ [S, I])
    (cmp : ∀ j m kj km (s : Shared) (Q : Value → Shared → Prop) (E : Value → Shared → Prop), VV X pins σ P g H2 scope params body f c' [S, I] ds kf j kj s → VV X pins σ P g H2 scope params body f c' [S, I] ds kf m km s → Q (.bool (bt j m)) s → wpAny (model X.prog X.w) A (richCompare op kj km) Q E s) :
    KeyRun X.prog X.w A (.ref f) op S [I] (fun a b => b = a) ws.length (fun j v => ∃ vv, ws[j]? = some vv ∧ RelV vv v) (LstSt I l ws) (JJ X pins σ P g H2 scope params body f c' [S, I]) (VV X pins σ P g H2 scope params body f c' [S, I] ds kf) bt where
  keep := fun s s' ⟨H', G⟩ m => ⟨H', G.moved hf m⟩
  keepV := fun j k s s' ⟨hj, H', v, G, r, p⟩ m => ⟨hj, H', v, G.moved hf m, r, p⟩
  turn := fun j v s o Q E hj hP hJ hS ho k => key_turn N hA hr S I l hl hlne j v o Q E hj hP hJ hS ho k
  cmp := fun j m kj km s Q E _ h1 h2 q => cmp j m kj km s Q E h1 h2 q
theorem not_two {a n : Nat} (h : a < n) : a ∉ [n + 1, n] := by simp; omega
theorem Gh.start {o : Obj} (I2 : Inv X pins σ H2 s) (L : LamAt X scope params body f c' H2 s) (w2 : WI P g H2) : Gh X pins σ P g H2 scope params body f c' [s.heap.objs.size + 1, s.heap.objs.size] H2 { s with heap := s.heap.push o } := by
  refine ⟨I2.kept (t' := s.toks) fun b u e => Heap.get?_push_of_some _ e, Ext.refl P H2, w2, ⟨?_, L.none, L.fr, L.code⟩, fun b hb => ?_⟩
  · obtain ⟨pm, ctv, hfo⟩ := L.ex
    exact ⟨pm, ctv, Heap.get?_push_of_some _ hfo⟩
  · have hge : s.heap.objs.size ≤ b := by
      rcases List.mem_cons.mp hb with e | hb
      · rw [e]; exact Nat.le_succ _
      · rw [List.mem_singleton.mp hb]; exact Nat.le_refl _
    exact I2.fpOk hge (I2.hok.fresh hge)
theorem best_at {d0 : D} {dr : List D} (lt : D → D → Bool) : (d0 :: dr).getD (argBest (fun j m => lt ((d0 :: dr).getD j .none) ((d0 :: dr).getD m .none)) dr.length) .none = bestBy lt d0 dr := by
  have e2 := (PySem.W.argBest_fold lt PyData.none d0 dr dr.length (Nat.le_refl _)).2
  rw [List.take_length] at e2
  exact e2
theorem mm_keyL {d0 : D} {dr : List D} {l : Addr} {Q : VK} (mx : Bool) (N : KeyN X pins σ P g H2 scope params body f c' ws (d0 :: dr) kf tb x i) (I2 : Inv X pins σ H2 s) (L : LamAt X scope params body f c' H2 s) (hr : Room 2 X.A) (hl : H2 l = some (.lst ws)) (nl : P.r ≠ some l)
    (hQ : ∀ (vv : V) (H' : Hp), Ext P H2 H' → WI P g H' → Rp X.K H' vv (bestBy (fun a b => if mx = true then dataLt (kf b) (kf a) else dataLt (kf a) (kf b)) d0 dr) [] → Q vv H') :
    wpAny (model X.prog X.w) X.A (call (.builtin (if mx = true then "max" else "min")) [.ref l] [(Str.ofString "key", .ref f)]) (EP X pins σ Q) X.xe s := by
  obtain ⟨its, rv, pl, _⟩ := I2.list (SqL.of hl)
  have hlen := N.hs.length
  have hn : 0 < ws.length := by rw [hlen]; simp
  have hA : (X.A.in1).frames = some X.stack := I2.ok.frames
  have hr1 : Room 1 X.A.in1 := hr.in1
  have lsz : l < s.heap.objs.size := (I2.hok l _ hl).lt
  have fsz : f < s.heap.objs.size := by
    obtain ⟨pm, ctv, hfo⟩ := L.ex
    exact Heap.lt_size hfo
  have hls : ∀ H', Ext P H2 H' → H' l = some (.lst ws) := fun H' e => e.keep l _ hl (fun ps z => by cases z) nl
  have hu : X.A.in1.units + 100 < cLine := by have := hr1.un; omega
  have fin : ∀ (lt : D → D → Bool) v s', (∃ vv, ws[argBest (fun j m => lt ((d0 :: dr).getD j .none) ((d0 :: dr).getD m .none)) (ws.length - 1)]? = some vv ∧ RelV vv v) → JJ X pins σ P g H2 scope params body f c' [s.heap.objs.size + 1, s.heap.objs.size] s' → ∃ vv H', Inv X pins σ H' s' ∧ RelV vv v ∧ Ext P H2 H' ∧ WI P g H' ∧ Rp X.K H' vv (bestBy lt d0 dr) [] := by
    rintro lt v s' ⟨vv, hv, r⟩ ⟨H', G⟩
    have e1 : ws.length - 1 = dr.length := by rw [hlen]; simp
    rw [e1] at hv
    have hb := best_at (d0 := d0) (dr := dr) lt
    generalize argBest (fun j m => lt ((d0 :: dr).getD j .none) ((d0 :: dr).getD m .none)) dr.length = k at hv hb
    have hk : k < (d0 :: dr).length := by
      rw [← hlen]; exact (List.getElem?_eq_some_iff.mp hv).1
    have hd : (d0 :: dr)[k]? = some (bestBy lt d0 dr) := by
      rw [← hb, List.getD_eq_getElem?_getD, List.getElem?_eq_getElem hk]; rfl
    obtain ⟨v0, f0, h0, r0, s0⟩ := N.hs.get hd
    rw [hv] at h0
    cases h0
    rw [List.sublist_nil.mp s0] at r0
    exact ⟨vv, H', G.inv, r, G.ext, G.wi, r0.ext G.ext N.w2 nr_nil⟩
  cases mx with
  | false =>
    refine call_min_walkK (PySem.W.iter_listW (A := X.A.in1) hr.hd pl.isList fun s₂ e _ st hfp _ hk => ?_)
    have sz : s₂.heap.objs.size = s.heap.objs.size + 1 := by rw [e]; exact Heap.size_push _ _
    rw [sz]
    refine ⟨s.heap.objs.size, [s.heap.objs.size, l], [s.heap.objs.size], fun a b => b = a, ws.length, _, _, JJ X pins σ P g H2 scope params body f c' [s.heap.objs.size + 1, s.heap.objs.size], VV X pins σ P g H2 scope params body f c' [s.heap.objs.size + 1, s.heap.objs.size] (d0 :: dr) kf,
      fun j m => dataLt (kf ((d0 :: dr).getD j .none)) (kf ((d0 :: dr).getD m .none)), rfl, walk_lst hr1.hd _ l (Nat.ne_of_lt lsz) ws, ⟨st.1, its, st.2, rv⟩, by rw [← sz]; exact hfp, hn, key_run N hA hr1 _ _ l hls ⟨Nat.ne_of_lt (Nat.lt_succ_of_lt lsz), Nat.ne_of_lt lsz⟩ (not_two fsz) (fun j m kj km s Q E h1 h2 q => key_lt N hu j m kj km Q E h1 h2 q), ⟨H2, by rw [e]; exact Gh.start I2 L N.w2⟩, fun v s' hP hJ => ?_⟩
    obtain ⟨vv, H', a, b, c, d, e⟩ := fin (fun a b => dataLt (kf a) (kf b)) v s' hP hJ
    exact ⟨vv, H', a, b, hQ vv H' c d e⟩
  | true =>
    refine call_max_walkK (PySem.W.iter_listW (A := X.A.in1) hr.hd pl.isList fun s₂ e _ st hfp _ hk => ?_)
    have sz : s₂.heap.objs.size = s.heap.objs.size + 1 := by rw [e]; exact Heap.size_push _ _
    rw [sz]
    refine ⟨s.heap.objs.size, [s.heap.objs.size, l], [s.heap.objs.size], fun a b => b = a, ws.length, _, _, JJ X pins σ P g H2 scope params body f c' [s.heap.objs.size + 1, s.heap.objs.size], VV X pins σ P g H2 scope params body f c' [s.heap.objs.size + 1, s.heap.objs.size] (d0 :: dr) kf,
      fun j m => dataLt (kf ((d0 :: dr).getD m .none)) (kf ((d0 :: dr).getD j .none)), rfl, walk_lst hr1.hd _ l (Nat.ne_of_lt lsz) ws, ⟨st.1, its, st.2, rv⟩, by rw [← sz]; exact hfp, hn, key_run N hA hr1 _ _ l hls ⟨Nat.ne_of_lt (Nat.lt_succ_of_lt lsz), Nat.ne_of_lt lsz⟩ (not_two fsz) (fun j m kj km s Q E h1 h2 q => key_gt N hu j m kj km Q E h1 h2 q), ⟨H2, by rw [e]; exact Gh.start I2 L N.w2⟩, fun v s' hP hJ => ?_⟩
    obtain ⟨vv, H', a, b, c, d, e⟩ := fin (fun a b => dataLt (kf b) (kf a)) v s' hP hJ
    exact ⟨vv, H', a, b, hQ vv H' c d e⟩
end
end W3
namespace W3
open PySem PySem.Spec PyProof.Rows L2 NdefX LamX
open PySem.W (alike dataLt)
theorem vKey_eq {e : Expr} {f : Str} {a body : Expr} {params : Arguments} {scope : Scope} (h : vKey e = some (f, a, params, body, scope)) : ∃ p1 lpos kpos pos, e = .Call (.Name f p1) [a] [⟨some "key", .Lambda params body scope lpos, kpos⟩] pos := by
  unfold vKey at h; split at h
  · split at h
    · rename_i hh
      subst hh
      cases h; exact ⟨_, _, _, _, rfl⟩
    · cases h
  · cases h
theorem lamX_eq {params : Arguments} {x : Str} (h : lamX params = some x) : (∃ p, params = ⟨[], [⟨x, none, p⟩], none, [], [], none, []⟩) ∧ (x = "lot" ∨ x = "row" ∨ x = "v" ∨ x = "k") := by
  unfold lamX at h; split at h
  · split at h
    · rename_i hh
      cases h; exact ⟨⟨_, rfl⟩, hh⟩
    · cases h
  · cases h
theorem lam_bind {x : Str} {px : Pos} {body : Expr} {scope : Scope} (h : x = "lot" ∨ x = "row" ∨ x = "v" ∨ x = "k") (u : Value) (q : Str) (cl : List (Str × Addr)) (pm cv ctv : Value) : bindArgs (PySem.W.kla_fn "<lambda>" q ⟨[], [⟨x, none, px⟩], none, [], [], none, []⟩ body scope cl pm cv ctv) ⟨[u], []⟩ = pure [(x, u)] := by
  rcases h with rfl | rfl | rfl | rfl <;> rfl
theorem tabs_of {LT : List (Addr × Str)} {H : Hp} (h : TabsN (LT.map fun p => (p.1, fun _ _ => p.2)) H) : Tabs LT H := fun p hp => TabN.to (h _ (List.mem_map.mpr ⟨p, hp, rfl⟩))
theorem of_tabs {LT : List (Addr × Str)} {H : Hp} (h : Tabs LT H) : TabsN (LT.map fun p => (p.1, fun _ _ => p.2)) H := fun q hq => by
  obtain ⟨p, hp, rfl⟩ := List.mem_map.mp hq
  exact TabN.of (h p hp)
section
variable {r : Option Addr} {T : List NTab} {Φ : Fam} {C : Mc} {X : Cx} (M : Φ.Mono)
theorem Good.lamG (G : Good Φ T C X) {A : Around} {s : Shared} {H : Hp} {E : XK} {scope : Scope} {f c' : Addr} (hr : Room 1 A) : Good Φ T (lamC C scope) (lamCx X A X.stack s H E scope f c') where
  calm := rfl
  N := G.N
  nd := G.nd
  sc := rfl
  blk := fun h => by cases h
  hu := by
    have := hr.un
    show A.units + 3 + 100 < _
    omega
  bi := G.bi
  fs := fun f hf => nomatch hf
  fsP := fun f hf => nomatch hf
  gs := G.gs
  lam := fun _ h => by cases h
include M
theorem s_key (G : Good Φ T C X) {k : Nat} {a body : Ex} {p : Nat} {fn x : Str} {a' body' : Expr} {params : Arguments} {scope : Scope} {p1 lpos kpos pos : Pos} (hk : k ≤ 1) (hfn : fn = keyN k) (hlam : C.lam = true) (hblk : C.blk = false) (hg : glB C.sc fn = true) (na : noStar a' = true) (ha : Snd r T C.pl Φ X a a')
    (hx : lamX params = some x) (hN : C.N[p]? = some x) (hpl : C.pl ≠ some p) (hL : lamPB C.sc scope x = true) (hbody : ∀ X', Good Φ T (lamC C scope) X' → Snd r T C.pl Φ X' body body') :
    Snd r T C.pl Φ X (.key k false [a] [p] body) (.Call (.Name fn p1) [a'] [⟨some "key", .Lambda params body' scope lpos, kpos⟩] pos) := by
  obtain ⟨⟨px, rfl⟩, hxn⟩ := lamX_eq hx
  obtain ⟨LT, c, P0, rfl, TB, hcode, hm, hu⟩ := (G.lam hlam hblk).ex
  have hroom := (G.lam hlam hblk).room
  have L : LamP X.env.scope scope x := lamP_by (by rw [G.sc]; exact hL)
  refine mk_plain M (fun bad => ⟨fun pins s σ H Q I q => ?_⟩) rfl fun _ _ _ q => q
  obtain ⟨Γ, g, he, hp, w, q⟩ := q
  have hfn2 : X.mg fn = none ∧ bootBuiltins fn = some (.builtin (if k = 1 then "max" else "min")) ∧ fn ≠ "__name__" ∧ (fn == ("__debug__" : Str)) = false := by
    subst hfn
    match k, hk with
    | 0, _ => exact ⟨G.bi _ (by decide +kernel), by decide +kernel, by decide, by decide⟩
    | 1, _ => exact ⟨G.bi _ (by decide +kernel), by decide +kernel, by decide, by decide⟩
  refine wpAny_Call_Name_kw (ld_blt I (G.gl hg) hfn2.1 hfn2.2.1 ?_ hfn2.2.2.1 hfn2.2.2.2)
  have pa := pa_cons (ha.pe bad) (pa_nil (X := X)) (star_cons na)
  refine PyProof.Rows.callWith_kw (thn (pa.run pos pins s σ H (fun vs H1 => ∃ av d g1 fp, vs = [av] ∧ Ext ⟨r, LT.map fun p => (p.1, fun _ _ => p.2), bad⟩ H H1 ∧ WI ⟨r, LT.map fun p => (p.1, fun _ _ => p.2), bad⟩ g1 H1 ∧ Rp X.K H1 av d fp ∧ nr ⟨r, LT.map fun p => (p.1, fun _ _ => p.2), bad⟩ fp ∧
      lstIt false [d] fun rs => flats rs = true ∧ ∃ kf : D → D, (∀ d ∈ rs, wpE Φ body false (Γ.set p (some d)) g1 fun z g2 => z = kf d ∧ g2 ≤ g1) ∧ keyOk rs kf ∧ keyK k rs kf fun z => Out ⟨r, LT.map fun p => (p.1, fun _ _ => p.2), bad⟩ X.K H g1 z (frs (.key k false [a] [p] body) z = true) Q) I ?_) fun us s1 ⟨vs, H1, I1, r1, q1⟩ => ?_) (by rw [star_cons na]; rfl) (by rw [star_cons na]; rfl)
  · refine ⟨Γ, g, he, hp, w, wpE_mono M (fun d g1 q v H1 fp e1 w1 r1 n1 _ => ⟨v, d, g1, fp, rfl, e1, w1, r1, n1, ?_⟩) q⟩
    exact q
  obtain ⟨av, d, g1, fp, rfl, e1, w1, ra, n1, q⟩ := q1
  cases d with
  | list rs =>
    obtain ⟨fl, kf, hkf, hok, q⟩ := q
    cases ra with
    | @lst l ws _ f0 hl hs =>
      have hf0 : f0 = [] := hs.flat fl
      subst hf0
      rw [Vals.ref1 r1]
      show wpAny _ _ (evalAll [do let v ← eval (.Lambda _ body' scope lpos) X.env; standAt pos; pure v]) _ _ s1
      refine wpAny_evalAll_cons (wpAny_bind (lam_new I1 TB hcode hm hu (tabs_of w1.tab) rfl (L.has I1.ok) fun f c' pm ctv H2 s2 I2 eN nw T2 hf hfn hfr hco => wpAny_bind (wpAny_standAt (wpAny_pure (wpAny_evalAll_nil ?_)))))
      have e2 : Ext ⟨r, LT.map fun p => (p.1, fun _ _ => p.2), bad⟩ H1 H2 := ⟨fun b o h n _ => eN b o h n, nw⟩
      have w2 : WI ⟨r, LT.map fun p => (p.1, fun _ _ => p.2), bad⟩ g1 H2 := ⟨fun r0 h0 => by
        obtain ⟨n, hn, e⟩ := w1.cnt r0 h0
        exact ⟨n, hn, eN _ _ e fun ps z => by cases z⟩, of_tabs T2, fun b hb z => w1.bad b hb (nw b z)⟩
      have nl : r ≠ some l := fun z => n1 l (.inl z) List.mem_cons_self
      have hl2 : H2 l = some (.lst ws) := eN _ _ hl fun ps z => by cases z
      have hs2 := hs.ext e2 w1 nr_nil
      have he2 := (he.ext e1 w).ext e2 w1
      have hp2 := (hp.ext e1).ext e2
      have hlen := hs2.length
      cases rs with
      | nil =>
        match k, hk, q with
        | 0, _, q => exact q.elim
        | 1, _, q => exact q.elim
      | cons d0 dr =>
        have N : KeyN X pins σ ⟨r, LT.map fun p => (p.1, fun _ _ => p.2), bad⟩ g1 H2 scope ⟨[], [⟨x, none, px⟩], none, [], [], none, []⟩ body' f c' ws (d0 :: dr) kf (TEc ⟨r, LT.map fun p => (p.1, fun _ _ => p.2), bad⟩ X.K C.pl Φ body) x p :=
          { lamp := L
            nm := by rw [G.N]; exact hN
            nd := by rw [G.N]; exact G.nd
            hbind := lam_bind hxn
            hbody := fun A s H' hr1 => (hbody _ (G.lamG hr1)).pe bad
            hq := fun H' e3 w3 d hd vv rv => by
              have he3 := he2.ext e3 w2
              have hp3 := hp2.ext e3
              refine ⟨Γ.set p (some d), g1, ⟨by rw [List.length_set, List.length_set]; exact he3.len, fun i d' hi => ?_⟩, fun i hi => ?_, w3, wpE_mono M (fun z g2 hz v H4 fp e4 w4 r4 n4 _ => ?_) (hkf d hd)⟩
              · by_cases hip : i = p
                · subst hip
                  have hlt : i < Γ.length := by
                    rcases Nat.lt_or_ge i Γ.length with z | z
                    · exact z
                    · rw [List.getElem?_eq_none (by rw [List.length_set]; exact z)] at hi; cases hi
                  rw [List.getElem?_set_self hlt] at hi
                  cases hi
                  exact ⟨vv, [], List.getElem?_set_self (by rw [← he3.len]; exact hlt), rv, nr_nil⟩
                · rw [List.getElem?_set_ne (Ne.symm hip)] at hi ⊢
                  exact he3.at_ i d' hi
              · obtain ⟨pp, h5, h6⟩ := hp3 i hi
                exact ⟨pp, by rw [List.getElem?_set_ne (fun z => hpl (by rw [z]; exact hi))]; exact h5, h6⟩
              · obtain ⟨rfl, hg2⟩ := hz
                have := r4.flat (hok.2 d hd).2.2
                subst this
                exact ⟨e4, w4.mono hg2, r4⟩
            hk := hok
            hs := hs2
            w2 := w2 }
        have LA : LamAt X scope ⟨[], [⟨x, none, px⟩], none, [], [], none, []⟩ body' f c' H2 s2 := ⟨⟨pm, ctv, hf⟩, hfn, hfr, hco⟩
        have fin : ∀ z, z ∈ d0 :: dr → (frs (.key k false [a] [p] body) z = true → False) ∧ flat z = true := fun z hz => ⟨fun h => by simp [frs] at h, by
          rw [flats_all] at fl
          exact List.all_eq_true.mp fl z hz⟩
        have out : ∀ z, z ∈ d0 :: dr → Out ⟨r, LT.map fun p => (p.1, fun _ _ => p.2), bad⟩ X.K H g1 z (frs (.key k false [a] [p] body) z = true) Q → ∀ (vv : V) (H' : Hp), Ext ⟨r, LT.map fun p => (p.1, fun _ _ => p.2), bad⟩ H2 H' → WI ⟨r, LT.map fun p => (p.1, fun _ _ => p.2), bad⟩ g1 H' → Rp X.K H' vv z [] → Q vv H' :=
          fun z hz q vv H' e3 w3 rv => q vv H' [] ((e1.trans e2).trans e3) w3 rv nr_nil fun h => ((fin z hz).1 h).elim
        match k, hk, q, out with
        | 0, _, q, out =>
          exact mm_keyL (mx := false) N I2 LA hroom hl2 nl fun vv H' e3 w3 rv => out _ (best_mem (fun y a => dataLt (kf y) (kf a)) dr d0) q vv H' e3 w3 rv
        | 1, _, q, out =>
          exact mm_keyL (mx := true) N I2 LA hroom hl2 nl fun vv H' e3 w3 rv => out _ (best_mem (fun y a => dataLt (kf a) (kf y)) dr d0) q vv H' e3 w3 rv
  | _ => exact q.elim
end
end W3
namespace W3
open PySem PySem.Spec PyProof.Rows L2 NdefX LamX
open PySem.W (alike dataLt AllAlike Sortable dataLe AlikeAll minD maxD)
theorem vMxd_eq {e a d : Expr} (h : vMxd e = some (a, d)) : ∃ p1 kpos pos, e = .Call (.Name "max" p1) [a] [⟨some "default", d, kpos⟩] pos := by
  unfold vMxd at h; split at h
  · split at h
    · rename_i hh
      obtain ⟨rfl, rfl⟩ := hh
      cases h; exact ⟨_, _, _, rfl⟩
    · cases h
  · cases h
section
variable {r : Option Addr} {T : List NTab} {Φ : Fam} {C : Mc} {X : Cx} (M : Φ.Mono)
include M
theorem s_mxd (G : Good Φ T C X) {a d : Ex} {a' d' : Expr} {p1 kpos pos : Pos} (hg : glB C.sc "max" = true) (na : noStar a' = true) (ha : Snd r T C.pl Φ X a a') (hd : Snd r T C.pl Φ X d d') :
    Snd r T C.pl Φ X (.mxd a d) (.Call (.Name "max" p1) [a'] [⟨some "default", d', kpos⟩] pos) := by
  refine mk_plain M (fun bad => ⟨fun pins s σ H Q I q => ?_⟩) rfl fun _ _ _ q => q
  obtain ⟨Γ, g, he, hp, w, q⟩ := q
  refine wpAny_Call_Name_kw (ld_blt I (G.gl hg) (G.bi _ (by decide +kernel)) (by decide +kernel : bootBuiltins ("max" : Str) = some (.builtin "max")) ?_ (by decide) (by decide))
  have pa := pa_cons (ha.pe bad) (pa_nil (X := X)) (star_cons na)
  refine PyProof.Rows.callWith_kw (thn (pa.run pos pins s σ H (fun vs H1 => ∃ av x g1 fp, vs = [av] ∧ Ext ⟨r, T, bad⟩ H H1 ∧ WI ⟨r, T, bad⟩ g1 H1 ∧ Rp X.K H1 av x fp ∧ nr ⟨r, T, bad⟩ fp ∧
      wpE Φ d false Γ g1 fun y g2 => seqK x fun ds => (AlikeAll ds ∧ ∀ d ∈ ds, shp d) ∧ (match ds with | [] => Out ⟨r, T, bad⟩ X.K H g2 y (frs (.mxd a d) y = true) Q | d0 :: dr => Out ⟨r, T, bad⟩ X.K H g2 (maxD d0 dr) (frs (.mxd a d) (maxD d0 dr) = true) Q)) I ?_) fun us s1 ⟨vs, H1, I1, r1, q1⟩ => ?_) (by rw [star_cons na]; rfl) (by rw [star_cons na]; rfl)
  · refine ⟨Γ, g, he, hp, w, wpE_mono M (fun x g1 q v H1 fp e1 w1 r1 n1 _ => ⟨v, x, g1, fp, rfl, e1, w1, r1, n1, ?_⟩) q⟩
    exact q
  obtain ⟨av, x, g1, fp, rfl, e1, w1, ra, n1, q⟩ := q1
  have pd := (hd.pe bad).run pins s1 σ H1 (fun dv H2 => ∃ y g2 fp2, Ext ⟨r, T, bad⟩ H1 H2 ∧ WI ⟨r, T, bad⟩ g2 H2 ∧ Rp X.K H2 dv y fp2 ∧ nr ⟨r, T, bad⟩ fp2 ∧
      seqK x fun ds => (AlikeAll ds ∧ ∀ d ∈ ds, shp d) ∧ (match ds with | [] => Out ⟨r, T, bad⟩ X.K H g2 y (frs (.mxd a d) y = true) Q | d0 :: dr => Out ⟨r, T, bad⟩ X.K H g2 (maxD d0 dr) (frs (.mxd a d) (maxD d0 dr) = true) Q)) I1
    ⟨Γ, g1, he.ext e1 w, hp.ext e1, w1, wpE_mono M (fun y g2 q v H2 f2 e2 w2 r2 n2 _ => ⟨y, g2, f2, e2, w2, r2, n2, q⟩) q⟩
  show wpAny _ _ (evalAll [do let v ← eval d' X.env; standAt pos; pure v]) _ _ s1
  refine wpAny_evalAll_cons (wpAny_bind (wpAny_mono pd (fun du s2 ⟨dv, H2, I2, rd, y, g2, fp2, e2, w2, r2, n2, q⟩ => ?_) fun _ _ e => e))
  refine wpAny_bind (wpAny_standAt (wpAny_pure (wpAny_evalAll_nil ?_)))
  have ra2 := ra.ext e2 w1 n1
  obtain ⟨l, vs, ds, f, rfl, hv, hr, q⟩ := rp_seq ra2 q
  have n2' := nr_of hv n1
  rw [Vals.ref1 r1]
  obtain ⟨⟨ha', hs⟩, q⟩ := q
  have dep := depth_all hs
  have hu := G.hu
  have h0 : ds = [] → ∀ h' tk, (∀ b o, s2.heap.get? b = some o → h'.get? b = some o) → EP X pins σ Q du { s2 with heap := h', toks := tk } := fun e h' tk k => by
    subst e
    exact ⟨dv, H2, I2.kept k, rd, q dv H2 fp2 (e1.trans e2) w2 r2 n2 fun z => by simp [frs] at z⟩
  have h1 : ∀ (its : List Value), Vals vs its → ∀ (y : PyData) (ys : List PyData) (i : Nat) v h' tk bs, ds = y :: ys → its.toArray[i]? = some v → Reads h' v (maxD y ys) bs → (∀ b o, s2.heap.get? b = some o → h'.get? b = some o) → EP X pins σ Q v { s2 with heap := h', toks := tk } := fun its rv y ys i v h' tk bs e hi rd k => by
    subst e
    obtain ⟨vv, ff, rel, hp2, hsub⟩ := pick_item I2 hr rv hi rd k ha'.1 (maxD_mem y ys)
    exact ⟨vv, H2, I2.kept k, rel, q vv H2 ff (e1.trans e2) w2 hp2 (nr_sub n2' hsub) fun z => by simp [frs] at z⟩
  rcases sq_or hv with h | h
  · obtain ⟨its, rv, hl, _⟩ := I2.list h
    obtain ⟨as, ra⟩ := readsAll_vals I2 hr rv
    exact PySem.W.max_list_default (I2.ok.hd G.calm) hl.isList (by simpa using ra) ha' (by omega) h0 (h1 its rv)
  · obtain ⟨its, rv, hl, _⟩ := I2.tuple h
    obtain ⟨as, ra⟩ := readsAll_vals I2 hr rv
    exact PySem.W.max_tuple_default (I2.ok.hd G.calm) hl (by simpa using ra) ha' (by omega) h0 (h1 its rv)
end
end W3
namespace W3
open PySem PySem.Spec PyProof.Rows L2 NdefX LamX
section
variable {r : Option Addr} {T : List NTab} {Φ : Fam} (M : Φ.Mono)
theorem own_pl {pl : Option Nat} {own : List Nat} (h : own.all (fun i => decide (pl ≠ some i)) = true) : ∀ i, pl = some i → i ∉ own := fun i e hm => by
  have := List.all_eq_true.mp h i hm
  simp [e] at this
theorem contains_nat {l : List Nat} {i : Nat} (h : l.contains i = true) : i ∈ l := by simpa using h
include M
theorem pi_rng {C : Mc} {X : Cx} (G : Good Φ T C X) {es : List Ex} {es' : List Expr} {tg : Expr} {p pos : Pos} (hn : (es'.length = 1 ∨ es'.length = 2)) (hm : mtL es C es' = true) (hg : glB C.sc "range" = true) (ha : ∀ bad, PA X es' (TLc ⟨r, T, bad⟩ X.K C.pl Φ es)) (bad : List Addr) :
    PI X tg (.Call (.Name "range" p) es' [] pos) (TIc ⟨r, T, bad⟩ X.K C.pl Φ true es) := by
  have st := mtL_star hm
  refine pi_true M (ha bad) (G.gl hg) (G.bi _ (by decide +kernel)) (fun a rr e => ?_) (fun a b e => ?_) (mtL_len hm) hn
  · rw [e, List.all_cons, Bool.and_eq_true] at st
    exact star_cons st.1
  · rw [e, List.all_cons, Bool.and_eq_true, List.all_cons, Bool.and_eq_true] at st
    exact star_cons st.2.1
theorem mIt_sound {C : Mc} {X : Cx} (G : Good Φ T C X) (rg : Bool) (es : List Ex) {tg : Expr} (it : Expr) (h : mIt rg (mt1 es) (mtL es) C it = true)
    (h1 : ∀ (c : Ex) (e : Expr), mt1 es C e = true → ∃ c, es = [c] ∧ Snd r T C.pl Φ X c e) (hl : ∀ es', mtL es C es' = true → ∀ bad, PA X es' (TLc ⟨r, T, bad⟩ X.K C.pl Φ es)) (bad : List Addr) :
    PI X tg it (TIc ⟨r, T, bad⟩ X.K C.pl Φ rg es) := by
  unfold mIt at h
  split at h
  · split at h
    · rename_i es' hr
      obtain ⟨p2, p3, rfl⟩ := rngE_eq hr
      simp only [Bool.and_eq_true, decide_eq_true_eq] at h
      exact pi_rng M G h.1.1 h.1.2 h.2 (hl es' h.1.2) bad
    · cases h
  · obtain ⟨c, rfl, sc⟩ := h1 (.cst .none) it h
    exact pi_false M (sc.pe bad)
mutual
theorem mt_sound : ∀ (c : Ex) (C : Mc) (X : Cx) (_ : Good Φ T C X) (e : Expr), mt c C e = true → Snd r T C.pl Φ X c e
  | .slot i, C, X, G, e, h => by
    simp only [mt, mSlot] at h
    split at h
    · rename_i x hx
      obtain ⟨p, rfl⟩ := vName_eq hx
      exact s_slot M G h
    · cases h
  | .cst d, C, X, G, e, h => by
    simp only [mt, mCst] at h
    split at h
    · rename_i x hx
      obtain ⟨j, p, rfl⟩ := vConst_eq hx
      exact s_cst M h
    · cases h
  | .glob k, C, X, G, e, h => by
    simp only [mt, mGlob] at h
    split at h
    · rename_i x hx
      obtain ⟨p, rfl⟩ := vName_eq hx
      exact s_glob M G h
    · cases h
  | .op o a b, C, X, G, e, h => by
    simp only [mt, mOp] at h
    split at h
    · rename_i p a' b' hx
      obtain ⟨p, rfl⟩ := vBin_eq hx
      simp only [Bool.and_eq_true, decide_eq_true_eq] at h
      exact s_bin M G h.1.1 (mt_sound a C X G _ h.1.2) (mt_sound b C X G _ h.2)
    · split at h
      · rename_i p a' b' hx
        obtain ⟨p, rfl⟩ := vCmp_eq hx
        simp only [Bool.and_eq_true, decide_eq_true_eq] at h
        exact s_cmp M G h.1.1.1 h.1.1.2 (mt_sound a C X G _ h.1.2) (mt_sound b C X G _ h.2)
      · cases h
  | .un o a, C, X, G, e, h => by
    simp only [mt, mUn] at h
    split at h
    · rename_i p a' hx
      obtain ⟨p, rfl⟩ := vUn_eq hx
      simp only [Bool.and_eq_true, decide_eq_true_eq] at h
      obtain ⟨⟨h1, h2⟩, h3⟩ := h
      rw [isUS_eq h1]
      subst h2
      exact s_neg M (mt_sound a C X G _ h3)
    · split at h
      · rename_i p a' c hx
        obtain ⟨p, rfl⟩ := vCmp_eq hx
        split at h
        · rename_i k p' k' hk ho
          obtain ⟨j, p, rfl⟩ := vConst_eq hk
          simp only [Bool.and_eq_true, decide_eq_true_eq] at h
          obtain ⟨⟨h1, h2⟩, h3⟩ := h
          subst h1
          exact s_un M G ho h2 (mt_sound a C X G _ h3)
        · cases h
      · cases h
  | .and a b, C, X, G, e, h => by
    simp only [mt, mAnd] at h
    split at h
    · rename_i o a' b' hx
      simp only [Bool.and_eq_true] at h
      obtain ⟨⟨h1, h2⟩, h3⟩ := h
      have ho := isAnd_eq.1 h1
      subst ho
      have sa := mt_sound a C X G _ h2
      have sb := mt_sound b C X G _ h3
      rcases vBool_eq hx with ⟨p, rfl⟩ | ⟨b', c, rr, p, rfl, rfl⟩
      · exact s_and M sa (fun bad => pe_one (sb.pe bad)) fun bad => pw_and1 (sb.pt bad)
      · exact s_and M sa (fun bad => sb.pe bad) fun bad => sb.pw rfl bad
    · cases h
  | .or a b, C, X, G, e, h => by
    simp only [mt, mOr] at h
    split at h
    · rename_i o a' b' hx
      simp only [Bool.and_eq_true] at h
      obtain ⟨⟨h1, h2⟩, h3⟩ := h
      have ho := isAnd_eq.2 h1
      subst ho
      have sa := mt_sound a C X G _ h2
      have sb := mt_sound b C X G _ h3
      rcases vBool_eq hx with ⟨p, rfl⟩ | ⟨b', c, rr, p, rfl, rfl⟩
      · exact s_or M sa (fun bad => pe_one (sb.pe bad)) fun bad => pw_or1 (sb.pt bad)
      · exact s_or M sa (fun bad => sb.pe bad) fun bad => sb.pw rfl bad
    · cases h
  | .not a, C, X, G, e, h => by
    simp only [mt, mNot] at h
    split at h
    · rename_i p a' hx
      obtain ⟨p, rfl⟩ := vUn_eq hx
      simp only [Bool.and_eq_true] at h
      rw [isNotU_eq h.1.1]
      exact s_not M h.1.2 (mt_sound a C X G _ h.2)
    · cases h
  | .ite c a b, C, X, G, e, h => by
    simp only [mt, mIte] at h
    split at h
    · rename_i c' a' b' hx
      obtain ⟨p, rfl⟩ := vIf_eq hx
      simp only [Bool.and_eq_true] at h
      exact s_ite M (mt_sound c C X G _ h.1.1) (mt_sound a C X G _ h.1.2) (mt_sound b C X G _ h.2)
    · cases h
  | .chn o1 o2 a b c, C, X, G, e, h => by
    simp only [mt, mChn] at h
    split at h
    · rename_i p1 p2 a' b' c' hx
      obtain ⟨p, rfl⟩ := vCmp2_eq hx
      simp only [Bool.and_eq_true, decide_eq_true_eq] at h
      obtain ⟨⟨⟨⟨⟨h1, h2⟩, h3⟩, h4⟩, h5⟩, h6⟩ := h
      exact s_chn M G h1 h2 h3 (mt_sound a C X G _ h4) (mt_sound b C X G _ h5) (mt_sound c C X G _ h6)
    · cases h
  | .tup es, C, X, G, e, h => by
    simp only [mt, mTup] at h
    split at h
    · rename_i es' hx
      obtain ⟨k, p, rfl⟩ := vTup_eq hx
      simp only [Bool.and_eq_true, decide_eq_true_eq] at h
      exact s_tup M (mtL_sound es C X G _ h.2) h.1
    · cases h
  | .lst es, C, X, G, e, h => by
    simp only [mt, mLst] at h
    split at h
    · rename_i es' hx
      obtain ⟨p, rfl⟩ := vLst_eq hx
      simp only [Bool.and_eq_true, decide_eq_true_eq] at h
      exact s_lst M (mtL_sound es C X G _ h.2) h.1
    · cases h
  | .ix a b, C, X, G, e, h => by
    simp only [mt, mIx] at h
    split at h
    · rename_i a' b' hx
      obtain ⟨p, rfl⟩ := vSub_eq hx
      simp only [Bool.and_eq_true] at h
      exact s_ix M h.1.1 (mt_sound a C X G _ h.1.2) (mt_sound b C X G _ h.2)
    · cases h
  | .sl a lo hi, C, X, G, e, h => by
    simp only [mt, mSl] at h
    split at h
    · rename_i a' lo' hi' hx
      obtain ⟨p2, p, rfl⟩ := vSlice_eq hx
      simp only [Bool.and_eq_true] at h
      exact s_sl M (mt_sound a C X G _ h.1.1) (mtO_sound lo C X G _ h.1.2) (mtO_sound hi C X G _ h.2)
    · cases h
  | .b1 f a, C, X, G, e, h => by
    simp only [mt, mB1] at h
    split at h
    · rename_i x a' hx
      simp only [Bool.and_eq_true] at h
      obtain ⟨⟨h1, h2⟩, h3⟩ := h
      have sa := mt_sound a C X G _ h3
      rcases vB1_eq hx with ⟨_, _, e1, _⟩ | ⟨_, _, e1, _⟩ | ⟨rfl, rfl, _, p1, p2, rfl⟩ | ⟨hf, _, p1, p2, rfl⟩
      · cases e1
      · cases e1
      · exact s_srt M G h1 h2 sa
      · exact s_b1 M G hf h1 h2 sa
    · rename_i x y a' hx
      simp only [Bool.and_eq_true] at h
      obtain ⟨⟨⟨h1, h1b⟩, h2⟩, h3⟩ := h
      have sa := mt_sound a C X G _ h3
      rcases vB1_eq hx with ⟨rfl, rfl, e1, p1, p2, p3, p4, rfl⟩ | ⟨rfl, rfl, e1, p1, p2, p3, p4, rfl⟩ | ⟨_, _, e1, _⟩ | ⟨_, e1, _⟩
      · cases e1
        exact s_sset M G h1 h1b h2 sa
      · cases e1
        exact s_lset M G h1 h1b h2 sa
      · cases e1
      · cases e1
    · cases h
  | .mx2 a b, C, X, G, e, h => by
    simp only [mt, mM2] at h
    split at h
    · rename_i f a' b' hx
      obtain ⟨p2, p, rfl⟩ := vCall_eq hx
      simp only [Bool.and_eq_true, decide_eq_true_eq] at h
      obtain ⟨⟨⟨⟨⟨rfl, h2⟩, h3⟩, h4⟩, h5⟩, h6⟩ := h
      exact s_mx2 M G h2 h3 h4 (mt_sound a C X G _ h5) (mt_sound b C X G _ h6)
    · cases h
  | .mn2 a b, C, X, G, e, h => by
    simp only [mt, mM2] at h
    split at h
    · rename_i f a' b' hx
      obtain ⟨p2, p, rfl⟩ := vCall_eq hx
      simp only [Bool.and_eq_true, decide_eq_true_eq] at h
      obtain ⟨⟨⟨⟨⟨rfl, h2⟩, h3⟩, h4⟩, h5⟩, h6⟩ := h
      exact s_mn2 M G h2 h3 h4 (mt_sound a C X G _ h5) (mt_sound b C X G _ h6)
    · cases h
  | .call f cs, C, X, G, e, h => by
    simp only [mt, mCall] at h
    split at h
    · rename_i x es hx
      obtain ⟨p2, p, rfl⟩ := vCall_eq hx
      simp only [Bool.and_eq_true, decide_eq_true_eq] at h
      obtain ⟨⟨⟨⟨⟨h1, h2⟩, h3⟩, h4⟩, h5⟩, h6⟩ := h
      cases es with
      | nil => simp at h5
      | cons e es => exact s_call M G (contains_nat h2) h1 h3 (not_of h4) (mtL_star h6) (mtL_sound cs C X G _ h6)
    · cases h
  | .callP f cs, C, X, G, e, h => by
    simp only [mt, mCallP] at h
    split at h
    · rename_i x e1 es hx
      obtain ⟨p2, p, rfl⟩ := vCall_eq hx
      simp only [Bool.and_eq_true, decide_eq_true_eq] at h
      obtain ⟨⟨⟨⟨⟨h1, h2⟩, h3⟩, h4⟩, h5⟩, h6⟩ := h
      split at h5
      · rename_i y i hy hpl
        obtain ⟨p3, rfl⟩ := vName_eq hy
        simp only [Bool.and_eq_true, decide_eq_true_eq] at h5
        obtain ⟨⟨⟨g1, g2⟩, g3⟩, g4⟩ := h5
        exact s_callP M G (contains_nat h2) h1 h3 (not_of h4) hpl g1 g2 (not_of g3) (not_of g4) (mtL_star h6) (mtL_sound cs C X G _ h6)
      · cases h5
    · cases h
  | .lc own tg rg es t e, C, X, G, x, h => by
    simp only [mt, mLc] at h
    split at h
    · rename_i elt tg' it ifs scope hx
      obtain ⟨p, rfl⟩ := vComp1_eq hx
      simp only [Bool.and_eq_true] at h
      obtain ⟨⟨⟨⟨⟨⟨⟨h1, h2⟩, h3⟩, h4⟩, h5⟩, h6⟩, h7⟩, h8⟩ := h
      exact s_lc M G (fun bad => mIt_sound M G rg es it h5 (fun c e hc => mt1_sound es C X G _ hc) (fun es' hm => mtL_sound es C X G _ hm) bad) h1 h3 (own_pl h2) h4 (fun X' G' P => tg_sound G' P tg tg' h6) (fun X' G' => mtOT_sound t _ X' G' _ h7) (fun X' G' => mt_sound e _ X' G' _ h8)
    · cases h
  | .lc2 own own2 tg rg es t tg2 rg2 es2 t2 e, C, X, G, x, h => by
    simp only [mt, mLc2] at h
    split at h
    · rename_i elt tg' it ifs tg2' it2 ifs2 scope hx
      obtain ⟨p, rfl⟩ := vComp2_eq hx
      simp only [Bool.and_eq_true] at h
      obtain ⟨⟨⟨⟨⟨⟨⟨⟨⟨⟨⟨⟨⟨h1, h2⟩, h2b⟩, h3⟩, h3b⟩, h4⟩, h4b⟩, h5⟩, h5b⟩, h6⟩, h7⟩, h6b⟩, h7b⟩, h8⟩ := h
      exact s_lc2 M G (fun bad => mIt_sound M G rg es it h5 (fun c e hc => mt1_sound es C X G _ hc) (fun es' hm => mtL_sound es C X G _ hm) bad) h1 (fun i hi => contains_nat (List.all_eq_true.mp h2b i hi)) h3 h3b (own_pl h2) h4 h4b (fun X' G' P => tg_sound G' P tg tg' h6) (fun X' G' => mtOT_sound t _ X' G' _ h7)
        (fun X' G' bad => mIt_sound M G' rg2 es2 it2 h5b (fun c e hc => mt1_sound es2 _ X' G' _ hc) (fun es' hm => mtL_sound es2 _ X' G' _ hm) bad) (fun X' G' P => tg_sound G' P tg2 tg2' h6b) (fun X' G' => mtOT_sound t2 _ X' G' _ h7b) (fun X' G' => mt_sound e _ X' G' _ h8)
    · cases h
  | .rev _, _, _, _, _, h => by cases h
  | .mxd a d, C, X, G, e, h => by
    simp only [mt, mMxd] at h
    split at h
    · rename_i a' d' hx
      obtain ⟨p1, kpos, pos, rfl⟩ := vMxd_eq hx
      simp only [Bool.and_eq_true] at h
      obtain ⟨⟨⟨h1, h2⟩, h3⟩, h4⟩ := h
      exact s_mxd M G h1 h2 (mt_sound a C X G a' h3) (mt_sound d C X G d' h4)
    · cases h
  | .isi _ _, _, _, _, _, h => by cases h
  | .idx _ _, _, _, _, _, h => by cases h
  | .cnt _ _, _, _, _, _, h => by cases h
  | .rl tp es, C, X, G, e, h => by
    simp only [mt, mRl] at h
    split at h
    · rename_i f a hx
      obtain ⟨p2, p, rfl⟩ := vCall_eq hx
      split at h
      · rename_i es' hr
        obtain ⟨p3, p4, rfl⟩ := rngE_eq hr
        simp only [Bool.and_eq_true, decide_eq_true_eq] at h
        obtain ⟨⟨⟨⟨⟨h1, h2⟩, h3⟩, h4⟩, h5⟩, h6⟩ := h
        exact s_rl M G h1 h2 h3 h5 (mtA_sound es C X G _ h6)
      · cases h
    · cases h
  | .key _ true _ _ _, _, _, _, _, h => by cases h
  | .key k false es caps body, C, X, G, e, h => by
    simp only [mt, mKey] at h
    split at h
    · rename_i fn a' params body' scope hx
      obtain ⟨p1, lpos, kpos, pos, rfl⟩ := vKey_eq hx
      simp only [Bool.and_eq_true, decide_eq_true_eq] at h
      obtain ⟨⟨⟨⟨⟨⟨⟨hk, hfn⟩, hl⟩, hb⟩, hg⟩, na⟩, ha⟩, hc⟩ := h
      split at hc
      · split at hc
        · rename_i x hx2
          simp only [Bool.and_eq_true, decide_eq_true_eq] at hc
          obtain ⟨⟨⟨h1, h2⟩, h3⟩, h4⟩ := hc
          obtain ⟨a, rfl, sa⟩ := mt1_sound es C X G a' ha
          exact s_key M G hk hfn hl (not_of hb) hg na sa hx2 h1 h2 h3 fun X' G' => mt_sound body _ X' G' _ h4
        · cases hc
      · cases hc
    · cases h
theorem mtL_sound : ∀ (cs : List Ex) (C : Mc) (X : Cx) (_ : Good Φ T C X) (es : List Expr), mtL cs C es = true → ∀ bad, PA X es (TLc ⟨r, T, bad⟩ X.K C.pl Φ cs)
  | [], C, X, G, es, h, bad => by
    cases es with
    | nil => exact pa_nil_c
    | cons => cases h
  | c :: cs, C, X, G, es, h, bad => by
    cases es with
    | nil => cases h
    | cons e es =>
      have h : (noStar e && mt c C e && mtL cs C es) = true := h
      simp only [Bool.and_eq_true] at h
      exact pa_cons_c M h.1.1 ((mt_sound c C X G e h.1.2).pe bad) (mtL_sound cs C X G es h.2 bad)
theorem mtA_sound : ∀ (cs : List Ex) (C : Mc) (X : Cx) (_ : Good Φ T C X) (es : List Expr), mtL cs C es = true → AllS r T C.pl Φ X cs es
  | [], C, X, G, es, h => by
    cases es with
    | nil => exact trivial
    | cons => cases h
  | c :: cs, C, X, G, es, h => by
    cases es with
    | nil => cases h
    | cons e es =>
      have h : (noStar e && mt c C e && mtL cs C es) = true := h
      simp only [Bool.and_eq_true] at h
      exact ⟨⟨h.1.1, mt_sound c C X G e h.1.2⟩, mtA_sound cs C X G es h.2⟩
theorem mt1_sound : ∀ (cs : List Ex) (C : Mc) (X : Cx) (_ : Good Φ T C X) (e : Expr), mt1 cs C e = true → ∃ c, cs = [c] ∧ Snd r T C.pl Φ X c e
  | [], C, X, G, e, h => by cases h
  | c :: cs, C, X, G, e, h => by
    have h : (cs.isEmpty && mt c C e) = true := h
    simp only [Bool.and_eq_true] at h
    cases cs with
    | nil => exact ⟨c, rfl, mt_sound c C X G e h.2⟩
    | cons => cases h.1
theorem mtO_sound : ∀ (lo : Option Ex) (C : Mc) (X : Cx) (_ : Good Φ T C X) (e : Option Expr), mtO lo C e = true → ∀ bad, PO X e (TOi ⟨r, T, bad⟩ X.K C.pl Φ lo)
  | none, C, X, G, e, h, bad => by
    cases e with
    | some => cases h
    | none => exact ⟨fun pins s σ H Q I q => po_none.run pins s σ H Q I (by
        obtain ⟨Γ, g, he, hp, w, q⟩ := q
        exact q H (Ext.refl _ _) w)⟩
  | some c, C, X, G, e, h, bad => by
    cases e with
    | none => cases h
    | some e =>
      refine ⟨fun pins s σ H Q I q => (po_some ((mt_sound c C X G e h).pe bad)).run pins s σ H Q I ?_⟩
      obtain ⟨Γ, g, he, hp, w, q⟩ := q
      refine stepE M he hp w q fun x g1 v H1 f1 e1 w1 r1 n1 _ he1 hp1 q1 => ?_
      cases r1 with
      | int i => exact ⟨i, rfl, q1 H1 e1 w1⟩
      | _ => exact False.elim q1
theorem mtOT_sound : ∀ (t : Option Ex) (C : Mc) (X : Cx) (_ : Good Φ T C X) (ifs : List Expr), mtOT t C ifs = true → PTs X ifs (TOx r T X.K C.pl Φ t)
  | none, C, X, G, ifs, h => pts_c h fun c e hc => by cases hc
  | some c, C, X, G, ifs, h => by
    match ifs, h with
    | [e], h =>
      refine pts_c (C := C) h fun c' e' hc he => ?_
      cases hc
      cases he
      exact mt_sound c C X G e h
    | [], h => cases h
    | _ :: _ :: _, h => cases h
end
end
end W3
namespace W3
open PySem PySem.Spec PyProof.Rows L2 NdefX LamX
structure KeLe (K K' : Ke) : Prop where
  nx : ∀ Γ g, K.nx Γ g → K'.nx Γ g
  rt : ∀ d g, K.rt d g → K'.rt d g
  bk : ∀ Γ g, K.bk Γ g → K'.bk Γ g
  ct : ∀ Γ g, K.ct Γ g → K'.ct Γ g
theorem KeLe.refl (K : Ke) : KeLe K K := ⟨fun _ _ z => z, fun _ _ z => z, fun _ _ z => z, fun _ _ z => z⟩
theorem KeLe.next {K K' : Ke} (h : KeLe K K') {f f' : Sl → Nat → Prop} (hf : ∀ Γ g, f Γ g → f' Γ g) : KeLe { K with nx := f } { K' with nx := f' } := ⟨hf, h.rt, h.bk, h.ct⟩
theorem forW_mono {f f' : D → Sl → Nat → Ke → Prop} (hf : ∀ d Γ g K K', KeLe K K' → f d Γ g K → f' d Γ g K') {K K' : Ke} (h : KeLe K K') : ∀ {ds : List D} {Γ : Sl} {g : Nat}, forW f K ds Γ g → forW f' K' ds Γ g
  | [], _, _, q => h.nx _ _ q
  | d :: ds, _, _, q => hf _ _ _ { K with nx := forW f K ds, ct := forW f K ds, bk := K.nx } _ ⟨fun _ _ z => forW_mono hf h z, h.rt, h.nx, fun _ _ z => forW_mono hf h z⟩ q
theorem whlW_mono {c c' : Sl → Nat → (Bool → Nat → Prop) → Prop} {b b' : Sl → Nat → Ke → Prop} (hc : ∀ Γ g (P Q : Bool → Nat → Prop), (∀ t g, P t g → Q t g) → c Γ g P → c' Γ g Q) (hb : ∀ Γ g K K', KeLe K K' → b Γ g K → b' Γ g K') {K K' : Ke} (h : KeLe K K') :
    ∀ {n : Nat} {Γ : Sl} {g : Nat}, whlW c b K n Γ g → whlW c' b' K' n Γ g
  | 0, _, _, q => q.elim
  | n + 1, _, _, q => hc _ _ _ _ (fun t g z => by
      cases t
      · exact h.nx _ _ z
      · exact hb _ _ { K with nx := whlW c b K n, ct := whlW c b K n, bk := K.nx } _ ⟨fun _ _ z => whlW_mono hc hb h z, h.rt, h.nx, fun _ _ z => whlW_mono hc hb h z⟩ z) q
theorem lstK_mono {Γ : Sl} {i : Nat} {P Q : List D → Prop} (h : ∀ ds, P ds → Q ds) (q : lstK Γ i P) : lstK Γ i Q := by
  refine getS_mono (fun d z => ?_) q
  cases d with
  | list ds => exact h _ z
  | _ => exact z.elim
section
variable {Φ : Fam} (M : Φ.Mono) {O : Own}
include M
theorem wpT_mono {c : Ex} {Γ : Sl} {g : Nat} {P Q : Bool → Nat → Prop} (h : ∀ t g, P t g → Q t g) (q : wpT Φ c Γ g P) : wpT Φ c Γ g Q := wpE_mono M (e := c) (fun _ _ z => boolK_mono (fun _ z => h _ _ z) z) q
mutual
theorem wpS_mono : ∀ {s : Sc} {Γ : Sl} {g : Nat} {K K' : Ke}, KeLe K K' → wpS Φ O s Γ g K → wpS Φ O s Γ g K'
  | .set tg e, _, _, _, _, h, q => wpE_mono M (e := e) (fun _ _ z => ⟨z.1, wpTg_mono (fun _ z => h.nx _ _ z) z.2⟩) q
  | .par i j a b, _, _, _, _, h, q => wpE_mono M (e := a) (fun _ _ z => wpE_mono M (e := b) (fun _ _ z => ⟨z.1, h.nx _ _ z.2⟩) z) q
  | .cpy i j, _, _, _, _, h, q => ⟨q.1, getS_mono (fun _ z => h.nx _ _ z) q.2⟩
  | .mov i j, _, _, _, _, h, q => getS_mono (fun _ z => h.nx _ _ z) q
  | .tri i j l a b c, _, _, _, _, h, q => wpE_mono M (e := a) (fun _ _ z => wpE_mono M (e := b) (fun _ _ z => wpE_mono M (e := c) (fun _ _ z => ⟨z.1, h.nx _ _ z.2⟩) z) z) q
  | .aug i o e, _, _, _, _, h, q => getS_mono (fun _ z => intK_mono (fun _ z => wpE_mono M (e := e) (fun _ _ z => op2_mono (fun _ z => h.nx _ _ z) z) z) z) q
  | .augAt i k o e, _, _, _, _, h, q => ⟨q.1, lstK_mono (fun _ z => ⟨z.1, wpE_mono M (e := k) (fun _ _ z => intK_mono (fun _ z => ixK_mono (fun _ z => intK_mono (fun _ z => wpE_mono M (e := e) (fun _ _ z => op2_mono (fun _ z => h.nx _ _ z) z) z) z) z) z) z.2⟩) q.2⟩
  | .setAt i k e, _, _, _, _, h, q => ⟨q.1, lstK_mono (fun _ z => ⟨z.1, wpE_mono M (e := e) (fun _ _ z => wpE_mono M (e := k) (fun _ _ z => intK_mono (fun _ z => ⟨z.1, h.nx _ _ z.2⟩) z) z) z.2⟩) q.2⟩
  | .app i e, _, _, _, _, h, q => ⟨q.1, lstK_mono (fun _ z => wpE_mono M (e := e) (fun _ _ z => ⟨z.1, h.nx _ _ z.2⟩) z) q.2⟩
  | .appAt i k e, _, _, _, _, h, q => ⟨q.1, getS_mono (fun _ z => seqK_mono (fun _ z => wpE_mono M (e := k) (fun _ _ z => intK_mono (fun _ z => by
      obtain ⟨z0, xs, e1, z⟩ := z
      exact ⟨z0, xs, e1, wpE_mono M (e := e) (fun _ _ z => ⟨z.1, h.nx _ _ z.2⟩) z⟩) z) z) z) q.2⟩
  | .ext i e, _, _, _, _, h, q => ⟨q.1, lstK_mono (fun _ z => wpE_mono M (e := e) (fun z _ q => by
      cases z with
      | list zs => exact ⟨q.1, h.nx _ _ q.2⟩
      | _ => exact q.elim) z) q.2⟩
  | .rem i e, _, _, _, _, h, q => ⟨q.1, lstK_mono (fun _ z => intsK_mono (fun _ z => wpE_mono M (e := e) (fun _ _ z => intK_mono (fun _ z => ⟨z.1, h.nx _ _ z.2⟩) z) z) z) q.2⟩
  | .popS x y first, _, _, _, _, h, q => ⟨q.1, lstK_mono (fun d q => by
      obtain ⟨f, z, e, q⟩ := q
      exact ⟨f, z, e, h.nx _ _ q⟩) q.2⟩
  | .popCat i j e, _, _, _, _, h, q => ⟨q.1, lstK_mono (fun _ z => ⟨z.1, getS_mono (fun d z => by
      cases d with
      | tuple ds =>
        exact wpE_mono M (e := e) (fun _ _ z => intK_mono (fun _ z => by
          obtain ⟨z0, x, e1, e2, z⟩ := z
          exact ⟨z0, x, e1, e2, h.nx _ _ z⟩) z) z
      | _ => exact z.elim) z.2⟩) q.2⟩
  | .ret e, _, _, _, _, h, q => wpE_mono M (e := e) (fun _ _ z => ⟨z.1, h.rt _ _ z.2⟩) q
  | .retN, _, _, _, _, h, q => h.rt _ _ q
  | .brk, _, _, _, _, h, q => h.bk _ _ q
  | .cnt, _, _, _, _, h, q => h.ct _ _ q
  | .pas, _, _, _, _, h, q => h.nx _ _ q
  | .nev, _, _, _, _, h, q => q
  | .ite c a b, _, _, _, _, h, q => wpT_mono M (fun t _ z => by
      cases t
      · exact wpB_mono (ss := b) h z
      · exact wpB_mono (ss := a) h z) q
  | .for_ tg r es body, _, _, _, _, h, q => wpL_mono M (es := es) (fun _ _ z => ⟨z.1, itK_mono (fun _ z => forW_mono (fun _ _ _ _ _ hk z => wpTg_mono (fun _ z => wpB_mono (ss := body) hk z) z) h z) z.2⟩) q
  | .whl c body, _, _, _, _, h, q => let ⟨n, q⟩ := q; ⟨n, whlW_mono (c := wpT Φ c) (b := wpB Φ O body) (fun _ _ _ _ hh z => wpT_mono M hh z) (fun _ _ _ _ hk z => wpB_mono (ss := body) hk z) h q⟩
theorem wpB_mono : ∀ {ss : List Sc} {Γ : Sl} {g : Nat} {K K' : Ke}, KeLe K K' → wpB Φ O ss Γ g K → wpB Φ O ss Γ g K'
  | [], _, _, _, _, h, q => h.nx _ _ q
  | s :: ss, _, _, _, _, h, q => wpS_mono (s := s) (h.next fun _ _ z => wpB_mono (ss := ss) h z) q
end
end
end W3
namespace W3
open PySem PySem.Spec PyProof.Rows L2 NdefX LamX
/-- what stays: the tuples of h, the lists at l -/
structure Zs where
  h : Hp
  l : List Addr
structure StZ (P : Pw) (Z : Zs) (H : Hp) : Prop where
  tup : ∀ b xs, Z.h b = some (.tup xs) → H b = some (.tup xs)
  frz : ∀ b o u, Z.h b = some (.frz o u) → H b = some (.frz o u)
  lst : ∀ a ∈ Z.l, (∃ xs, Z.h a = some (.lst xs) ∧ H a = some (.lst xs)) ∧ P.r ≠ some a
structure EnvF (P : Pw) (K : PySem.W.Frag) (pl : Option Nat) (M : Own) (H0 : Hp) (Z : Zs) (σ : L2.St) (H : Hp) (Γ : Sl) (g : Nat) (F : Nat → List Addr) : Prop where
  len : Γ.length = σ.length
  at_ : ∀ (i : Nat) d, Γ[i]? = some (some d) → ∃ v, σ[i]? = some (some v) ∧ Rp K H v d (F i) ∧ nr P (F i)
  off : ∀ (i : Nat), (∀ d, Γ[i]? ≠ some (some d)) → F i = []
  own : ∀ i ∈ M, (F i).Nodup ∧ (∀ p ∈ F i, H0 p = none ∧ p ∉ Z.l) ∧ ∀ j, j ≠ i → ∀ p ∈ F i, p ∉ F j
  pool : ∀ i, pl = some i → ∃ p, σ[i]? = some (some (.ref p)) ∧ PoolAt P H0 p
  wi : WI P g H
  ext : Ext P H0 H
  st : StZ P Z H
def EnvS (P : Pw) (K : PySem.W.Frag) (pl : Option Nat) (M : Own) (H0 : Hp) (Z : Zs) (σ : L2.St) (H : Hp) (Γ : Sl) (g : Nat) : Prop := ∃ F, EnvF P K pl M H0 Z σ H Γ g F
section
variable {P : Pw} {K : PySem.W.Frag} {pl : Option Nat} {M : Own} {H0 H H1 : Hp} {Z Z' : Zs} {σ : L2.St} {Γ : Sl} {g g1 : Nat} {F : Nat → List Addr}
theorem EnvF.r (e : EnvF P K pl M H0 Z σ H Γ g F) : EnvR P K σ H Γ := ⟨e.len, fun i d q => by
  obtain ⟨v, h1, h2, h3⟩ := e.at_ i d q
  exact ⟨v, _, h1, h2, h3⟩⟩
theorem EnvF.p (e : EnvF P K pl M H0 Z σ H Γ g F) : EnvP P pl σ H := fun i q => by
  obtain ⟨p, h1, h2⟩ := e.pool i q
  exact ⟨p, h1, h2.ext e.ext⟩
theorem EnvF.there (e : EnvF P K pl M H0 Z σ H Γ g F) (i : Nat) {p : Addr} (h : p ∈ F i) : ∃ xs, H p = some (.lst xs) := by
  by_cases hl : ∃ d, Γ[i]? = some (some d)
  · obtain ⟨d, hd⟩ := hl
    obtain ⟨v, h1, h2, h3⟩ := e.at_ i d hd
    exact h2.there p h
  · rw [e.off i fun d hd => hl ⟨d, hd⟩] at h
    cases h
theorem EnvF.nrF (e : EnvF P K pl M H0 Z σ H Γ g F) (i : Nat) : nr P (F i) := by
  by_cases hl : ∃ d, Γ[i]? = some (some d)
  · obtain ⟨d, hd⟩ := hl
    obtain ⟨v, h1, h2, h3⟩ := e.at_ i d hd
    exact h3
  · rw [e.off i fun d hd => hl ⟨d, hd⟩]
    exact nr_nil
theorem StZ.ext (s : StZ P Z H) (e : Ext P H H1) (w : WI P g H) : StZ P Z H1 := by
  have := e.stp w
  refine ⟨fun b xs q => this.tup b xs (s.tup b xs q), fun b o u q => this.frz b o u (s.frz b o u q), fun a ha => ?_⟩
  obtain ⟨⟨xs, h1, h2⟩, h3⟩ := s.lst a ha
  exact ⟨⟨xs, h1, e.keep a _ h2 (fun ps z => by cases z) h3⟩, h3⟩
theorem EnvF.grow (e : EnvF P K pl M H0 Z σ H Γ g F) (x : Ext P H H1) (w : WI P g1 H1) : EnvF P K pl M H0 Z σ H1 Γ g1 F where
  len := e.len
  at_ := fun i d q => by
    obtain ⟨v, h1, h2, h3⟩ := e.at_ i d q
    exact ⟨v, h1, h2.ext x e.wi h3, h3⟩
  off := e.off
  own := e.own
  pool := e.pool
  wi := w
  ext := e.ext.trans x
  st := e.st.ext x e.wi
/-- these addresses belong to no slot, are new since the entry -/
structure Fresh (H0 : Hp) (Z : Zs) (F : Nat → List Addr) (fp : List Addr) : Prop where
  nd : fp.Nodup
  h0 : ∀ p ∈ fp, H0 p = none ∧ p ∉ Z.l
  out : ∀ j, ∀ p ∈ fp, p ∉ F j
theorem Fresh.nil : Fresh H0 Z F [] := ⟨List.nodup_nil, (fun _ h => nomatch h), (fun _ _ h => nomatch h)⟩
/-- new since a heap of now -/
theorem EnvF.fresh (e : EnvF P K pl M H0 Z σ H Γ g F) {fp : List Addr} (hn : fp.Nodup) (hf : ∀ p ∈ fp, H p = none) : Fresh H0 Z F fp where
  nd := hn
  h0 := fun p hp => ⟨e.ext.free p (hf p hp), fun hz => by
    obtain ⟨⟨xs, h1, h2⟩, h3⟩ := e.st.lst p hz
    rw [hf p hp] at h2; cases h2⟩
  out := fun j p hp hm => by
    obtain ⟨xs, q⟩ := e.there j hm
    rw [hf p hp] at q; cases q
theorem EnvF.set (e : EnvF P K pl M H0 Z σ H Γ g F) {i : Nat} {v : V} {d : D} {fp : List Addr} (hp : pl ≠ some i) (r : Rp K H v d fp) (n : nr P fp) (f : Fresh H0 Z F fp) :
    EnvF P K pl M H0 Z (σ.set i (some v)) H (Γ.set i (some d)) g (fun j => if j = i ∧ i < Γ.length then fp else F j) where
  len := by simp [e.len]
  at_ := fun j d' q => by
    by_cases hj : j = i
    · subst hj
      by_cases hl : j < Γ.length
      · rw [List.getElem?_set_self hl] at q
        cases q
        rw [if_pos ⟨rfl, hl⟩]
        exact ⟨v, List.getElem?_set_self (by rw [← e.len]; exact hl), r, n⟩
      · rw [List.getElem?_eq_none (by simpa using hl)] at q
        cases q
    · rw [List.getElem?_set_ne (Ne.symm hj)] at q
      rw [if_neg fun z => hj z.1]
      obtain ⟨v', h1, h2, h3⟩ := e.at_ j d' q
      exact ⟨v', by rw [List.getElem?_set_ne (Ne.symm hj)]; exact h1, h2, h3⟩
  off := fun j q => by
    by_cases hj : j = i
    · subst hj
      by_cases hl : j < Γ.length
      · exact absurd (List.getElem?_set_self hl) (q d)
      · rw [if_neg fun z => hl z.2]
        refine e.off j fun d' hd => ?_
        rw [List.getElem?_eq_none (by omega)] at hd
        cases hd
    · rw [if_neg fun z => hj z.1]
      refine e.off j fun d' hd => q d' ?_
      rw [List.getElem?_set_ne (Ne.symm hj)]
      exact hd
  own := fun k hk => by
    obtain ⟨o1, o2, o3⟩ := e.own k hk
    by_cases hki : k = i ∧ i < Γ.length
    · obtain ⟨rfl, hl⟩ := hki
      rw [if_pos ⟨rfl, hl⟩]
      refine ⟨f.nd, f.h0, fun j hj p hm => ?_⟩
      rw [if_neg fun z => hj z.1]
      exact f.out j p hm
    · rw [if_neg hki]
      refine ⟨o1, o2, fun j hj p hm => ?_⟩
      by_cases hji : j = i ∧ i < Γ.length
      · rw [if_pos hji]
        exact fun hm2 => f.out k p hm2 hm
      · rw [if_neg hji]
        exact o3 j hj p hm
  pool := fun j q => by
    obtain ⟨p, h1, h2⟩ := e.pool j q
    refine ⟨p, ?_, h2⟩
    rw [List.getElem?_set_ne (fun z => hp (by rw [z]; exact q))]
    exact h1
  wi := e.wi
  ext := e.ext
  st := e.st
/-- an own slot's list is written; fp: what the slot holds then -/
theorem EnvF.write (e : EnvF P K pl M H0 Z σ H Γ g F) {i : Nat} {a : Addr} {xs ys : List V} {d0 d : D} {fp : List Addr} (hi : i ∈ M) (hd : Γ[i]? = some (some d0)) (ha : a ∈ F i) (hx : H a = some (.lst xs))
    (r : ∀ v, σ[i]? = some (some v) → Rp K (upd H a (.lst ys)) v d fp) (n : nr P fp) (f : fp.Nodup ∧ (∀ p ∈ fp, p ∈ F i ∨ Fresh H0 Z F [p])) :
    EnvS P K pl M H0 Z σ (upd H a (.lst ys)) (Γ.set i (some d)) g := by
  obtain ⟨o1, o2, o3⟩ := e.own i hi
  have hl : i < Γ.length := by
    rcases Nat.lt_or_ge i Γ.length with h | h
    · exact h
    · rw [List.getElem?_eq_none h] at hd; cases hd
  have same : ∀ b, b ≠ a → upd H a (.lst ys) b = H b := fun b hb => upd_ne hb
  have tupk : ∀ b ws, H b = some (.tup ws) → upd H a (.lst ys) b = some (.tup ws) := fun b ws q => by
    rw [same b]
    · exact q
    · intro z; rw [z, hx] at q; cases q
  have frzk : ∀ b o u, H b = some (.frz o u) → upd H a (.lst ys) b = some (.frz o u) := fun b o u q => by
    rw [same b]
    · exact q
    · intro z; rw [z, hx] at q; cases q
  refine ⟨fun j => if j = i then fp else F j, ?_⟩
  refine
    { len := by simp [e.len]
      at_ := fun j d' q => ?_
      off := fun j q => ?_
      own := fun k hk => ?_
      pool := e.pool
      wi := ?_
      ext := ?_
      st := ?_ }
  · by_cases hj : j = i
    · subst hj
      rw [List.getElem?_set_self hl] at q
      cases q
      rw [if_pos rfl]
      obtain ⟨v, h1, h2, h3⟩ := e.at_ j d0 hd
      exact ⟨v, h1, r v h1, n⟩
    · rw [List.getElem?_set_ne (Ne.symm hj)] at q
      rw [if_neg hj]
      obtain ⟨v', h1, h2, h3⟩ := e.at_ j d' q
      refine ⟨v', h1, h2.stay tupk frzk fun p hp => same p fun z => ?_, h3⟩
      exact o3 j hj a ha (z ▸ hp)
  · by_cases hj : j = i
    · subst hj
      exact absurd (List.getElem?_set_self hl) (q d)
    · rw [if_neg hj]
      refine e.off j fun d' hd => q d' ?_
      rw [List.getElem?_set_ne (Ne.symm hj)]
      exact hd
  · by_cases hki : k = i
    · subst hki
      rw [if_pos rfl]
      refine ⟨f.1, fun p hp => ?_, fun j hj p hp => ?_⟩
      · rcases f.2 p hp with z | z
        · exact o2 p z
        · exact z.h0 p (by simp)
      · rw [if_neg hj]
        rcases f.2 p hp with z | z
        · exact o3 j hj p z
        · exact z.out j p (by simp)
    · rw [if_neg hki]
      obtain ⟨q1, q2, q3⟩ := e.own k hk
      refine ⟨q1, q2, fun j hj p hp => ?_⟩
      by_cases hji : j = i
      · rw [if_pos hji]
        intro hm
        rcases f.2 p hm with z | z
        · exact q3 i (Ne.symm hki) p hp z
        · exact z.out k p (by simp) hp
      · rw [if_neg hji]
        exact q3 j hj p hp
  · refine ⟨fun r hr => ?_, ?_, fun b hb => ?_⟩
    · obtain ⟨m, h1, h2⟩ := e.wi.cnt r hr
      refine ⟨m, h1, ?_⟩
      rw [same]
      · exact h2
      · intro z
        exact e.nrF i r (.inl hr) (z ▸ ha)
    · exact tabs_upd e.wi.tab hx
    · by_cases hba : b = a
      · rw [hba, upd_same]; exact fun z => by cases z
      · rw [same b hba]; exact e.wi.bad b hb
  · refine ⟨fun b o hbo hnt hnr => ?_, fun b hb => ?_⟩
    · rw [same]
      · exact e.ext.keep b o hbo hnt hnr
      · intro z
        rw [z, (o2 a ha).1] at hbo; cases hbo
    · by_cases hba : b = a
      · rw [hba]; exact (o2 a ha).1
      · rw [same b hba] at hb
        exact e.ext.free b hb
  · refine ⟨fun b ws q => tupk b ws (e.st.tup b ws q), fun b o u q => frzk b o u (e.st.frz b o u q), fun b hb => ?_⟩
    obtain ⟨⟨ws, h1, h2⟩, h3⟩ := e.st.lst b hb
    refine ⟨⟨ws, h1, ?_⟩, h3⟩
    rw [same]
    · exact h2
    · exact fun z => (o2 a ha).2 (z ▸ hb)
/-- fewer things stay -/
theorem EnvF.less (e : EnvF P K pl M H0 Z' σ H Γ g F) (ht : ∀ b xs, Z.h b = some (.tup xs) → Z'.h b = some (.tup xs)) (hf : ∀ b o u, Z.h b = some (.frz o u) → Z'.h b = some (.frz o u))
    (hl : ∀ a ∈ Z.l, a ∈ Z'.l ∧ Z'.h a = Z.h a) : EnvF P K pl M H0 Z σ H Γ g F where
  len := e.len
  at_ := e.at_
  off := e.off
  own := fun i hi => ⟨(e.own i hi).1, fun p hp => ⟨((e.own i hi).2.1 p hp).1, fun z => ((e.own i hi).2.1 p hp).2 (hl p z).1⟩, (e.own i hi).2.2⟩
  pool := e.pool
  wi := e.wi
  ext := e.ext
  st := ⟨fun b xs q => e.st.tup b xs (ht b xs q), fun b o u q => e.st.frz b o u (hf b o u q), fun a ha => by
    obtain ⟨h1, h2⟩ := hl a ha
    obtain ⟨⟨xs, h3, h4⟩, h5⟩ := e.st.lst a h1
    exact ⟨⟨xs, by rw [← h2]; exact h3, h4⟩, h5⟩⟩
/-- from now on what stands, and more lists that are no slot's own -/
theorem EnvF.more (e : EnvF P K pl M H0 Z σ H Γ g F) (zs : List Addr) (hz : ∀ a ∈ zs, (∃ xs, H a = some (.lst xs)) ∧ P.r ≠ some a ∧ ∀ i ∈ M, a ∉ F i) : EnvF P K pl M H0 ⟨H, zs ++ Z.l⟩ σ H Γ g F where
  len := e.len
  at_ := e.at_
  off := e.off
  own := fun i hi => ⟨(e.own i hi).1, fun p hp => ⟨((e.own i hi).2.1 p hp).1, fun z => by
    rcases List.mem_append.mp z with y | y
    · exact (hz p y).2.2 i hi hp
    · exact ((e.own i hi).2.1 p hp).2 y⟩, (e.own i hi).2.2⟩
  pool := e.pool
  wi := e.wi
  ext := e.ext
  st := ⟨fun b xs q => q, fun b o u q => q, fun a ha => by
    rcases List.mem_append.mp ha with y | y
    · obtain ⟨⟨xs, h1⟩, h2, _⟩ := hz a y
      exact ⟨⟨xs, h1, h1⟩, h2⟩
    · obtain ⟨⟨xs, h1, h2⟩, h3⟩ := e.st.lst a y
      exact ⟨⟨xs, h2, h2⟩, h3⟩⟩
end
/-- what is wanted behind a statement, by data -/
def KeOf (P : Pw) (K : PySem.W.Frag) (pl : Option Nat) (M : Own) (H0 : Hp) (Z : Zs) (D : Ends) : Ke where
  nx := fun Γ g => ∀ σ H, EnvS P K pl M H0 Z σ H Γ g → D.nx σ H
  rt := fun d g => ∀ v H fp, Ext P H0 H → WI P g H → Rp K H v d fp → (fp.Nodup ∧ ∀ p ∈ fp, H0 p = none) → D.rt v H
  bk := fun Γ g => ∀ σ H, EnvS P K pl M H0 Z σ H Γ g → D.bk σ H
  ct := fun Γ g => ∀ σ H, EnvS P K pl M H0 Z σ H Γ g → D.ct σ H
/-- a statement's, a body's reading -/
def TSc (P : Pw) (K : PySem.W.Frag) (pl : Option Nat) (Φ : Fam) (M : Own) (H0 : Hp) (s : Sc) : TS := fun D σ H => ∃ Γ g Z, EnvS P K pl M H0 Z σ H Γ g ∧ wpS Φ M s Γ g (KeOf P K pl M H0 Z D)
def TBc (P : Pw) (K : PySem.W.Frag) (pl : Option Nat) (Φ : Fam) (M : Own) (H0 : Hp) (s : List Sc) : TS := fun D σ H => ∃ Γ g Z, EnvS P K pl M H0 Z σ H Γ g ∧ wpB Φ M s Γ g (KeOf P K pl M H0 Z D)
theorem PS.weak {X : Cx} {e : Stmt} {t t' : TS} (h : PS X e t) (hw : ∀ D σ H, t' D σ H → t D σ H) : PS X e t' := ⟨fun pins s σ H D I q => h.run pins s σ H D I (hw _ _ _ q)⟩
theorem PSs.weak {X : Cx} {e : List Stmt} {t t' : TS} (h : PSs X e t) (hw : ∀ D σ H, t' D σ H → t D σ H) : PSs X e t' := ⟨fun pins s σ H D I q => h.run pins s σ H D I (hw _ _ _ q)⟩
end W3
namespace W3
open PySem PySem.Spec PyProof.Rows L2 NdefX LamX
section
variable {r : Option Addr} {T : List NTab} {Φ : Fam} {C : Mc} {X : Cx} {O : Own} {H0 : Hp}
abbrev pw (r : Option Addr) (T : List NTab) : Pw := ⟨r, T, []⟩
/-- a store's reading: flat data -/
def TGe (P : Pw) (K : PySem.W.Frag) (pl : Option Nat) (O : Own) (H0 : Hp) (tg : Tg) : TG := fun v σ H Q => ∃ Γ d g Z, EnvS P K pl O H0 Z σ H Γ g ∧ Rp K H v d [] ∧ wpTg tg d Γ fun Γ' => ∀ σ', EnvS P K pl O H0 Z σ' H Γ' g → Q σ' H
def TGes (P : Pw) (K : PySem.W.Frag) (pl : Option Nat) (O : Own) (H0 : Hp) (ts : List Tg) : TGs := fun v σ H Q => ∃ Γ d g Z, EnvS P K pl O H0 Z σ H Γ g ∧ Rps K H v d [] ∧ wpTgs ts d Γ fun Γ' => ∀ σ', EnvS P K pl O H0 Z σ' H Γ' g → Q σ' H
mutual
theorem tge_sound (G : Good Φ T C X) (P : Pw) : ∀ (tg : Tg) (e : Expr), mtG C tg e = true → PG X e (TGe P X.K C.pl O H0 tg)
  | .nm i, e, h => by
    cases e with
    | Name x pos =>
      simp only [mtG, Bool.and_eq_true, decide_eq_true_eq] at h
      obtain ⟨⟨h1, h2⟩, h3⟩ := h
      refine PG.weak (pg_name (i := i) (by rw [G.N]; exact G.nd) (by rw [G.N]; exact h1) ?_ ?_) fun v σ H Q q => ?_
      · unfold stB at h2
        show _ ∨ _
        rw [G.sc]
        split at h2
        · exact .inl (by assumption)
        · exact .inr (by assumption)
        · cases h2
      · unfold stB at h2
        rw [G.sc]
        split at h2
        · exact .inr (by assumption)
        · exact .inl (G.blk (not_of h2) x)
        · cases h2
      · obtain ⟨Γ, d, g, Z, ⟨F, e⟩, r, q⟩ := q
        exact q _ ⟨_, e.set h3 r nr_nil Fresh.nil⟩
    | _ => simp [mtG] at h
  | .tp ts, e, h => by
    cases e with
    | Tuple es k pos =>
      obtain ⟨h1, h2⟩ := mtGs_star (show mtGs C ts es = true from h) X.env
      refine PG.weak (pg_tup (n := ts.length) G.calm (tges_sound G P ts es h) h1 h2) fun v σ H Q q => ?_
      obtain ⟨Γ, d, g, Z, e, r, q⟩ := q
      cases r
      case tup a vs ds h hs =>
        have hl := hs.length
        have hl2 := wpTgs_len (show wpTgs ts ds Γ _ from q)
        exact ⟨a, vs, rfl, h, by omega, Γ, ds, g, Z, e, hs, q⟩
      all_goals exact False.elim q
    | _ => simp [mtG] at h
theorem tges_sound (G : Good Φ T C X) (P : Pw) : ∀ (ts : List Tg) (es : List Expr), mtGs C ts es = true → PGs X es (TGes P X.K C.pl O H0 ts)
  | [], [], _ => PGs.weak pgs_nil fun v σ H Q q => by
    obtain ⟨Γ, ds, g, Z, e, r, q⟩ := q
    cases ds with
    | nil => cases r; exact ⟨rfl, q σ e⟩
    | cons => exact False.elim q
  | t :: ts, e :: es, h => by
    simp only [mtGs, Bool.and_eq_true] at h
    refine PGs.weak (pgs_cons (tge_sound G P t e h.1.2) (tges_sound G P ts es h.2) (by rw [asg_cons h.1.1]; rfl)) fun v σ H Q q => ?_
    obtain ⟨Γ, ds, g, Z, e, r, q⟩ := q
    cases ds with
    | nil => exact False.elim q
    | cons d ds =>
      generalize hfp : ([] : List Addr) = fp at r
      cases r with
      | @cons v0 vs0 d0 ds0 f1 f2 h1 h2 =>
        have hf := List.append_eq_nil_iff.mp hfp.symm
        obtain ⟨rfl, rfl⟩ := hf
        refine ⟨v0, vs0, rfl, Γ, d, g, Z, e, h1, wpTg_mono (fun Γ' q σ' e' => ?_) (show wpTg t d Γ fun Γ' => wpTgs ts ds Γ' _ from q)⟩
        exact ⟨Γ', ds, g, Z, e', h2, q⟩
  | [], _ :: _, h => by simp [mtGs] at h
  | _ :: _, [], h => by simp [mtGs] at h
end
/-- a comprehension stored on one line to a local -/
def swB (env : Env) (v : Expr) (y : Str) (py : Pos) : Bool := match v with
  | .ListComp _ _ scope pos => env.blockKind == .function && env.kindOf y == some .local && py.line == pos.line && !(scope.names.any fun (n, k) => n == y && (k == .local || k == .cell))
  | _ => false
def notSD : Expr → Bool
  | .SetComp _ _ _ _ => false
  | .DictComp _ _ _ _ _ => false
  | _ => true
theorem sw_eq {env : Env} {v : Expr} {y : Str} {py : Pos} {l : Nat} (h : notSD v = true) : swapsWith v (some (.Name y py)) l env = pure (swB env v y py) := by
  cases v <;> first
    | rfl
    | (simp [notSD] at h; done)
def isLC : Expr → Bool
  | .ListComp _ _ _ _ => true
  | _ => false
theorem swB_lc {env : Env} {v : Expr} {y : Str} {py : Pos} (h : swB env v y py = true) : ∃ elt gs sc p, v = .ListComp elt gs sc p := by
  cases v <;> first
    | exact ⟨_, _, _, _, rfl⟩
    | (simp [swB] at h; done)
theorem lc_code {C : Mc} {c : Ex} {elt : Expr} {gs : List Comprehension} {sc : Scope} {p : Pos} (h : mt c C (.ListComp elt gs sc p) = true) : (∃ own tg rg es t e, c = .lc own tg rg es t e) ∨ ∃ own own2 tg rg es t tg2 rg2 es2 t2 e, c = .lc2 own own2 tg rg es t tg2 rg2 es2 t2 e := by
  cases c
  case lc => exact .inl ⟨_, _, _, _, _, _, rfl⟩
  case lc2 => exact .inr ⟨_, _, _, _, _, _, _, _, _, _, _, rfl⟩
  case mxd a d => simp [mt, mMxd, vMxd] at h
  case key k r es caps body => cases r <;> simp [mt, mKey, vKey, mNo] at h
  all_goals cases h
variable (M : Φ.Mono)
include M
theorem a_set (G : Good Φ T C X) {c : Ex} {v : Expr} {y : Str} {py pos : Pos} {i : Nat} (h : mt c C v = true) (hn : notSD v = true) (hN : C.N[i]? = some y) (hx : stB C y = true) (bad : List Addr) :
    PS X (.Assign [.Name y py] v pos) (tAsg (TEc ⟨r, T, bad⟩ X.K C.pl Φ c) (gName i)) := by
  have hN' : X.N[i]? = some y := by rw [G.N]; exact hN
  have hnd : X.N.Nodup := by rw [G.N]; exact G.nd
  have hL : Loc X.env.scope y := by
    unfold stB at hx
    show _ ∨ _
    rw [G.sc]
    split at hx
    · exact .inl (by assumption)
    · exact .inr (by assumption)
    · cases hx
  have hF : X.fn y = true ∨ X.env.scope.names.lookup y = some .local := by
    unfold stB at hx
    rw [G.sc]
    split at hx
    · exact .inr (by assumption)
    · exact .inl (G.blk (not_of hx) y)
    · cases hx
  cases hs : swB X.env v y py with
  | false => exact ps_set hnd hN' hL ((mt_sound M c C X G v h).pe bad) (by rw [sw_eq hn, hs]) hF
  | true =>
    have hsw : swapsWith v (some (.Name y py)) pos.line X.env = pure true := by rw [sw_eq hn, hs]
    obtain ⟨elt, gs, sc, p, rfl⟩ := swB_lc hs
    have hyl : X.env.scope.names.lookup y = some .local := by
      simp only [swB, Bool.and_eq_true, beq_iff_eq] at hs
      exact hs.1.1.2
    rcases lc_code h with ⟨own, tg, rg, es, t, e, rfl⟩ | ⟨own, own2, tg, rg, es, t, tg2, rg2, es2, t2, e, rfl⟩
    · simp only [mt, mLc] at h
      split at h
      · rename_i elt' tg' it ifs scope hx
        obtain ⟨p', hx⟩ := vComp1_eq hx
        cases hx
        simp only [Bool.and_eq_true] at h
        obtain ⟨⟨⟨⟨⟨⟨⟨h1, h2⟩, h3⟩, h4⟩, h5⟩, h6⟩, h7⟩, h8⟩ := h
        have fo : ∀ x, foldedSetIterable it X.env x = pure x := fun x => by
          cases it <;> first | rfl | (simp [noSet] at h4; done)
        have := ps_setLc (wi := TIc ⟨r, T, bad⟩ X.K C.pl Φ rg es) (tg := tg') (ifs := ifs) (g := TGx r T X.K C.pl tg) (tt := TOx r T X.K C.pl Φ t) (own := ownOf C.N own) (te := TEx r T X.K C.pl Φ e) G.calm hnd hN' hyl hsw
          (mIt_sound M G rg es it h5 (fun c e hc => mt1_sound M es C X G _ hc) (fun es' hm => mtL_sound M es C X G _ hm) bad) (by rw [G.N, G.sc]; exact blkOk_by h1)
          (fun s H L cl fp => PGx (r := r) (T := T) (fun P => tg_sound (G.blkG s H sc cl L fp) P tg tg' h6)) (fun s H L cl fp => mtOT_sound M t _ _ (G.blkG s H sc cl L fp) _ h7)
          (fun s H L cl fp => PEx (C := inner C sc) (mt_sound M e _ _ (G.blkG s H sc cl L fp) _ h8)) fo
        rw [own_snd] at this
        exact PS.weak this fun D σ H q => red_lc M h3 (own_pl h2) q
      · cases h
    · simp only [mt, mLc2] at h
      split at h
      · rename_i elt' tg' it ifs tg2' it2 ifs2 scope hx
        obtain ⟨p', hx⟩ := vComp2_eq hx
        cases hx
        simp only [Bool.and_eq_true] at h
        obtain ⟨⟨⟨⟨⟨⟨⟨⟨⟨⟨⟨⟨⟨h1, h2⟩, h2b⟩, h3⟩, h3b⟩, h4⟩, h4b⟩, h5⟩, h5b⟩, h6⟩, h7⟩, h6b⟩, h7b⟩, h8⟩ := h
        have fo : ∀ x, foldedSetIterable it X.env x = pure x := fun x => by
          cases it <;> first | rfl | (simp [noSet] at h4; done)
        have fo2 : ∀ env x, foldedSetIterable it2 env x = pure x := fun env x => by
          cases it2 <;> first | rfl | (simp [noSet] at h4b; done)
        have := ps_setLc2 (wi := TIc ⟨r, T, bad⟩ X.K C.pl Φ rg es) (tg := tg') (ifs := ifs) (g := TGx r T X.K C.pl tg) (tt := TOx r T X.K C.pl Φ t) (tg1 := tg2') (ifs1 := ifs2) (g1 := TGx r T X.K C.pl tg2) (tt1 := TOx r T X.K C.pl Φ t2) (te := TEx r T X.K C.pl Φ e) (wi1 := TIx r T X.K C.pl Φ rg2 es2) (vs1 := own2) (own := ownOf C.N own) G.calm hnd hN' hyl hsw
          (mIt_sound M G rg es it h5 (fun c e hc => mt1_sound M es C X G _ hc) (fun es' hm => mtL_sound M es C X G _ hm) bad) (by rw [G.N, G.sc]; exact blkOk_by h1)
          (by rw [own_snd]; exact fun i hi => contains_nat (List.all_eq_true.mp h2b i hi))
          (fun s H L cl fp => PGx (r := r) (T := T) (fun P => tg_sound (G.blkG s H sc cl L fp) P tg tg' h6)) (fun s H L cl fp => mtOT_sound M t _ _ (G.blkG s H sc cl L fp) _ h7)
          (fun s H L cl fp => ⟨fun pins s' σ H' Q I q => by
            obtain ⟨bad, q⟩ := q
            exact (mIt_sound M (G.blkG _ _ sc cl L fp) rg2 es2 it2 h5b (fun c e hc => mt1_sound M es2 _ _ (G.blkG _ _ sc cl L fp) _ hc) (fun es' hm => mtL_sound M es2 _ _ (G.blkG _ _ sc cl L fp) _ hm) bad).run pins s' σ H' Q I q⟩)
          (fun s H L cl fp => PGx (r := r) (T := T) (fun P => tg_sound (G.blkG s H sc cl L fp) P tg2 tg2' h6b)) (fun s H L cl fp => mtOT_sound M t2 _ _ (G.blkG s H sc cl L fp) _ h7b)
          (fun s H L cl fp => PEx (C := inner C sc) (mt_sound M e _ _ (G.blkG s H sc cl L fp) _ h8)) fo fo2
        rw [own_snd] at this
        exact PS.weak this fun D σ H q => red_lc2 M h3 h3b (own_pl h2) (fun i hi z => own_pl h2 i hi (contains_nat (List.all_eq_true.mp h2b i z))) q
      · cases h
end
end W3
namespace W3
open PySem PySem.Spec PyProof.Rows L2 NdefX LamX
section
variable {r : Option Addr} {T : List NTab} {Φ : Fam} {C : Mc} {X : Cx} {O : Own} {H0 : Hp}
theorem EnvF.freshZ {P : Pw} {K : PySem.W.Frag} {pl : Option Nat} {H H1 : Hp} {Z : Zs} {σ : L2.St} {Γ : Sl} {g : Nat} {F : Nat → List Addr} (e : EnvF P K pl O H0 Z σ H Γ g F) {c : Ex} {d : D} {v : V} {fp : List Addr} (ok : asOk c d = true) (rd : Rp K H1 v d fp) (fr : frs c d = true → fp.Nodup ∧ ∀ p ∈ fp, H p = none) :
    Fresh H0 Z F fp := by
  unfold asOk at ok
  rw [Bool.or_eq_true] at ok
  rcases ok with z | z
  · rw [rd.flat z]; exact Fresh.nil
  · exact e.fresh (fr z).1 (fr z).2
theorem getS_in {Γ : Sl} {i : Nat} {Q : D → Prop} (q : getS Γ i Q) : ∃ d, Γ[i]? = some (some d) ∧ Q d := getS_at q
theorem lstK_in {Γ : Sl} {i : Nat} {Q : List D → Prop} (q : lstK Γ i Q) : ∃ ds, Γ[i]? = some (some (.list ds)) ∧ Q ds := by
  obtain ⟨d, h, q⟩ := getS_in q
  cases d with
  | list ds => exact ⟨ds, h, q⟩
  | _ => exact q.elim
variable (M : Φ.Mono)
include M
/-- name = value -/
theorem s_setN (G : Good Φ T C X) {c : Ex} {v : Expr} {y : Str} {py pos : Pos} {i : Nat} (h : mt c C v = true) (hn : notSD v = true) (hN : C.N[i]? = some y) (hx : stB C y = true) (hpl : C.pl ≠ some i) :
    PS X (.Assign [.Name y py] v pos) (TSc (pw r T) X.K C.pl Φ O H0 (.set (.nm i) c)) := PS.weak (a_set M G h hn hN hx []) fun D σ H q => by
  obtain ⟨Γ, g, Z, ⟨F, e⟩, q⟩ := q
  refine ⟨Γ, g, e.r, e.p, e.wi, wpE_mono M (fun d g1 q v H1 fp e1 w1 r1 n1 fr => ?_) q⟩
  exact q.2 _ _ ⟨_, (e.grow e1 w1).set hpl r1 n1 (e.freshZ q.1 r1 fr)⟩
/-- a, b, .. = a flat tuple -/
theorem s_setT (G : Good Φ T C X) {c : Ex} {v t : Expr} {pos : Pos} {ts : List Tg} (h : mt c C v = true) (ht : mtG C (.tp ts) t = true) (hv : swapsWithSole [t] v pos.line X.env = pure false) (hw : swappedStores [t] v X.env = pure none) :
    PS X (.Assign [t] v pos) (TSc (pw r T) X.K C.pl Φ O H0 (.set (.tp ts) c)) := by
  have h1 : (assignEach [t] X.env).map (·.2) = [assign t X.env] := by
    cases t <;> first | rfl | (simp [mtG] at ht; done)
  refine PS.weak (ps_asg ((mt_sound (r := r) M c C X G v h).pe []) (tge_sound (O := O) (H0 := H0) G (pw r T) (.tp ts) t ht) hv hw h1) fun D σ H q => ?_
  obtain ⟨Γ, g, Z, ⟨F, e⟩, q⟩ := q
  refine ⟨Γ, g, e.r, e.p, e.wi, wpE_mono M (fun d g1 q v H1 fp e1 w1 r1 n1 fr => ?_) q⟩
  have hf : flat d = true := q.1
  have hfp := r1.flat hf
  subst hfp
  exact ⟨Γ, d, g1, Z, ⟨F, e.grow e1 w1⟩, r1, wpTg_mono (fun Γ' q σ' e' => q σ' H1 e') q.2⟩
/-- return e -/
theorem s_ret (G : Good Φ T C X) {c : Ex} {v : Expr} {pos : Pos} (h : mt c C v = true) : PS X (.Return (some v) pos) (TSc (pw r T) X.K C.pl Φ O H0 (.ret c)) := by
  by_cases hc : ∃ i, c = .slot i
  · obtain ⟨i, rfl⟩ := hc
    simp only [mt, mSlot] at h
    split at h
    · rename_i x hx
      obtain ⟨p, rfl⟩ := vName_eq hx
      simp only [Bool.and_eq_true, decide_eq_true_eq] at h
      obtain ⟨⟨⟨h1, h2⟩, h3⟩, h4⟩ := h
      refine PS.weak (ps_ret (pe_var (i := i) (by rw [G.N]; exact h1) (by rw [G.sc]; exact vis_of h2) (not_of h3) (not_of h4))) fun D σ H q => ?_
      obtain ⟨Γ, g, Z, ⟨F, e⟩, q⟩ := q
      obtain ⟨d, hd, q⟩ := getS_in (show getS Γ i _ from q)
      obtain ⟨v, h5, h6, h7⟩ := e.at_ i d hd
      refine ⟨v, h5, q.2 v H (F i) e.ext e.wi h6 ?_⟩
      have ok : (flat d || false || O.contains i) = true := q.1
      rw [Bool.or_eq_true, Bool.or_false] at ok
      rcases ok with z | z
      · rw [h6.flat z]; exact ⟨List.nodup_nil, fun _ h => nomatch h⟩
      · exact ⟨(e.own i (contains_nat z)).1, fun p hp => ((e.own i (contains_nat z)).2.1 p hp).1⟩
    · cases h
  · refine PS.weak (ps_ret ((mt_sound (r := r) M c C X G v h).pe [])) fun D σ H q => ?_
    obtain ⟨Γ, g, Z, ⟨F, e⟩, q⟩ := q
    refine ⟨Γ, g, e.r, e.p, e.wi, wpE_mono M (fun d g1 q v H1 fp e1 w1 r1 n1 fr => ?_) q⟩
    refine q.2 v H1 fp (e.ext.trans e1) w1 r1 ?_
    have ok := q.1
    have ok : (flat d || frs c d) = true := by
      cases c <;> first
        | (simpa using ok)
        | exact absurd ⟨_, rfl⟩ hc
    rw [Bool.or_eq_true] at ok
    rcases ok with z | z
    · rw [r1.flat z]; exact ⟨List.nodup_nil, fun _ h => nomatch h⟩
    · exact ⟨(fr z).1, fun p hp => e.ext.free p ((fr z).2 p hp)⟩
omit M in
theorem s_retN {pos : Pos} : PS X (.Return none pos) (TSc (pw r T) X.K C.pl Φ O H0 .retN) := PS.weak ps_retN fun D σ H q => by
  obtain ⟨Γ, g, Z, ⟨F, e⟩, q⟩ := q
  exact q .non H [] e.ext e.wi .non ⟨List.nodup_nil, fun _ h => nomatch h⟩
omit M in
theorem s_pas {pos : Pos} : PS X (.Pass pos) (TSc (pw r T) X.K C.pl Φ O H0 .pas) := PS.weak ps_pass fun D σ H q => by
  obtain ⟨Γ, g, Z, e, q⟩ := q
  exact q σ H e
omit M in
theorem s_brk {pos : Pos} : PS X (.Break pos) (TSc (pw r T) X.K C.pl Φ O H0 .brk) := PS.weak ps_break fun D σ H q => by
  obtain ⟨Γ, g, Z, e, q⟩ := q
  exact q σ H e
omit M in
theorem s_cnt {pos : Pos} : PS X (.Continue pos) (TSc (pw r T) X.K C.pl Φ O H0 .cnt) := PS.weak ps_continue fun D σ H q => by
  obtain ⟨Γ, g, Z, e, q⟩ := q
  exact q σ H e
omit M in
theorem s_nev {s : Stmt} : PS X s (TSc (pw r T) X.K C.pl Φ O H0 .nev) := PS.weak ps_never fun D σ H q => by
  obtain ⟨Γ, g, Z, e, q⟩ := q
  exact q
/-- if -/
theorem s_if (G : Good Φ T C X) {c : Ex} {v : Expr} {a b : List Sc} {a' b' : List Stmt} {pos : Pos} (h : mt c C v = true) (ha : PSs X a' (TBc (pw r T) X.K C.pl Φ O H0 a)) (hb : PSs X b' (TBc (pw r T) X.K C.pl Φ O H0 b)) :
    PS X (.If v a' b' pos) (TSc (pw r T) X.K C.pl Φ O H0 (.ite c a b)) := PS.weak (ps_if ((mt_sound (r := r) M c C X G v h).pt []) ha hb) fun D σ H q => by
  obtain ⟨Γ, g, Z, ⟨F, e⟩, q⟩ := q
  refine ⟨Γ, g, e.r, e.p, e.wi, wpE_mono M (fun d g1 q => boolK_mono (fun t q H1 e1 w1 => ?_) q) q⟩
  cases t with
  | true =>
    rw [if_pos rfl] at q ⊢
    exact ⟨Γ, g1, Z, ⟨F, e.grow e1 w1⟩, q⟩
  | false =>
    rw [if_neg Bool.false_ne_true] at q ⊢
    exact ⟨Γ, g1, Z, ⟨F, e.grow e1 w1⟩, q⟩
omit M in
theorem s_nil : PSs X [] (TBc (pw r T) X.K C.pl Φ O H0 []) := PSs.weak pss_nil fun D σ H q => by
  obtain ⟨Γ, g, Z, e, q⟩ := q
  exact q σ H e
theorem s_seq {s : Sc} {ss : List Sc} {s' : Stmt} {ss' : List Stmt} (h : PS X s' (TSc (pw r T) X.K C.pl Φ O H0 s)) (hs : PSs X ss' (TBc (pw r T) X.K C.pl Φ O H0 ss)) : PSs X (s' :: ss') (TBc (pw r T) X.K C.pl Φ O H0 (s :: ss)) := PSs.weak (pss_cons h hs) fun D σ H q => by
  obtain ⟨Γ, g, Z, e, q⟩ := q
  refine ⟨Γ, g, Z, e, wpS_mono M (K := { KeOf (pw r T) X.K C.pl O H0 Z D with nx := fun Γ' g' => wpB Φ O ss Γ' g' (KeOf (pw r T) X.K C.pl O H0 Z D) }) ⟨fun Γ' g' q σ' H' e' => ?_, fun _ _ z => z, fun _ _ z => z, fun _ _ z => z⟩ q⟩
  exact ⟨Γ', g', Z, e', q⟩
/-- while -/
theorem s_whl (G : Good Φ T C X) (hp : PassesOwn (model X.prog X.w) X.A X.env X.xe) {c : Ex} {v : Expr} {b : List Sc} {b' : List Stmt} {pos : Pos} (h : mt c C v = true) (hb : PSs X b' (TBc (pw r T) X.K C.pl Φ O H0 b)) :
    PS X (.While v b' [] pos) (TSc (pw r T) X.K C.pl Φ O H0 (.whl c b)) := PS.weak (ps_while hp ((mt_sound (r := r) M c C X G v h).pt []) hb) fun D σ H q => by
  obtain ⟨Γ, g, Z, e, n, q⟩ := q
  refine ⟨fun m σ H => ∃ Γ g, EnvS (pw r T) X.K C.pl O H0 Z σ H Γ g ∧ whlW (wpT Φ c) (wpB Φ O b) (KeOf (pw r T) X.K C.pl O H0 Z D) m Γ g, ⟨n, Γ, g, e, q⟩, ?_⟩
  rintro m σ1 H1 ⟨Γ1, g1, ⟨F, e1⟩, q⟩
  cases m with
  | zero => exact q.elim
  | succ m =>
    refine ⟨Γ1, g1, e1.r, e1.p, e1.wi, wpE_mono M (fun d g2 q => boolK_mono (fun t q H2 e2 w2 => ?_) q) q⟩
    cases t with
    | false =>
      rw [if_neg Bool.false_ne_true] at q ⊢
      exact q σ1 H2 ⟨F, e1.grow e2 w2⟩
    | true =>
      rw [if_pos rfl] at q ⊢
      refine ⟨fun σ H => ∃ Γ g, EnvS (pw r T) X.K C.pl O H0 Z σ H Γ g ∧ whlW (wpT Φ c) (wpB Φ O b) (KeOf (pw r T) X.K C.pl O H0 Z D) m Γ g, fun σ' H' z => ⟨m, Nat.lt_succ_self m, z⟩, Γ1, g2, Z, ⟨F, e1.grow e2 w2⟩, ?_⟩
      refine wpB_mono M (K := { KeOf (pw r T) X.K C.pl O H0 Z D with nx := whlW (wpT Φ c) (wpB Φ O b) (KeOf (pw r T) X.K C.pl O H0 Z D) m, ct := whlW (wpT Φ c) (wpB Φ O b) (KeOf (pw r T) X.K C.pl O H0 Z D) m, bk := (KeOf (pw r T) X.K C.pl O H0 Z D).nx }) ⟨fun Γ' g' q σ' H' e' => ?_, fun _ _ z => z, fun _ _ z => z, fun Γ' g' q σ' H' e' => ?_⟩ q
      · exact ⟨Γ', g', e', q⟩
      · exact ⟨Γ', g', e', q⟩
end
end W3
namespace W3
open PySem PySem.Spec PyProof.Rows L2 NdefX LamX
/-- a walk over flat data that stand still; zs: the list that it walks -/
inductive SrcZ (P : Pw) (K : PySem.W.Frag) (H : Hp) : It → List D → List Addr → Prop
  | lst {a : Addr} {vs : List V} {rs : List D} : H a = some (.lst vs) → Rps K H vs rs [] → P.r ≠ some a → SrcZ P K H (Itl K a) rs [a]
  | tup {a : Addr} {vs : List V} {rs : List D} : SqT K H a vs → Rps K H vs rs [] → SrcZ P K H (Itt K a) rs []
  | rng {lo : Int} {rs : List D} : (∀ (i : Nat) d, rs[i]? = some d → d = .int (lo + (i : Nat))) → SrcZ P K H (Itr lo rs.length) rs []
section
variable {P : Pw} {K : PySem.W.Frag} {H H1 : Hp} {J : It} {rs : List D} {zs : List Addr} {Z : Zs}
theorem SrcZ.at_ (h : SrcZ P K H J rs zs) (s : StZ P ⟨H, zs ++ Z.l⟩ H1) : SrcZ P K H1 J rs zs := by
  cases h with
  | @lst a vs _ h1 h2 h3 =>
    obtain ⟨⟨xs, h4, h5⟩, h6⟩ := s.lst a (by simp)
    have h4 : H a = some (.lst xs) := h4
    rw [h1] at h4; cases h4
    exact .lst h5 (h2.stay s.tup s.frz fun _ h => nomatch h) h3
  | @tup a vs _ h1 h2 => exact .tup (sqt_stay h1 s.tup s.frz) (h2.stay s.tup s.frz fun _ h => nomatch h)
  | @rng lo _ h1 => exact .rng h1
theorem SrcZ.stop (h : SrcZ P K H J rs zs) : J.stop rs.length H := by
  cases h with
  | @lst a vs _ h1 h2 h3 => exact ⟨vs, SqL.of h1, by rw [h2.length]; exact Nat.le_refl _⟩
  | @tup a vs _ h1 h2 => exact ⟨vs, h1, by rw [h2.length]; exact Nat.le_refl _⟩
  | @rng lo _ h1 => exact Nat.le_refl _
theorem SrcZ.go (h : SrcZ P K H J rs zs) {i : Nat} (hi : i < rs.length) : J.go i H := by
  cases h with
  | @lst a vs _ h1 h2 h3 =>
    obtain ⟨v, f, q, _⟩ := h2.get (List.getElem?_eq_getElem hi)
    exact ⟨vs, v, SqL.of h1, q⟩
  | @tup a vs _ h1 h2 =>
    obtain ⟨v, f, q, _⟩ := h2.get (List.getElem?_eq_getElem hi)
    exact ⟨vs, v, h1, q⟩
  | @rng lo _ h1 => exact hi
theorem SrcZ.yld (h : SrcZ P K H J rs zs) {i : Nat} {d : D} (hi : rs[i]? = some d) {x : V} {H2 : Hp} (y : J.yld i H x H2) : H2 = H ∧ Rp K H x d [] := by
  cases h with
  | @lst a vs _ h1 h2 h3 =>
    obtain ⟨v, ff, q, r, hs⟩ := h2.get hi
    obtain ⟨e, z⟩ := y
    have := z vs (SqL.of h1)
    rw [q] at this
    cases this
    rw [List.sublist_nil.mp hs] at r
    exact ⟨e, r⟩
  | @tup a vs _ h1 h2 =>
    obtain ⟨v, ff, q, r, hs⟩ := h2.get hi
    obtain ⟨e, z⟩ := y
    have := z vs h1
    rw [q] at this
    cases this
    rw [List.sublist_nil.mp hs] at r
    exact ⟨e, r⟩
  | @rng lo _ h1 =>
    obtain ⟨e, z⟩ := y
    rw [h1 i d hi, z]
    exact ⟨e, .int _⟩
end
/-- what a for walks -/
def TIz (P : Pw) (K : PySem.W.Frag) (pl : Option Nat) (Φ : Fam) (O : Own) (H0 : Hp) (rg : Bool) (es : List Ex) : TI := fun σ H R => ∃ Γ g Z F, EnvF P K pl O H0 Z σ H Γ g F ∧
  wpL Φ es Γ g fun ds g' => itOk O rg es ds = true ∧ itK rg ds fun rs => ∀ J H1 zs, EnvF P K pl O H0 Z σ H1 Γ g' F → SrcZ P K H1 J rs zs → (∀ a ∈ zs, (∃ xs, H1 a = some (.lst xs)) ∧ P.r ≠ some a ∧ ∀ i ∈ O, a ∉ F i) → rs.length ≤ sizeLine → R J H1
section
variable {r : Option Addr} {T : List NTab} {Φ : Fam} {C : Mc} {X : Cx} {O : Own} {H0 : Hp} (M : Φ.Mono)
include M
theorem piz_rng (G : Good Φ T C X) {es : List Ex} {es' : List Expr} {tg : Expr} {p pos : Pos} (hn : (es'.length = 1 ∨ es'.length = 2)) (hm : mtL es C es' = true) (hg : glB C.sc "range" = true) :
    PI X tg (.Call (.Name "range" p) es' [] pos) (TIz (pw r T) X.K C.pl Φ O H0 true es) := by
  have st := mtL_star hm
  refine PI.weak (pi_trueR (P := pw r T) (pl := C.pl) M (mtL_sound M es C X G es' hm []) (G.gl hg) (G.bi _ (by decide +kernel)) (fun a rr e => ?_) (fun a b e => ?_) (mtL_len hm) hn) fun σ H R q => ?_
  · rw [e, List.all_cons, Bool.and_eq_true] at st
    exact star_cons st.1
  · rw [e, List.all_cons, Bool.and_eq_true, List.all_cons, Bool.and_eq_true] at st
    exact star_cons st.2.1
  · obtain ⟨Γ, g, Z, F, e, q⟩ := q
    refine ⟨Γ, g, e.r, e.p, e.wi, wpL_mono M (fun ds g1 q => rngK_mono (fun rs q => ?_) q.2) q⟩
    intro lo H1 e1 w1 hr hl
    exact q _ H1 [] (e.grow e1 w1) (.rng hr) (fun _ h => nomatch h) hl
omit M in
theorem flats_nil {K : PySem.W.Frag} {H : Hp} {vs : List V} {ds : List D} {f : List Addr} (h : Rps K H vs ds f) (hf : flats ds = true) : Rps K H vs ds [] := by
  have := h.flat hf
  subst this
  exact h
theorem piz_one (G : Good Φ T C X) {c : Ex} {tg e : Expr} (h : mt c C e = true) : PI X tg e (TIz (pw r T) X.K C.pl Φ O H0 false [c]) := by
  by_cases hc : ∃ i, c = .slot i
  · obtain ⟨i, rfl⟩ := hc
    simp only [mt, mSlot] at h
    split at h
    · rename_i x hx
      obtain ⟨p, rfl⟩ := vName_eq hx
      simp only [Bool.and_eq_true, decide_eq_true_eq] at h
      obtain ⟨⟨⟨h1, h2⟩, h3⟩, h4⟩ := h
      refine PI.weak (pi_seq (pe_var (i := i) (by rw [G.N]; exact h1) (by rw [G.sc]; exact vis_of h2) (not_of h3) (not_of h4))) fun σ H R q => ?_
      obtain ⟨Γ, g, Z, F, e, q⟩ := q
      obtain ⟨d, hd, q⟩ := getS_in (show getS Γ i _ from q)
      obtain ⟨v, h5, h6, h7⟩ := e.at_ i d hd
      have q : itOk O false [.slot i] [d] = true ∧ seqK d fun rs => ∀ J H1 zs, EnvF (pw r T) X.K C.pl O H0 Z σ H1 Γ g F → SrcZ (pw r T) X.K H1 J rs zs → (∀ a ∈ zs, (∃ xs, H1 a = some (.lst xs)) ∧ r ≠ some a ∧ ∀ i ∈ O, a ∉ F i) → rs.length ≤ sizeLine → R J H1 := q
      obtain ⟨q1, q2⟩ := q
      obtain ⟨a, vs, ds, f, rfl, hv, hr, q2⟩ := rp_seq h6 q2
      refine ⟨_, h5, a, rfl, ?_⟩
      rcases hv with ⟨rfl, hv, hf⟩ | ⟨rfl, hv, hf⟩
      · have q1 : (flats ds && !O.contains i) = true := q1
        simp only [Bool.and_eq_true] at q1
        have hra : r ≠ some a := fun z => h7 a (.inl z) (by rw [hf]; exact List.mem_cons_self)
        refine .inl ⟨vs, SqL.of hv, fun hz => q2 (Itl X.K a) H [a] e (.lst hv (flats_nil hr q1.1) hra) (fun b hb => ?_) (by rw [← hr.length]; exact hz)⟩
        simp at hb
        subst hb
        refine ⟨⟨vs, hv⟩, hra, fun j hj hm => ?_⟩
        by_cases hji : j = i
        · subst hji
          have : O.contains j = true := by simpa using hj
          rw [this] at q1; simp at q1
        · exact (e.own j hj).2.2 i (fun z => hji z.symm) b hm (by rw [hf]; exact List.mem_cons_self)
      · have q1 : flats ds = true := q1
        exact .inr ⟨vs, hv, fun hz => q2 (Itt X.K a) H [] e (.tup hv (flats_nil hr q1)) (fun _ h => nomatch h) (by rw [← hr.length]; exact hz)⟩
    · cases h
  · refine PI.weak (pi_seq ((mt_sound (r := r) M c C X G e h).pe [])) fun σ H R q => ?_
    obtain ⟨Γ, g, Z, F, e, q⟩ := q
    refine ⟨Γ, g, e.r, e.p, e.wi, wpE_mono M (e := c) (fun x g1 q v H1 f1 e1 w1 r1 n1 fr => ?_) q⟩
    have q : itOk O false [c] [x] = true ∧ seqK x fun rs => ∀ J H1 zs, EnvF (pw r T) X.K C.pl O H0 Z σ H1 Γ g1 F → SrcZ (pw r T) X.K H1 J rs zs → (∀ a ∈ zs, (∃ xs, H1 a = some (.lst xs)) ∧ r ≠ some a ∧ ∀ i ∈ O, a ∉ F i) → rs.length ≤ sizeLine → R J H1 := q
    obtain ⟨q1, q2⟩ := q
    obtain ⟨a, vs, ds, f, rfl, hv, hr, q2⟩ := rp_seq r1 q2
    refine ⟨a, rfl, ?_⟩
    rcases hv with ⟨rfl, hv, hf⟩ | ⟨rfl, hv, hf⟩
    · have q1 : (flats ds && frs c (.list ds)) = true := by
        cases c <;> first
          | exact q1
          | exact absurd ⟨_, rfl⟩ hc
      simp only [Bool.and_eq_true] at q1
      have hra : r ≠ some a := fun z => n1 a (.inl z) (by rw [hf]; exact List.mem_cons_self)
      refine .inl ⟨vs, SqL.of hv, fun hz => q2 (Itl X.K a) H1 [a] (e.grow e1 w1) (.lst hv (flats_nil hr q1.1) hra) (fun b hb => ?_) (by rw [← hr.length]; exact hz)⟩
      simp at hb
      subst hb
      refine ⟨⟨vs, hv⟩, hra, fun j hj hm => ?_⟩
      obtain ⟨xs, y⟩ := e.there j hm
      rw [(fr q1.2).2 b (by rw [hf]; exact List.mem_cons_self)] at y; cases y
    · have q1 : flats ds = true := by
        cases c <;> first
          | exact q1
          | exact absurd ⟨_, rfl⟩ hc
      exact .inr ⟨vs, hv, fun hz => q2 (Itt X.K a) H1 [] (e.grow e1 w1) (.tup hv (flats_nil hr q1)) (fun _ h => nomatch h) (by rw [← hr.length]; exact hz)⟩
theorem piz (G : Good Φ T C X) (rg : Bool) (es : List Ex) {tg it : Expr} (h : mIt rg (mt1 es) (mtL es) C it = true) : PI X tg it (TIz (pw r T) X.K C.pl Φ O H0 rg es) := by
  unfold mIt at h
  split at h
  · split at h
    · rename_i es' hr
      obtain ⟨p2, p3, rfl⟩ := rngE_eq hr
      simp only [Bool.and_eq_true, decide_eq_true_eq] at h
      exact piz_rng M G h.1.1 h.1.2 h.2
    · cases h
  · match es, h with
    | [], h => cases h
    | [c], h =>
      have h : (true && mt c C it) = true := h
      rw [Bool.true_and] at h
      exact piz_one M G h
    | c :: d :: es, h =>
      have h : (false && mt c C it) = true := h
      cases h
theorem s_for (G : Good Φ T C X) (hp : PassesOwn (model X.prog X.w) X.A X.env X.xe) {tg : Tg} {rg : Bool} {es : List Ex} {b : List Sc} {t it : Expr} {b' : List Stmt} {pos : Pos} (h : mIt rg (mt1 es) (mtL es) C it = true) (ht : mtG C tg t = true) (hs : noSet it = true)
    (hb : PSs X b' (TBc (pw r T) X.K C.pl Φ O H0 b)) : PS X (.For t it b' [] pos) (TSc (pw r T) X.K C.pl Φ O H0 (.for_ tg rg es b)) := by
  have fo : ∀ x, foldedSetIterable it X.env x = pure x := fun x => by
    cases it <;> first | rfl | (simp [noSet] at hs; done)
  refine PS.weak (ps_for hp G.calm (piz (r := r) (O := O) (H0 := H0) M G rg es h) (tge_sound (O := O) (H0 := H0) G (pw r T) tg t ht) hb fo) fun D σ H q => ?_
  obtain ⟨Γ, g, Z, ⟨F, e⟩, q⟩ := q
  refine ⟨Γ, g, Z, F, e, wpL_mono M (fun ds g1 q => ⟨q.1, itK_mono (fun rs q J H1 zs e1 src hz hl => ?_) q.2⟩) q⟩
  have e2 := e1.more zs hz
  have back : ∀ {σ' H' Γ' g'}, EnvS (pw r T) X.K C.pl O H0 ⟨H1, zs ++ Z.l⟩ σ' H' Γ' g' → EnvS (pw r T) X.K C.pl O H0 Z σ' H' Γ' g' := fun {σ' H' Γ' g'} ⟨F', e'⟩ =>
    ⟨F', e'.less (fun b xs z => e1.st.tup b xs z) (fun b o u z => e1.st.frz b o u z) fun a ha => ⟨List.mem_append_right _ ha, by
      obtain ⟨⟨xs, z1, z2⟩, _⟩ := e1.st.lst a ha
      show H1 a = Z.h a
      rw [z1, z2]⟩⟩
  refine ⟨fun i m σ' H' => m = rs.length - i ∧ i ≤ rs.length ∧ ∃ Γ' g', EnvS (pw r T) X.K C.pl O H0 ⟨H1, zs ++ Z.l⟩ σ' H' Γ' g' ∧ forW (fun d Γ g K => wpTg tg d Γ fun Γ' => wpB Φ O b Γ' g K) (KeOf (pw r T) X.K C.pl O H0 Z D) (rs.drop i) Γ' g',
    ⟨rs.length, by simp, Nat.zero_le _, Γ, g1, ⟨F, e2⟩, q⟩, ?_⟩
  rintro i m σ1 H2 ⟨rfl, hi, Γ1, g2, e3, q⟩
  obtain ⟨F3, e3'⟩ := e3
  have src2 : SrcZ (pw r T) X.K H2 J rs zs := src.at_ (Z := Z) e3'.st
  by_cases hlt : i < rs.length
  case neg =>
    have ei : i = rs.length := by omega
    subst ei
    rw [List.drop_of_length_le (Nat.le_refl _)] at q
    exact .inl ⟨src2.stop, q σ1 H2 (back ⟨F3, e3'⟩)⟩
  case pos =>
    have hd : rs.drop i = rs[i] :: rs.drop (i + 1) := List.drop_eq_getElem_cons hlt
    rw [hd] at q
    refine .inr ⟨src2.go hlt, fun σ' H' => i + 1 ≤ rs.length ∧ ∃ Γ' g', EnvS (pw r T) X.K C.pl O H0 ⟨H1, zs ++ Z.l⟩ σ' H' Γ' g' ∧ forW (fun d Γ g K => wpTg tg d Γ fun Γ' => wpB Φ O b Γ' g K) (KeOf (pw r T) X.K C.pl O H0 Z D) (rs.drop (i + 1)) Γ' g',
      fun σ' H' z => ⟨rs.length - (i + 1), by omega, rfl, z⟩, fun x H3 y => ?_⟩
    obtain ⟨rfl, rx⟩ := src2.yld (List.getElem?_eq_getElem hlt) y
    refine ⟨Γ1, rs[i], g2, ⟨H1, zs ++ Z.l⟩, ⟨F3, e3'⟩, rx, wpTg_mono (fun Γ' q σ' e' => ?_) (show wpTg tg rs[i] Γ1 _ from q)⟩
    refine ⟨Γ', g2, ⟨H1, zs ++ Z.l⟩, e', wpB_mono M (K := { KeOf (pw r T) X.K C.pl O H0 Z D with nx := forW (fun d Γ g K => wpTg tg d Γ fun Γ' => wpB Φ O b Γ' g K) (KeOf (pw r T) X.K C.pl O H0 Z D) (rs.drop (i + 1)), ct := forW (fun d Γ g K => wpTg tg d Γ fun Γ' => wpB Φ O b Γ' g K) (KeOf (pw r T) X.K C.pl O H0 Z D) (rs.drop (i + 1)), bk := (KeOf (pw r T) X.K C.pl O H0 Z D).nx }) ⟨fun Γ' g' q σ' H' e' => ?_, fun _ _ z => z, fun Γ' g' q σ' H' e' => ?_, fun Γ' g' q σ' H' e' => ?_⟩ q⟩
    · exact ⟨by omega, Γ', g', e', q⟩
    · exact q σ' H' (back e')
    · exact ⟨by omega, Γ', g', e', q⟩
end
end W3
namespace W3
open PySem PySem.Spec PyProof.Rows L2 NdefX LamX
/-- a, b = x, y with plain local names on one line -/
def parB (sc : Scope) (x y : Str) (px py : Pos) (a b : Expr) : Bool :=
  (match sc.kind with | .function => true | _ => false) && decide (sc.names.lookup x = some .local) && decide (sc.names.lookup y = some .local) && (py.line == px.line) && decide (x ≠ y) && noStar a && noStar b &&
    !(foldedForSure 8 a && foldedForSure 8 b) && !(constantsAlone 8 a && constantsAlone 8 b)
section
variable {r : Option Addr} {T : List NTab} {Φ : Fam} {C : Mc} {X : Cx} {O : Own} {H0 : Hp}
theorem par_sw {env : Env} {x y : Str} {px py pt pt2 : Pos} {kt k2 : Nat} {a b : Expr} (h : parB env.scope x y px py a b = true) : swappedStores [.Tuple [.Name x px, .Name y py] kt pt] (.Tuple [a, b] k2 pt2) env = pure (some [x, y]) := by
  unfold parB at h
  simp only [Bool.and_eq_true, decide_eq_true_eq] at h
  obtain ⟨⟨⟨⟨⟨⟨⟨⟨h1, h2⟩, h3⟩, h4⟩, h5⟩, h6⟩, h7⟩, h8⟩, h9⟩ := h
  have hk : env.blockKind = .function := by
    unfold Env.blockKind
    split at h1
    · rename_i hh; rw [hh]; rfl
    · cases h1
  have kx : env.kindOf x = some .local := h2
  have ky : env.kindOf y = some .local := h3
  have hne : (y == x) = false := by simpa using fun e => h5 e.symm
  have h4' : py.line = px.line := by simpa using h4
  have h8' : ¬ (foldedForSure 8 a = true ∧ foldedForSure 8 b = true) := fun z => by rw [z.1, z.2] at h8; cases h8
  have h9' : ¬ (constantsAlone 8 a = true ∧ constantsAlone 8 b = true) := fun z => by rw [z.1, z.2] at h9; cases h9
  have hed : [x, y].eraseDups.length = 2 := by
    simp [List.eraseDups, List.eraseDupsBy, List.eraseDupsBy.loop, hne]
  unfold swappedStores
  simp only [hk]
  simp [kx, ky, h4', Expr.pos]
  refine (if_neg ?_).trans ((if_pos hed).trans ((if_neg h8').trans (if_neg h9')))
  clear h8 h9 h8' h9'
  rintro (z | z)
  · cases a <;> first | (cases z; done) | (simp [noStar] at h6; done)
  · cases b <;> first | (cases z; done) | (simp [noStar] at h7; done)
theorem EnvF.old {P : Pw} {K : PySem.W.Frag} {pl : Option Nat} {H H1 : Hp} {Z : Zs} {σ : L2.St} {Γ : Sl} {g : Nat} {F : Nat → List Addr} (e : EnvF P K pl O H0 Z σ H Γ g F) (i : Nat) {p : Addr} (h : p ∈ F i) : H p ≠ none := by
  obtain ⟨xs, q⟩ := e.there i h
  rw [q]; exact fun z => by cases z
variable (M : Φ.Mono)
include M
theorem s_par (G : Good Φ T C X) {c1 c2 : Ex} {a b : Expr} {x y : Str} {px py pt pt2 pos : Pos} {kt k2 i j : Nat} (h1 : mt c1 C a = true) (h2 : mt c2 C b = true) (hi : C.N[i]? = some x) (hj : C.N[j]? = some y) (hij : i ≠ j) (hp : parB C.sc x y px py a b = true) (pi : C.pl ≠ some i) (pj : C.pl ≠ some j) :
    PS X (.Assign [.Tuple [.Name x px, .Name y py] kt pt] (.Tuple [a, b] k2 pt2) pos) (TSc (pw r T) X.K C.pl Φ O H0 (.par i j c1 c2)) := by
  have hp' := hp
  unfold parB at hp'
  simp only [Bool.and_eq_true, decide_eq_true_eq] at hp'
  obtain ⟨⟨⟨⟨⟨⟨⟨⟨_, lx⟩, ly⟩, _⟩, _⟩, na⟩, nb⟩, _⟩, _⟩ := hp'
  refine PS.weak (ps_par (i := i) (j := j) G.calm (by rw [G.N]; exact G.nd) (by rw [G.N]; exact hi) (by rw [G.N]; exact hj) hij (by rw [G.sc]; exact lx) (by rw [G.sc]; exact ly)
    (pa_cons ((mt_sound (r := r) M c1 C X G a h1).pe []) (pa_cons ((mt_sound (r := r) M c2 C X G b h2).pe []) pa_nil (star_cons nb)) (star_cons na)) (par_sw (by rw [G.sc]; exact hp))) fun D σ H q => ?_
  obtain ⟨Γ, g, Z, ⟨F, e⟩, q⟩ := q
  refine ⟨Γ, g, e.r, e.p, e.wi, wpE_mono M (fun dx g1 q v H1 f1 e1 w1 r1 n1 fr1 => ?_) q⟩
  have e' := e.grow e1 w1
  refine ⟨Γ, g1, e'.r, e'.p, e'.wi, wpE_mono M (fun dy g2 q w H2 f2 e2 w2 r2 n2 fr2 => ?_) q⟩
  refine ⟨v, w, rfl, ?_⟩
  have e'' := e'.grow e2 w2
  have F1 := e.freshZ q.1.1 r1 fr1
  have F2 := e'.freshZ q.1.2 r2 fr2
  have s1 := e''.set pi (r1.ext e2 w1 n1) n1 F1
  refine q.2 _ _ ⟨_, s1.set pj r2 n2 ⟨F2.nd, F2.h0, fun k p hm => ?_⟩⟩
  by_cases hk : k = i ∧ i < Γ.length
  · rw [if_pos hk]
    intro hx
    have hz : (flat dy || frs c2 dy) = true := q.1.2
    rw [Bool.or_eq_true] at hz
    rcases hz with z | z
    · rw [r2.flat z] at hm; cases hm
    · obtain ⟨xs, t⟩ := r1.there p hx
      rw [(fr2 z).2 p hm] at t; cases t
  · rw [if_neg hk]
    exact F2.out k p hm
omit M in
theorem few_one {e : Expr} {X : Cx} {cpos : Pos} (h : noStar e = true) : ((backTo cpos (starEach [e] X.env)).all (fun x => !x.1) && (backToKw cpos (keywordEach [] X.env)).all (fun x => x.1.isSome)
      && decide ([e].length + ([] : List Keyword).length + (if ([] : List Keyword).isEmpty then 0 else 1) < 30)) = true := by
  rw [star_cons h]
  rfl
/-- xs.append(e) -/
theorem s_app (G : Good Φ T C X) {c : Ex} {a : Expr} {i : Nat} {x : Str} {p1 apos cpos pos : Pos} (h : mt c C a = true) (na : noStar a = true) (hN : C.N[i]? = some x) (hv : visB C.sc x = true) (hd1 : (x == ("__debug__" : Str)) = false) (hd2 : (x == ("__classdict__" : Str)) = false) (hl : (apos.endLine == cpos.line) = true) :
    PS X (.Expr (.Call (.Attribute (.Name x p1) "append" apos) [a] [] cpos) pos) (TSc (pw r T) X.K C.pl Φ O H0 (.app i c)) := by
  refine PS.weak (ps_expr (pe_bm F.plainAttrs_list F.slot_list_append F.type_list_append mt_append (pe_var (i := i) (by rw [G.N]; exact hN) (by rw [G.sc]; exact vis_of hv) hd1 hd2)
    (pa_cons ((mt_sound (r := r) M c C X G a h).pe []) pa_nil (star_cons na)) rfl (few_one na) hl (star_cons na) rfl) rfl) fun D σ H q => ?_
  obtain ⟨Γ, g, Z, ⟨F, e⟩, hO, q⟩ := q
  have hO := contains_nat hO
  obtain ⟨ds, hd, q⟩ := lstK_in q
  obtain ⟨v, hv, rv, nv⟩ := e.at_ i _ hd
  generalize hF : F i = fi at rv nv
  cases rv with
  | @lst l ws _ f hl2 hs =>
    refine ⟨.ref l, hv, .inl ⟨rfl, ws, SqL.of hl2⟩, Γ, g, e.r, e.p, e.wi, wpE_mono M (fun z g1 q y H1 fz e1 w1 rz nz fr => ?_) q⟩
    have e' := e.grow e1 w1
    have hrl : r ≠ some l := fun z => nv l (.inl z) List.mem_cons_self
    have hl3 : H1 l = some (.lst ws) := e1.keep l _ hl2 (fun ps z => by cases z) hrl
    have hb : big ≤ sizeLine := by rw [sizeLine_eq]; decide
    refine ⟨l, ws, y, rfl, rfl, hl3, by rw [hs.length]; exact Nat.lt_of_lt_of_le q.1.2 hb, ?_⟩
    have FZ := e.freshZ q.1.1 rz fr
    have own := e.own i hO
    rw [hF] at own
    obtain ⟨o1, o2, o3⟩ := own
    have nl : l ∉ f := (List.nodup_cons.mp o1).1
    have nlz : l ∉ fz := fun hm => FZ.out i l hm (by rw [hF]; exact List.mem_cons_self)
    have hs1 := hs.ext e1 e.wi (nr_sub nv (List.sublist_cons_self _ _))
    have st : ∀ {b o}, H1 b = some o → (∀ xs, o ≠ .lst xs) → upd H1 l (.lst (ws ++ [y])) b = some o := fun {b o} hbo hne => by
      rw [upd_ne]
      · exact hbo
      · intro hbD
        rw [hbD, hl3] at hbo
        exact hne ws (Option.some.inj hbo).symm
    refine q.2 _ _ (e'.write (fp := l :: (f ++ fz)) hO hd (by rw [hF]; exact List.mem_cons_self) hl3 (fun v' hv' => ?_) ?_ ⟨?_, ?_⟩)
    · rw [hv] at hv'
      cases hv'
      refine .lst upd_same (Rps.append (hs1.stay (fun b xs h => st h (fun _ z => by cases z)) (fun b o u h => st h (fun _ z => by cases z)) fun p hp => ?_) (Rps.one (rz.stay (fun b xs h => st h (fun _ z => by cases z)) (fun b o u h => st h (fun _ z => by cases z)) fun p hp => ?_)))
      · rw [upd_ne]; exact fun e => nl (e ▸ hp)
      · rw [upd_ne]; exact fun e => nlz (e ▸ hp)
    · intro a ha hm
      rcases List.mem_cons.mp hm with y | y
      · exact nv a ha (by rw [y]; exact List.mem_cons_self)
      · rcases List.mem_append.mp y with y | y
        · exact nv a ha (List.mem_cons_of_mem _ y)
        · exact nz a ha y
    · refine List.nodup_cons.mpr ⟨fun hm => (List.mem_append.mp hm).elim nl nlz, List.nodup_append.mpr ⟨(List.nodup_cons.mp o1).2, FZ.nd, fun a ha b hb e => ?_⟩⟩
      subst e
      exact FZ.out i a hb (by rw [hF]; exact List.mem_cons_of_mem _ ha)
    · intro p hp
      rw [hF]
      rcases List.mem_cons.mp hp with y | y
      · exact .inl (by rw [y]; exact List.mem_cons_self)
      · rcases List.mem_append.mp y with y | y
        · exact .inl (List.mem_cons_of_mem _ y)
        · exact .inr ⟨by simp, fun b hb => by simp at hb; subst hb; exact FZ.h0 b y, fun j b hb => by simp at hb; subst hb; exact FZ.out j b y⟩
end
end W3
namespace W3
open PySem PySem.Spec PyProof.Rows L2 NdefX LamX
section
variable {K : PySem.W.Frag} {H : Hp}
theorem upd_stay {l : Addr} {ws us : List V} (h : H l = some (.lst ws)) : (∀ b xs, H b = some (.tup xs) → upd H l (.lst us) b = some (.tup xs)) ∧ ∀ b o u, H b = some (.frz o u) → upd H l (.lst us) b = some (.frz o u) := by
  refine ⟨fun b xs q => ?_, fun b o u q => ?_⟩
  · rw [upd_ne]
    · exact q
    · intro e
      rw [e, h] at q; cases q
  · rw [upd_ne]
    · exact q
    · intro e
      rw [e, h] at q; cases q
theorem Rps.row : ∀ {vs : List V} {ds : List D} {f : List Addr} {k : Nat} {xs : List D}, Rps K H vs ds f → f.Nodup → ds[k]? = some (.list xs) → ∃ l ws, vs[k]? = some (.ref l) ∧ H l = some (.lst ws) ∧ ws.length = xs.length ∧ l ∈ f ∧
    ∀ y z fz, Rp K H y z fz → fz.Nodup → (∀ p ∈ fz, p ∉ f) → ∃ f2, Rps K (upd H l (.lst (ws ++ [y]))) vs (ds.set k (.list (xs ++ [z]))) f2 ∧ f2.Nodup ∧ ∀ p ∈ f2, p ∈ f ∨ p ∈ fz
  | _, _, _, k, _, .nil, _, e => by simp at e
  | _, _, _, 0, xs, .cons (f1 := f1) (f2 := f2) h hs, hn, e => by
    simp at e
    subst e
    cases h with
    | @lst l ws _ f' h1 h2 =>
      obtain ⟨n1, n2, n3⟩ := List.nodup_append.mp hn
      have nl : l ∉ f' := (List.nodup_cons.mp n1).1
      refine ⟨l, ws, rfl, h1, h2.length, List.mem_append_left _ List.mem_cons_self, fun y z fz rz nz dz => ?_⟩
      obtain ⟨k1, k2⟩ := upd_stay (us := ws ++ [y]) h1
      have lz : l ∉ fz := fun hm => dz l hm (List.mem_append_left _ List.mem_cons_self)
      refine ⟨(l :: (f' ++ fz)) ++ f2, .cons (.lst upd_same (Rps.append (h2.stay k1 k2 fun p hp => ?_) (Rps.one (rz.stay k1 k2 fun p hp => ?_)))) (hs.stay k1 k2 fun p hp => ?_), ?_, fun p hp => ?_⟩
      · rw [upd_ne]; exact fun e => nl (e ▸ hp)
      · rw [upd_ne]; exact fun e => lz (e ▸ hp)
      · rw [upd_ne]; exact fun e => n3 l List.mem_cons_self p hp e.symm
      · refine List.nodup_append.mpr ⟨List.nodup_cons.mpr ⟨fun hm => (List.mem_append.mp hm).elim nl lz, List.nodup_append.mpr ⟨(List.nodup_cons.mp n1).2, nz, fun a ha b hb e => ?_⟩⟩, n2, fun a ha b hb e => ?_⟩
        · subst e; exact dz a hb (List.mem_append_left _ (List.mem_cons_of_mem _ ha))
        · subst e
          rcases List.mem_cons.mp ha with t | t
          · exact n3 a (by rw [t]; exact List.mem_cons_self) a hb rfl
          · rcases List.mem_append.mp t with t | t
            · exact n3 a (List.mem_cons_of_mem _ t) a hb rfl
            · exact dz a t (List.mem_append_right _ hb)
      · rcases List.mem_append.mp hp with t | t
        · rcases List.mem_cons.mp t with t | t
          · exact .inl (List.mem_append_left _ (by rw [t]; exact List.mem_cons_self))
          · rcases List.mem_append.mp t with t | t
            · exact .inl (List.mem_append_left _ (List.mem_cons_of_mem _ t))
            · exact .inr t
        · exact .inl (List.mem_append_right _ t)
  | _, _, _, k + 1, xs, .cons (f1 := f1) (f2 := f2) h hs, hn, e => by
    obtain ⟨n1, n2, n3⟩ := List.nodup_append.mp hn
    obtain ⟨l, ws, q1, q2, q3, q4, q5⟩ := Rps.row (k := k) hs n2 (by simpa using e)
    refine ⟨l, ws, by simpa using q1, q2, q3, List.mem_append_right _ q4, fun y z fz rz nz dz => ?_⟩
    obtain ⟨k1, k2⟩ := upd_stay (us := ws ++ [y]) q2
    obtain ⟨g, r1, r2, r3⟩ := q5 y z fz rz nz fun p hp hm => dz p hp (List.mem_append_right _ hm)
    refine ⟨f1 ++ g, .cons (h.stay k1 k2 fun p hp => ?_) r1, List.nodup_append.mpr ⟨n1, r2, fun a ha b hb e => ?_⟩, fun p hp => ?_⟩
    · rw [upd_ne]; exact fun e => n3 p hp l q4 e
    · subst e
      rcases r3 a hb with t | t
      · exact n3 a ha a t rfl
      · exact dz a t (List.mem_append_left _ ha)
    · rcases List.mem_append.mp hp with t | t
      · exact .inl (List.mem_append_left _ t)
      · rcases r3 p t with t | t
        · exact .inl (List.mem_append_right _ t)
        · exact .inr t
end
section
variable {r : Option Addr} {T : List NTab} {Φ : Fam} {C : Mc} {X : Cx} {O : Own} {H0 : Hp} (M : Φ.Mono)
include M
/-- xs[k].append(e) -/
theorem s_appAt (G : Good Φ T C X) {c ck : Ex} {a k' : Expr} {i : Nat} {x : Str} {p1 p2 apos cpos pos : Pos} (h : mt c C a = true) (hk : mt ck C k' = true) (hsl : noSlice k' = true) (na : noStar a = true) (hN : C.N[i]? = some x) (hv : visB C.sc x = true) (hd1 : (x == ("__debug__" : Str)) = false) (hd2 : (x == ("__classdict__" : Str)) = false) (hl : (apos.endLine == cpos.line) = true) :
    PS X (.Expr (.Call (.Attribute (.Subscript (.Name x p1) k' p2) "append" apos) [a] [] cpos) pos) (TSc (pw r T) X.K C.pl Φ O H0 (.appAt i ck c)) := by
  refine PS.weak (ps_expr (pe_bm F.plainAttrs_list F.slot_list_append F.type_list_append mt_append (pe_ix ix_seq (pe_var (i := i) (by rw [G.N]; exact hN) (by rw [G.sc]; exact vis_of hv) hd1 hd2) ((mt_sound (r := r) M ck C X G k' hk).pe []) (plain_ix hsl))
    (pa_cons ((mt_sound (r := r) M c C X G a h).pe []) pa_nil (star_cons na)) rfl (few_one na) hl (star_cons na) rfl) rfl) fun D σ H q => ?_
  obtain ⟨Γ, g, Z, ⟨F, e⟩, hO, q⟩ := q
  have hO := contains_nat hO
  obtain ⟨d, hd, q⟩ := getS_in q
  obtain ⟨v, hv, rv, nv⟩ := e.at_ i _ hd
  obtain ⟨av, vs, rows, f, rfl, hsq, hr, q⟩ := rp_seq rv q
  have own := e.own i hO
  obtain ⟨o1, o2, o3⟩ := own
  have fsub : f.Sublist (F i) := by
    rcases hsq with ⟨_, _, hf⟩ | ⟨_, _, hf⟩
    · rw [hf]; exact List.sublist_cons_self _ _
    · rw [hf]; exact List.Sublist.refl _
  have nf := nr_sub nv fsub
  refine ⟨.ref av, hv, Γ, g, e.r, e.p, e.wi, wpE_mono M (fun kd g1 q kv H1 fk e1 w1 rk nk _ => ?_) q⟩
  cases rk with
  | int n =>
    obtain ⟨⟨b1, b2⟩, xs, hx, q⟩ := q
    have e' := e.grow e1 w1
    have hr1 := hr.ext e1 e.wi nf
    obtain ⟨l, ws, j1, j2, j3, j4, _⟩ := hr1.row (o1.sublist fsub) hx
    have hlen := hr.length
    have ha : atI vs n = some (.ref l) := ixN_at (by rw [hlen]; exact b1) (by rw [hlen]; exact b2) (by rw [hlen]; exact j1)
    have main : tyV X.K "list" (.ref l) H1 ∧ tCons (TEc (pw r T) X.K C.pl Φ c) tNil σ H1 (fun xs H2 => rAppend (.ref l) xs H2 fun _ H3 => D.nx σ H3) := by
      refine ⟨.inl ⟨rfl, ws, SqL.of j2⟩, Γ, g1, e'.r, e'.p, e'.wi, wpE_mono M (fun z g2 q y H2 fz e2 w2 rz nz fr => ?_) q⟩
      have e'' := e'.grow e2 w2
      have hrl : r ≠ some l := fun z => nf l (.inl z) j4
      have hl3 : H2 l = some (.lst ws) := e2.keep l _ j2 (fun ps z => by cases z) hrl
      have hb : big ≤ sizeLine := by rw [sizeLine_eq]; decide
      refine ⟨l, ws, y, rfl, rfl, hl3, by rw [j3]; exact Nat.lt_of_lt_of_le q.1.2 hb, ?_⟩
      have FZ := e'.freshZ q.1.1 rz fr
      have hr2 := hr1.ext e2 w1 nf
      obtain ⟨l', ws', k1, k2, k3, k4, k5⟩ := hr2.row (o1.sublist fsub) hx
      rw [j1] at k1
      cases k1
      rw [hl3] at k2
      cases k2
      obtain ⟨f2, m1, m2, m3⟩ := k5 y z fz rz FZ.nd fun p hp hm => FZ.out i p hp (fsub.mem hm)
      obtain ⟨t1, t2⟩ := upd_stay (us := ws ++ [y]) hl3
      have nf2 : nr (pw r T) f2 := fun b hb hm => by
        rcases m3 b hm with t | t
        · exact nf b hb t
        · exact nz b hb t
      have frZ : ∀ p ∈ fz, Fresh H0 Z F [p] := fun p hp => ⟨by simp, fun b hb => by simp at hb; subst hb; exact FZ.h0 b hp, fun j b hb => by simp at hb; subst hb; exact FZ.out j b hp⟩
      rcases hsq with ⟨rfl, hsv, hf⟩ | ⟨rfl, hsv, hf⟩
      · have hav : l ≠ av := fun t => by
          have := (List.nodup_cons.mp (hf ▸ o1)).1
          exact this (t ▸ j4)
        have hra : r ≠ some av := fun z => nv av (.inl z) (by rw [hf]; exact List.mem_cons_self)
        have hsv2 : H2 av = some (.lst vs) := e2.keep av _ (e1.keep av _ hsv (fun ps z => by cases z) hra) (fun ps z => by cases z) hra
        refine q.2 _ _ (e''.write (fp := av :: f2) hO hd (fsub.mem j4) hl3 (fun v' hv' => ?_) ?_ ⟨List.nodup_cons.mpr ⟨fun hm => ?_, m2⟩, fun p hp => ?_⟩)
        · rw [hv] at hv'
          cases hv'
          exact .lst (by rw [upd_ne (Ne.symm hav)]; exact hsv2) m1
        · intro b hb hm
          rcases List.mem_cons.mp hm with t | t
          · exact nv b hb (by rw [hf, t]; exact List.mem_cons_self)
          · exact nf2 b hb t
        · rcases m3 av hm with t | t
          · exact (List.nodup_cons.mp (hf ▸ o1)).1 t
          · exact FZ.out i av t (by rw [hf]; exact List.mem_cons_self)
        · rcases List.mem_cons.mp hp with t | t
          · exact .inl (by rw [hf, t]; exact List.mem_cons_self)
          · rcases m3 p t with t | t
            · exact .inl (fsub.mem t)
            · exact .inr (frZ p t)
      · have hsv2 : SqT X.K H2 av vs := sqt_ext (sqt_ext hsv e1 e.wi) e2 w1
        refine q.2 _ _ (e''.write (fp := f2) hO hd (fsub.mem j4) hl3 (fun v' hv' => ?_) nf2 ⟨m2, fun p hp => ?_⟩)
        · rw [hv] at hv'
          cases hv'
          exact .tup (sqt_stay hsv2 t1 t2) m1
        · rcases m3 p hp with t | t
          · exact .inl (fsub.mem t)
          · exact .inr (frZ p t)
    rcases hsq with ⟨rfl, hsv, hf⟩ | ⟨rfl, hsv, hf⟩
    · have hra : r ≠ some av := fun z => nv av (.inl z) (by rw [hf]; exact List.mem_cons_self)
      exact .inl ⟨av, vs, n, .ref l, rfl, rfl, SqL.of (e1.keep av _ hsv (fun ps z => by cases z) hra), ha, main⟩
    · exact .inr (.inl ⟨av, vs, n, .ref l, rfl, rfl, sqt_ext hsv e1 e.wi, ha, main⟩)
  | _ => exact q.elim
end
end W3
namespace W3
open PySem PySem.Spec PyProof.Rows L2 NdefX LamX
theorem Rps.erase {K : PySem.W.Frag} {H : Hp} : ∀ {vs : List V} {ds : List D} (k : Nat), Rps K H vs ds [] → Rps K H (vs.eraseIdx k) (ds.eraseIdx k) []
  | [], _, k, h => by
    cases h
    exact .nil
  | v :: vs, d :: ds, k, h => by
    generalize hfp : ([] : List Addr) = fp at h
    cases h with
    | @cons _ _ _ _ f1 f2 h1 h2 =>
      obtain ⟨rfl, rfl⟩ := List.append_eq_nil_iff.mp hfp.symm
      cases k with
      | zero => exact h2
      | succ k => exact .cons (f1 := []) (f2 := []) h1 (Rps.erase k h2)
  | _ :: _, [], _, h => nomatch h
section
variable {r : Option Addr} {T : List NTab} {Φ : Fam} {C : Mc} {X : Cx} {O : Own} {H0 : Hp} (M : Φ.Mono)
include M
theorem s_popCat (G : Good Φ T C X) {c : Ex} {a : Expr} {i j : Nat} {x y : Str} {p1 p2 p3 apos cpos bp pt pos : Pos} {kt : Nat} (h : mt c C a = true) (na : noStar a = true) (hi : C.N[i]? = some x) (hj : C.N[j]? = some y) (hs : stB C x = true)
    (vx : visB C.sc x = true) (dx1 : (x == ("__debug__" : Str)) = false) (dx2 : (x == ("__classdict__" : Str)) = false) (vy : visB C.sc y = true) (dy1 : (y == ("__debug__" : Str)) = false) (dy2 : (y == ("__classdict__" : Str)) = false) (hpl : C.pl ≠ some i) (hl : (apos.endLine == cpos.line) = true) :
    PS X (.Assign [.Name x p1] (.BinOp (.Name x p2) .Add (.Tuple [.Call (.Attribute (.Name y p3) "pop" apos) [a] [] cpos] kt pt) bp) pos) (TSc (pw r T) X.K C.pl Φ O H0 (.popCat i j c)) := by
  have hL : Loc X.env.scope x := by
    unfold stB at hs
    show _ ∨ _
    rw [G.sc]
    split at hs
    · exact .inl (by assumption)
    · exact .inr (by assumption)
    · cases hs
  have hF : X.fn x = true ∨ X.env.scope.names.lookup x = some .local := by
    unfold stB at hs
    rw [G.sc]
    split at hs
    · exact .inr (by assumption)
    · exact .inl (G.blk (not_of hs) x)
    · cases hs
  refine PS.weak (ps_set (i := i) (by rw [G.N]; exact G.nd) (by rw [G.N]; exact hi) hL (pe_op (opD_add (P := pw r T)) (pe_var (i := i) (by rw [G.N]; exact hi) (by rw [G.sc]; exact vis_of vx) dx1 dx2)
    (pe_tup (pa_cons (pe_bm F.plainAttrs_list F.slot_list_pop F.type_list_pop mt_popAt (pe_var (i := j) (by rw [G.N]; exact hj) (by rw [G.sc]; exact vis_of vy) dy1 dy2) (pa_cons ((mt_sound (r := r) M c C X G a h).pe []) pa_nil (star_cons na)) rfl (few_one na) hl (star_cons na) rfl) pa_nil rfl))) rfl hF) fun D σ H q => ?_
  obtain ⟨Γ, g, Z, ⟨F, e⟩, ⟨hO, hij⟩, q⟩ := q
  have hO := contains_nat hO
  obtain ⟨ls, hd, ⟨fl, lb⟩, q⟩ := lstK_in q
  obtain ⟨d, hdi, q⟩ := getS_in q
  obtain ⟨vi, hvi, rvi, nvi⟩ := e.at_ i _ hdi
  obtain ⟨v, hv, rv, nv⟩ := e.at_ j _ hd
  cases d with
  | tuple ds =>
    generalize hF : F j = fi at rv nv
    cases rv with
    | @lst l ws _ f hl2 hs =>
      have hs := flats_nil hs fl
      refine ⟨vi, hvi, .ref l, hv, .inl ⟨rfl, ws, SqL.of hl2⟩, Γ, g, e.r, e.p, e.wi, wpE_mono M (fun kd g1 q ky H1 fz e1 w1 rz nz fr => ?_) q⟩
      cases rz with
      | int n =>
        obtain ⟨⟨b1, b2⟩, z, hz, ⟨fds, hb⟩, q⟩ := q
        have e' := e.grow e1 w1
        have hrl : r ≠ some l := fun z => nv l (.inl z) List.mem_cons_self
        have hl3 : H1 l = some (.lst ws) := e1.keep l _ hl2 (fun ps z => by cases z) hrl
        have hs1 := hs.ext e1 e.wi nr_nil
        have hlen := hs.length
        obtain ⟨y, fy, hy, ry, sy⟩ := hs1.get hz
        rw [List.sublist_nil.mp sy] at ry
        have hsi : seqIndex? n ws.length = some n.toNat := by
          unfold seqIndex?
          first
            | (rw [if_neg (by omega), if_pos (by omega)])
            | (simp; omega)
        have own := e.own j hO
        rw [hF] at own
        obtain ⟨k1, k2⟩ := upd_stay (us := ws.eraseIdx n.toNat) hl3
        have nf : l ∈ F j := by rw [hF]; exact List.mem_cons_self
        have W := e'.write (d := .list (ls.eraseIdx n.toNat)) (ys := ws.eraseIdx n.toNat) (fp := [l]) hO hd nf hl3 (fun v' hv' => ?_) (fun b hb hm => ?_) ⟨by simp, fun p hp => ?_⟩
        rotate_left
        · rw [hv] at hv'
          cases hv'
          exact .lst upd_same ((hs1.erase n.toNat).stay k1 k2 fun _ h => nomatch h)
        · have : b = l := by simpa using hm
          subst this
          exact nv b hb List.mem_cons_self
        · have : p = l := by simpa using hp
          subst this
          exact .inl nf
        have hbig : big = 16000000 := rfl
        refine ⟨l, ws, n, n.toNat, y, rfl, rfl, hl3, by omega, by omega, hsi, hy, ?_⟩
        show [y].length ≤ sizeLine ∧ ∀ p, upd H1 l (.lst (ws.eraseIdx n.toNat)) p = none → _
        refine ⟨by rw [sizeLine_eq]; show 1 ≤ 16777216; decide, fun p hp => ?_⟩
        obtain ⟨F', e2⟩ := W
        have e3 := e2.grow (Ext.upd (o := .tup [y]) hp) (e2.wi.upd hp)
        have hj' : (Γ.set j (some (.list (ls.eraseIdx n.toNat))))[i]? = some (some (.tuple ds)) := by
          rw [List.getElem?_set_ne (Ne.symm hij)]; exact hdi
        obtain ⟨v5, hv5, rv5, nv5⟩ := e3.at_ i _ hj'
        rw [hvi] at hv5
        cases hv5
        have ft : flat z = true := by
          rw [flats_all] at fl
          exact List.all_eq_true.mp fl z (List.mem_of_getElem? hz)
        have ry3 := (ry.stay k1 k2 fun _ h => nomatch h).ext (Ext.upd hp (o := .tup [y])) e2.wi nr_nil
        refine ⟨.tuple ds, .tuple [z], _, [], g1, rv5, .tup (SqT.of upd_same) (Rps.one ry3), nv5, nr_nil, e3.wi, by simp; omega, fun v4 H4 f4 x4 w4 r4 n4 _ => ?_⟩
        have fl4 : flat (.tuple (ds ++ [z])) = true := by
          show flats (ds ++ [z]) = true
          rw [flats_all, List.all_append]
          rw [flats_all] at fds
          simp [fds, ft]
        have := r4.flat fl4
        subst this
        exact q _ _ ⟨_, (e3.grow x4 w4).set hpl r4 nr_nil Fresh.nil⟩
      | _ => exact q.elim
  | _ => exact q.elim
end
end W3
namespace W3
open PySem PySem.Spec PyProof.Rows L2 NdefX LamX
theorem EnvF.wrF {P : Pw} {K : PySem.W.Frag} {pl : Option Nat} {O : Own} {H0 H : Hp} {Z : Zs} {σ : L2.St} {Γ : Sl} {g : Nat} {F : Nat → List Addr} (e : EnvF P K pl O H0 Z σ H Γ g F) {i : Nat} {l : Addr} {ws ws' : List V} {ls ls' : List D} (hO : i ∈ O) (hd : Γ[i]? = some (some (.list ls))) (hv : σ[i]? = some (some (.ref l)))
    (hF : F i = [l]) (hl : H l = some (.lst ws)) (hs : Rps K H ws' ls' []) : EnvS P K pl O H0 Z σ (upd H l (.lst ws')) (Γ.set i (some (.list ls'))) g := by
  have nf : l ∈ F i := by rw [hF]; exact List.mem_cons_self
  obtain ⟨k1, k2⟩ := upd_stay (us := ws') hl
  refine e.write (d := .list ls') (ys := ws') (fp := [l]) hO hd nf hl (fun v' hv' => ?_) (fun b hb hm => ?_) ⟨by simp, fun p hp => ?_⟩
  · rw [hv] at hv'
    cases hv'
    exact .lst upd_same (hs.stay k1 k2 fun _ h => nomatch h)
  · have : b = l := by simpa using hm
    subst this
    exact e.nrF i b hb nf
  · have : p = l := by simpa using hp
    subst this
    exact .inl nf
theorem ixN_at2 {n : Nat} {i : Int} (h1 : -(n : Int) ≤ i) (h2 : i < n) : ixN n i = some (atN n i) := by
  unfold ixN atN
  by_cases h : i < 0
  · rw [if_neg (by omega), if_pos h1, if_pos h]
  · rw [if_pos (by omega), if_pos h2, if_neg h]
theorem Rps.set {K : PySem.W.Frag} {H : Hp} {v : V} {d : D} (hv : Rp K H v d []) : ∀ {vs : List V} {ds : List D} (k : Nat), Rps K H vs ds [] → Rps K H (vs.set k v) (ds.set k d) []
  | [], _, k, h => by
    cases h
    exact .nil
  | u :: vs, e :: ds, k, h => by
    generalize hfp : ([] : List Addr) = fp at h
    cases h with
    | @cons _ _ _ _ f1 f2 h1 h2 =>
      obtain ⟨rfl, rfl⟩ := List.append_eq_nil_iff.mp hfp.symm
      cases k with
      | zero => exact .cons (f1 := []) (f2 := []) hv h2
      | succ k => exact .cons (f1 := []) (f2 := []) h1 (Rps.set hv k h2)
  | _ :: _, [], _, h => nomatch h
theorem Rps.app0 {K : PySem.W.Frag} {H : Hp} {vs ws : List V} {ds es : List D} (h1 : Rps K H vs ds []) (h2 : Rps K H ws es []) : Rps K H (vs ++ ws) (ds ++ es) [] := by
  have := h1.append h2
  exact this
/-- x[k] of a list, as an augmented store reads it -/
theorem get_lst {X : Cx} : PGet X (rIxL X.K) := by
  intro pins s σ H x y v u Q I rx ry h
  obtain ⟨p, xs, i, z, rfl, rfl, hq, he, q⟩ := h
  cases rx; obtain ⟨t, rfl⟩ := ry
  obtain ⟨its, rv, pl, hz⟩ := I.list hq
  obtain ⟨j, h1, h2, h3, h4, h5⟩ := atI_get he
  obtain ⟨b, eb, rb⟩ := rv.get h2
  have hl := rv.length
  have hn := line63
  by_cases h0 : 0 ≤ i
  · have hj : i.toNat = j := Option.some.inj ((seqIndex_of h0 h5).symm.trans h1)
    exact wpAny_getItem_list pl.isList h0 (by omega) (by rw [hj]; simpa using eb) ⟨z, H, I, rb, q⟩
  · have hj : (i + (its.toArray.size : Int)).toNat = j := by
      have := (seqIndex_neg (by omega) h4).symm.trans h1
      rw [List.size_toArray, ← hl]; exact Option.some.inj this
    exact wpAny_getItem_list_neg pl.isList (by omega) (by rw [List.size_toArray]; omega) (by omega) (by rw [hj]; simpa using eb) ⟨z, H, I, rb, q⟩
section
variable {r : Option Addr} {T : List NTab} {Φ : Fam} {C : Mc} {X : Cx} {O : Own} {H0 : Hp} (M : Φ.Mono)
include M
theorem sub_asg {o i : Expr} {pos : Pos} (h : noSlice i = true) : ∀ v, assign (.Subscript o i pos) X.env v = (do
      let ov ← holding [v] (eval o X.env)
      let iv ← holding [v, ov] (eval i X.env)
      standAt pos
      holding [v, ov, iv] (setItem ov iv v)
      release [v, ov, iv] []) := by
  intro v
  cases i <;> first | rfl | cases h
/-- x[k] = e -/
theorem s_setAt (G : Good Φ T C X) {c ck : Ex} {v k' : Expr} {i : Nat} {x : Str} {p1 p2 pos : Pos} (h : mt c C v = true) (hk : mt ck C k' = true) (hsl : noSlice k' = true) (hN : C.N[i]? = some x) (hv : visB C.sc x = true) (hd1 : (x == ("__debug__" : Str)) = false) (hd2 : (x == ("__classdict__" : Str)) = false) :
    PS X (.Assign [.Subscript (.Name x p1) k' p2] v pos) (TSc (pw r T) X.K C.pl Φ O H0 (.setAt i ck c)) := by
  refine PS.weak (ps_asg ((mt_sound (r := r) M c C X G v h).pe []) (pg_sub (pe_var (i := i) (by rw [G.N]; exact hN) (by rw [G.sc]; exact vis_of hv) hd1 hd2) ((mt_sound (r := r) M ck C X G k' hk).pe []) set_list (ha := sub_asg M hsl)) (by cases v <;> rfl) (by cases v <;> rfl) rfl) fun D σ H q => ?_
  obtain ⟨Γ, g, Z, ⟨F, e⟩, hO, q⟩ := q
  have hO := contains_nat hO
  obtain ⟨ds, hd, fl, q⟩ := lstK_in q
  obtain ⟨v0, hv0, rv, nv⟩ := e.at_ i _ hd
  generalize hF : F i = fi at rv nv
  cases rv with
  | @lst l ws _ f hl2 hs =>
    have ff : f = [] := hs.flat fl
    subst ff
    have hlen := hs.length
    refine ⟨Γ, g, e.r, e.p, e.wi, wpE_mono M (fun z g1 q y H1 fz e1 w1 rz nz fr => ?_) q⟩
    have e' := e.grow e1 w1
    refine ⟨.ref l, hv0, Γ, g1, e'.r, e'.p, e'.wi, wpE_mono M (fun kd g2 q yk H2 fk e2 w2 rk nk frk => ?_) q⟩
    have e'' := e'.grow e2 w2
    cases kd with
    | int n =>
      cases rk
      obtain ⟨⟨fz', b1, b2⟩, q⟩ := q
      have := rz.flat fz'
      subst this
      have rz2 := rz.ext e2 w1 nr_nil
      have hrl : r ≠ some l := fun z => nv l (.inl z) List.mem_cons_self
      have hl4 : H2 l = some (.lst ws) := e2.keep l _ (e1.keep l _ hl2 (fun ps z => by cases z) hrl) (fun ps z => by cases z) hrl
      have hs4 := (hs.ext e1 e.wi nr_nil).ext e2 w1 nr_nil
      exact ⟨l, ws, n, atN ds.length n, rfl, rfl, hl4, by rw [hlen]; exact ixN_at2 b1 b2, q _ _ (e''.wrF hO hd hv0 hF hl4 (Rps.set rz2 _ hs4))⟩
    | _ => exact q.elim
/-- x[k] op= e, whole numbers -/
theorem s_augAt (G : Good Φ T C X) {o : O2} {op : Operator} {f : Int → Int → Int} (ho : OpR X (inplaceOp op) (rI0 fun i j => .int (f i j))) (hf : ∀ i y (Q : D → Prop), op2 o (.int i) y Q → ∃ j, y = .int j ∧ Q (.int (f i j)))
    {c ck : Ex} {v k' : Expr} {i : Nat} {x : Str} {p1 p2 pos : Pos} (h : mt c C v = true) (hk : mt ck C k' = true) (hsl : noSlice k' = true) (hN : C.N[i]? = some x) (hv : visB C.sc x = true) (hd1 : (x == ("__debug__" : Str)) = false) (hd2 : (x == ("__classdict__" : Str)) = false) :
    PS X (.AugAssign (.Subscript (.Name x p1) k' p2) op v pos) (TSc (pw r T) X.K C.pl Φ O H0 (.augAt i ck o c)) := by
  refine PS.weak (ps_augS (pe_var (i := i) (by rw [G.N]; exact hN) (by rw [G.sc]; exact vis_of hv) hd1 hd2) ((mt_sound (r := r) M ck C X G k' hk).pe []) get_lst ((mt_sound (r := r) M c C X G v h).pe []) ho set_list (ha := by intros; cases k' <;> first | rfl | cases hsl)) fun D σ H q => ?_
  obtain ⟨Γ, g, Z, ⟨F, e⟩, hO, q⟩ := q
  have hO := contains_nat hO
  obtain ⟨ds, hd, fl, q⟩ := lstK_in q
  obtain ⟨v0, hv0, rv, nv⟩ := e.at_ i _ hd
  generalize hF : F i = fi at rv nv
  cases rv with
  | @lst l ws _ ff hl2 hs =>
    have hff : ff = [] := hs.flat fl
    subst hff
    have hlen := hs.length
    refine ⟨.ref l, hv0, Γ, g, e.r, e.p, e.wi, wpE_mono M (fun kd g1 q yk H1 fk e1 w1 rk nk frk => ?_) q⟩
    have e' := e.grow e1 w1
    cases kd with
    | int n =>
      cases rk
      obtain ⟨⟨b1, b2⟩, d, hdn, q⟩ := q
      cases d with
      | int m =>
        have hrl : r ≠ some l := fun z => nv l (.inl z) List.mem_cons_self
        have hl3 : H1 l = some (.lst ws) := e1.keep l _ hl2 (fun ps z => by cases z) hrl
        have hs3 := hs.ext e1 e.wi nr_nil
        obtain ⟨u, fu, hu, ru, su⟩ := hs3.get hdn
        cases ru
        have hat : atI ws n = some (.int m) := by
          unfold atI
          rw [hlen, ixN_at2 b1 b2]
          exact hu
        refine ⟨l, ws, n, .int m, rfl, rfl, SqL.of hl3, hat, Γ, g1, e'.r, e'.p, e'.wi, wpE_mono M (fun z g2 q y H2 fz e2 w2 rz nz fr => ?_) q⟩
        have e'' := e'.grow e2 w2
        obtain ⟨j, rfl, q2⟩ := hf m z _ q
        cases rz
        have hl4 : H2 l = some (.lst ws) := e2.keep l _ hl3 (fun ps z => by cases z) hrl
        have hs4 := hs3.ext e2 w1 nr_nil
        exact ⟨m, j, rfl, rfl, l, ws, n, atN ds.length n, rfl, rfl, hl4, by rw [hlen]; exact ixN_at2 b1 b2, q2 _ _ (e''.wrF hO hd hv0 hF hl4 (Rps.set (.int _) _ hs4))⟩
      | _ => exact q.elim
    | _ => exact q.elim
/-- x op= e, whole numbers -/
theorem s_aug (G : Good Φ T C X) {o : O2} {op : Operator} {f : Int → Int → Int} (ho : OpR X (inplaceOp op) (rI0 fun i j => .int (f i j))) (hf : ∀ i y (Q : D → Prop), op2 o (.int i) y Q → ∃ j, y = .int j ∧ Q (.int (f i j)))
    {c : Ex} {v : Expr} {i : Nat} {x : Str} {p1 pos : Pos} (h : mt c C v = true) (hN : C.N[i]? = some x) (hx : stB C x = true) (hpl : C.pl ≠ some i) :
    PS X (.AugAssign (.Name x p1) op v pos) (TSc (pw r T) X.K C.pl Φ O H0 (.aug i o c)) := by
  have hL : Loc X.env.scope x ∧ (X.fn x = true ∨ X.env.scope.names.lookup x = some .local) := by
    unfold stB at hx
    rw [G.sc]
    split at hx
    · exact ⟨.inl (by assumption), .inr (by assumption)⟩
    · exact ⟨.inr (by assumption), .inl (G.blk (not_of hx) x)⟩
    · cases hx
  refine PS.weak (ps_aug (i := i) (by rw [G.N]; exact G.nd) (by rw [G.N]; exact hN) hL.1 ((mt_sound (r := r) M c C X G v h).pe []) ho hL.2) fun D σ H q => ?_
  obtain ⟨Γ, g, Z, ⟨F, e⟩, q⟩ := q
  obtain ⟨d, hd, q⟩ := getS_in q
  obtain ⟨v0, hv0, rv, nv⟩ := e.at_ i _ hd
  generalize F i = fi at rv nv
  cases d with
  | int m =>
    cases rv
    refine ⟨.int m, hv0, Γ, g, e.r, e.p, e.wi, wpE_mono M (fun z g1 q y H1 fz e1 w1 rz nz fr => ?_) q⟩
    obtain ⟨j, rfl, q2⟩ := hf m z _ q
    cases rz
    exact ⟨m, j, rfl, rfl, q2 _ _ ⟨_, (e.grow e1 w1).set hpl (.int _) nr_nil Fresh.nil⟩⟩
  | _ => exact q.elim
/-- x.extend(e) -/
theorem s_ext (G : Good Φ T C X) {c : Ex} {a : Expr} {i : Nat} {x : Str} {p1 apos cpos pos : Pos} (h : mt c C a = true) (na : noStar a = true) (hN : C.N[i]? = some x) (hv : visB C.sc x = true) (hd1 : (x == ("__debug__" : Str)) = false) (hd2 : (x == ("__classdict__" : Str)) = false) (hl : (apos.endLine == cpos.line) = true) :
    PS X (.Expr (.Call (.Attribute (.Name x p1) "extend" apos) [a] [] cpos) pos) (TSc (pw r T) X.K C.pl Φ O H0 (.ext i c)) := by
  refine PS.weak (ps_expr (pe_bm F.plainAttrs_list F.slot_list_extend F.type_list_extend mt_extend (pe_var (i := i) (by rw [G.N]; exact hN) (by rw [G.sc]; exact vis_of hv) hd1 hd2)
    (pa_cons ((mt_sound (r := r) M c C X G a h).pe []) pa_nil (star_cons na)) rfl (few_one na) hl (star_cons na) rfl) rfl) fun D σ H q => ?_
  obtain ⟨Γ, g, Z, ⟨F, e⟩, hO, q⟩ := q
  have hO := contains_nat hO
  obtain ⟨ds, hd, q⟩ := lstK_in q
  obtain ⟨v, hv, rv, nv⟩ := e.at_ i _ hd
  generalize hF : F i = fi at rv nv
  cases rv with
  | @lst l ws _ f hl2 hs =>
    refine ⟨.ref l, hv, .inl ⟨rfl, ws, SqL.of hl2⟩, Γ, g, e.r, e.p, e.wi, wpE_mono M (fun z g1 q y H1 fz e1 w1 rz nz fr => ?_) q⟩
    cases z with
    | list zs =>
      obtain ⟨⟨fl1, fl2, hb⟩, q⟩ := q
      have hff : f = [] := hs.flat fl1
      subst hff
      have e' := e.grow e1 w1
      have hrl : r ≠ some l := fun z => nv l (.inl z) List.mem_cons_self
      have hl3 : H1 l = some (.lst ws) := e1.keep l _ hl2 (fun ps z => by cases z) hrl
      have hs1 := hs.ext e1 e.wi nr_nil
      cases rz with
      | @lst b us _ fb hb2 hz =>
        have hz := flats_nil hz fl2
        exact ⟨l, b, ws, us, rfl, rfl, hl3, hb2, by rw [hs.length, hz.length]; exact big_ok hb, q _ _ (e'.wrF hO hd hv hF hl3 (hs1.app0 hz))⟩
    | _ => exact q.elim
theorem erase_at {ns : List Int} {k : Int} (h : k ∈ ns) : ∃ j, ns[j]? = some k ∧ (∀ m : Nat, m < j → ns[m]? ≠ some k) ∧ ns.eraseIdx j = ns.erase k := by
  induction ns with
  | nil => cases h
  | cons a ns ih =>
    by_cases ha : a = k
    · subst ha
      exact ⟨0, rfl, (fun m hm => by omega), by simp⟩
    · obtain ⟨j, h1, h2, h3⟩ := ih ((List.mem_cons.mp h).resolve_left fun z => ha z.symm)
      refine ⟨j + 1, by simpa using h1, fun m hm => ?_, ?_⟩
      · cases m with
        | zero => simpa using ha
        | succ m => simpa using h2 m (by omega)
      · rw [List.eraseIdx_cons_succ, h3, List.erase_cons_tail (by simpa using ha)]
/-- x.remove(e), whole numbers -/
theorem s_rem (G : Good Φ T C X) {c : Ex} {a : Expr} {i : Nat} {x : Str} {p1 apos cpos pos : Pos} (h : mt c C a = true) (na : noStar a = true) (hN : C.N[i]? = some x) (hv : visB C.sc x = true) (hd1 : (x == ("__debug__" : Str)) = false) (hd2 : (x == ("__classdict__" : Str)) = false) (hl : (apos.endLine == cpos.line) = true) :
    PS X (.Expr (.Call (.Attribute (.Name x p1) "remove" apos) [a] [] cpos) pos) (TSc (pw r T) X.K C.pl Φ O H0 (.rem i c)) := by
  refine PS.weak (ps_expr (pe_bm F.plainAttrs_list F.slot_list_remove F.type_list_remove mt_remove (pe_var (i := i) (by rw [G.N]; exact hN) (by rw [G.sc]; exact vis_of hv) hd1 hd2)
    (pa_cons ((mt_sound (r := r) M c C X G a h).pe []) pa_nil (star_cons na)) rfl (few_one na) hl (star_cons na) rfl) rfl) fun D σ H q => ?_
  obtain ⟨Γ, g, Z, ⟨F, e⟩, hO, q⟩ := q
  have hO := contains_nat hO
  obtain ⟨ds, hd, q⟩ := lstK_in q
  obtain ⟨is, rfl, q2⟩ := ints_of (vs := []) (fp := []) q
  obtain ⟨v, hv, rv, nv⟩ := e.at_ i _ hd
  generalize hF : F i = fi at rv nv
  cases rv with
  | @lst l ws _ f hl2 hs =>
    obtain ⟨rfl, rfl⟩ := hs.ints
    refine ⟨.ref l, hv, .inl ⟨rfl, _, SqL.of hl2⟩, Γ, g, e.r, e.p, e.wi, wpE_mono M (fun z g1 q y H1 fz e1 w1 rz nz fr => ?_) q2⟩
    cases z with
    | int k =>
      cases rz
      obtain ⟨hk, q⟩ := q
      have e' := e.grow e1 w1
      have hrl : r ≠ some l := fun z => nv l (.inl z) List.mem_cons_self
      have hl3 : H1 l = some (.lst (is.map V.int)) := e1.keep l _ hl2 (fun ps z => by cases z) hrl
      obtain ⟨j, k1, k2, k3⟩ := erase_at M hk
      refine ⟨l, is, k, j, rfl, rfl, hl3, k1, k2, ?_⟩
      rw [k3]
      exact q _ _ (e'.wrF hO hd hv hF hl3 (Rps.of_ints _))
    | _ => exact q.elim
omit M in
theorem sto_of (G : Good Φ T C X) {x : Str} (hx : stB C x = true) : Loc X.env.scope x ∧ (X.fn x = true ∨ X.env.scope.names.lookup x = some .local) := by
  unfold stB at hx
  rw [G.sc]
  split at hx
  · exact ⟨.inl (by assumption), .inr (by assumption)⟩
  · exact ⟨.inr (by assumption), .inl (G.blk (not_of hx) x)⟩
  · cases hx
omit M in
/-- x = y.pop(0) -/
theorem s_popF (G : Good Φ T C X) {i j : Nat} {x y : Str} {p1 p3 apos cpos pc pos : Pos} {kc : Nat} (hi : C.N[i]? = some x) (hj : C.N[j]? = some y) (hs : stB C x = true)
    (vy : visB C.sc y = true) (dy1 : (y == ("__debug__" : Str)) = false) (dy2 : (y == ("__classdict__" : Str)) = false) (hpl : C.pl ≠ some i) (hl : (apos.endLine == cpos.line) = true) :
    PS X (.Assign [.Name x p1] (.Call (.Attribute (.Name y p3) "pop" apos) [.Constant (.int 0) kc pc] [] cpos) pos) (TSc (pw r T) X.K C.pl Φ O H0 (.popS i j true)) := by
  obtain ⟨hL, hF⟩ := sto_of G hs
  refine PS.weak (ps_set (i := i) (by rw [G.N]; exact G.nd) (by rw [G.N]; exact hi) hL (pe_bm F.plainAttrs_list F.slot_list_pop F.type_list_pop mt_popAt (pe_var (i := j) (by rw [G.N]; exact hj) (by rw [G.sc]; exact vis_of vy) dy1 dy2) (pa_cons pe_int pa_nil) rfl rfl hl rfl rfl) rfl hF) fun D σ H q => ?_
  obtain ⟨Γ, g, Z, ⟨F, e⟩, hO, q⟩ := q
  have hO := contains_nat hO
  obtain ⟨ds, hd, fl, z, hz, q⟩ := lstK_in q
  rw [if_pos rfl] at hz q
  obtain ⟨v, hv, rv, nv⟩ := e.at_ j _ hd
  generalize hF : F j = fi at rv nv
  cases rv with
  | @lst l ws _ f hl2 hs =>
    have hff : f = [] := hs.flat fl
    subst hff
    obtain ⟨u, fu, hu, ru, su⟩ := hs.get hz
    rw [List.sublist_nil.mp su] at ru
    have hlen := hs.length
    have h0 : 0 < ws.length := (List.getElem?_eq_some_iff.mp hu).1
    have hsi : seqIndex? 0 ws.length = some 0 := seqIndex_of (k := 0) (by decide) (by omega)
    obtain ⟨F', W⟩ := e.wrF hO hd hv hF hl2 (hs.erase 0)
    obtain ⟨k1, k2⟩ := upd_stay (us := ws.eraseIdx 0) hl2
    exact ⟨.ref l, hv, .inl ⟨rfl, ws, SqL.of hl2⟩, l, ws, 0, 0, u, rfl, rfl, hl2, by omega, by omega, hsi, hu, q _ _ ⟨_, W.set hpl (ru.stay k1 k2 fun _ h => nomatch h) nr_nil ⟨List.nodup_nil, (fun _ h => nomatch h), (fun _ _ h => nomatch h)⟩⟩⟩
/-- a, b, c = x, y, z with plain local names on one line -/
def triB (sc : Scope) (x y z : Str) (px py pz : Pos) (a b c : Expr) : Bool :=
  (match sc.kind with | .function => true | _ => false) && decide (sc.names.lookup x = some .local) && decide (sc.names.lookup y = some .local) && decide (sc.names.lookup z = some .local) && (py.line == px.line) && (pz.line == px.line) && decide (x ≠ y) && decide (x ≠ z) && decide (y ≠ z) && noStar a && noStar b && noStar c &&
    !(foldedForSure 8 a && foldedForSure 8 b && foldedForSure 8 c) && !(constantsAlone 8 a && constantsAlone 8 b && constantsAlone 8 c)
omit M in
theorem tri_sw {env : Env} {x y z : Str} {px py pz pt pt2 : Pos} {kt k2 : Nat} {a b c : Expr} (h : triB env.scope x y z px py pz a b c = true) : swappedStores [.Tuple [.Name x px, .Name y py, .Name z pz] kt pt] (.Tuple [a, b, c] k2 pt2) env = pure (some [x, y, z]) := by
  unfold triB at h
  simp only [Bool.and_eq_true, decide_eq_true_eq] at h
  obtain ⟨⟨⟨⟨⟨⟨⟨⟨⟨⟨⟨⟨⟨h1, h2⟩, h3⟩, h3z⟩, h4⟩, h4z⟩, hxy⟩, hxz⟩, hyz⟩, h6⟩, h7⟩, h7z⟩, h8⟩, h9⟩ := h
  have hk : env.blockKind = .function := by
    unfold Env.blockKind
    split at h1
    · rename_i hh; rw [hh]; rfl
    · cases h1
  have kx : env.kindOf x = some .local := h2
  have ky : env.kindOf y = some .local := h3
  have kz : env.kindOf z = some .local := h3z
  have ne1 : (y == x) = false := by simpa using fun e => hxy e.symm
  have ne2 : (z == x) = false := by simpa using fun e => hxz e.symm
  have ne3 : (z == y) = false := by simpa using fun e => hyz e.symm
  have h4' : py.line = px.line := by simpa using h4
  have h5' : pz.line = px.line := by simpa using h4z
  have h8' : ¬ (foldedForSure 8 a = true ∧ foldedForSure 8 b = true ∧ foldedForSure 8 c = true) := fun z => by rw [z.1, z.2.1, z.2.2] at h8; cases h8
  have h9' : ¬ (constantsAlone 8 a = true ∧ constantsAlone 8 b = true ∧ constantsAlone 8 c = true) := fun z => by rw [z.1, z.2.1, z.2.2] at h9; cases h9
  have hed : [x, y, z].eraseDups.length = 3 := by
    simp [List.eraseDups, List.eraseDupsBy, List.eraseDupsBy.loop, ne1, ne2, ne3]
  unfold swappedStores
  simp only [hk]
  simp [kx, ky, kz, h4', h5', Expr.pos]
  refine (if_neg ?_).trans ((if_pos hed).trans ((if_neg h8').trans (if_neg h9')))
  clear h8 h9 h8' h9'
  rintro (z | z | z)
  · cases a <;> first | (cases z; done) | (simp [noStar] at h6; done)
  · cases b <;> first | (cases z; done) | (simp [noStar] at h7; done)
  · cases c <;> first | (cases z; done) | (simp [noStar] at h7z; done)
theorem s_tri (G : Good Φ T C X) {c1 c2 c3 : Ex} {a b c : Expr} {x y z : Str} {px py pz pt pt2 pos : Pos} {kt k2 i j l : Nat} (h1 : mt c1 C a = true) (h2 : mt c2 C b = true) (h3 : mt c3 C c = true) (hi : C.N[i]? = some x) (hj : C.N[j]? = some y) (hl : C.N[l]? = some z) (hij : i ≠ j) (hil : i ≠ l) (hjl : j ≠ l)
    (hp : triB C.sc x y z px py pz a b c = true) (pi : C.pl ≠ some i) (pj : C.pl ≠ some j) (pk : C.pl ≠ some l) :
    PS X (.Assign [.Tuple [.Name x px, .Name y py, .Name z pz] kt pt] (.Tuple [a, b, c] k2 pt2) pos) (TSc (pw r T) X.K C.pl Φ O H0 (.tri i j l c1 c2 c3)) := by
  have hp' := hp
  unfold triB at hp'
  simp only [Bool.and_eq_true, decide_eq_true_eq] at hp'
  obtain ⟨⟨⟨⟨⟨⟨⟨⟨⟨⟨⟨⟨⟨_, lx⟩, ly⟩, lz⟩, _⟩, _⟩, _⟩, _⟩, _⟩, na⟩, nb⟩, nc⟩, _⟩, _⟩ := hp'
  refine PS.weak (ps_par3 (i := i) (j := j) (l := l) G.calm (by rw [G.N]; exact G.nd) (by rw [G.N]; exact hi) (by rw [G.N]; exact hj) (by rw [G.N]; exact hl) hij hil hjl (by rw [G.sc]; exact lx) (by rw [G.sc]; exact ly) (by rw [G.sc]; exact lz)
    (pa_cons ((mt_sound (r := r) M c1 C X G a h1).pe []) (pa_cons ((mt_sound (r := r) M c2 C X G b h2).pe []) (pa_cons ((mt_sound (r := r) M c3 C X G c h3).pe []) pa_nil (star_cons nc)) (star_cons nb)) (star_cons na)) (tri_sw (by rw [G.sc]; exact hp))) fun D σ H q => ?_
  obtain ⟨Γ, g, Z, ⟨F, e⟩, q⟩ := q
  refine ⟨Γ, g, e.r, e.p, e.wi, wpE_mono M (fun dx g1 q v1 H1 f1 e1 w1 r1 n1 fr1 => ?_) q⟩
  have e' := e.grow e1 w1
  refine ⟨Γ, g1, e'.r, e'.p, e'.wi, wpE_mono M (fun dy g2 q v2 H2 f2 e2 w2 r2 n2 fr2 => ?_) q⟩
  have e'' := e'.grow e2 w2
  refine ⟨Γ, g2, e''.r, e''.p, e''.wi, wpE_mono M (fun dz g3 q v3 H3 f3 e3 w3 r3 n3 fr3 => ?_) q⟩
  have e3' := e''.grow e3 w3
  obtain ⟨⟨fx, fy, fz⟩, q⟩ := q
  have := r1.flat fx
  subst this
  have := r2.flat fy
  subst this
  have := r3.flat fz
  subst this
  have a1 := (r1.ext e2 w1 nr_nil).ext e3 w2 nr_nil
  have a2 := r2.ext e3 w2 nr_nil
  exact ⟨v1, v2, v3, rfl, q _ _ ⟨_, ((e3'.set pi a1 nr_nil Fresh.nil).set pj a2 nr_nil ⟨List.nodup_nil, (fun _ h => nomatch h), (fun _ _ h => nomatch h)⟩).set pk r3 nr_nil ⟨List.nodup_nil, (fun _ h => nomatch h), (fun _ _ h => nomatch h)⟩⟩⟩
end
end W3
namespace W3
open PySem PySem.Spec PyProof.Rows L2 NdefX LamX
abbrev Ms := Mc → Stmt → Bool
abbrev Mb := Mc → List Stmt → Bool
/-- two names, not both plain locals: no stores are swapped -/
def swNo (sc : Scope) : Expr → Bool
  | .Tuple [.Name x _, .Name y _] _ _ => !(decide (sc.names.lookup x = some .local) && decide (sc.names.lookup y = some .local))
  | _ => false
theorem sw_none {env : Env} {t v : Expr} (h : swNo env.scope t = true) : swappedStores [t] v env = pure none := by
  unfold swNo at h
  split at h
  · rename_i x px y py k p
    have hxy : ¬ (env.kindOf x = some .local ∧ env.kindOf y = some .local) := fun z => by
      have e1 : env.scope.names.lookup x = some .local := z.1
      have e2 : env.scope.names.lookup y = some .local := z.2
      rw [e1, e2] at h
      simp at h
    unfold swappedStores
    cases v with
    | Tuple vs kv pv =>
      by_cases hl : vs.length = 2
      · by_cases hb : env.blockKind = .function
        · simp only [hl, hb]
          split
          · rfl
          · split
            · rfl
            · refine if_pos ?_
              by_cases hx : env.kindOf x = some .local
              · have hy : ¬ env.kindOf y = some .local := fun z => hxy ⟨hx, z⟩
                simp [hx, hy, Expr.pos]
              · simp [hx, Expr.pos]
                refine .inl fun e => ?_
                have h2 := Nat.le_trans (Nat.le_of_eq e.symm) (List.length_filterMap_le _ _)
                simp at h2
        · simp [hb]
      · simp [hl]
    | _ => rfl
  · cases h
def notTupE : Expr → Bool
  | .Tuple _ _ _ => false
  | _ => true
def vSetN : Stmt → Option (Str × Expr)
  | .Assign [.Name y _] v _ => some (y, v)
  | _ => none
def vSetT : Stmt → Option (Expr × Expr)
  | .Assign [t] v _ => some (t, v)
  | _ => none
def vPar : Stmt → Option (Str × Str × Pos × Pos × Expr × Expr)
  | .Assign [.Tuple [.Name x px, .Name y py] _ _] (.Tuple [a, b] _ _) _ => some (x, y, px, py, a, b)
  | _ => none
/-- x = x + (y.pop(a),) -/
def vPopCat : Stmt → Option (Str × Str × Expr)
  | .Assign [.Name x _] (.BinOp (.Name x2 _) .Add (.Tuple [.Call (.Attribute (.Name y _) m apos) [a] [] cpos] _ _) _) _ => if (apos.endLine == cpos.line) = true ∧ x2 = x ∧ m = "pop" then some (x, y, a) else none
  | _ => none
/-- x.m(a); the two places on one line -/
def vMeth : Stmt → Option (Expr × Str × Expr)
  | .Expr (.Call (.Attribute o m apos) [a] [] cpos) _ => if (apos.endLine == cpos.line) = true then some (o, m, a) else none
  | _ => none
def vTri : Stmt → Option (Str × Str × Str × Pos × Pos × Pos × Expr × Expr × Expr)
  | .Assign [.Tuple [.Name x px, .Name y py, .Name z pz] _ _] (.Tuple [a, b, c] _ _) _ => some (x, y, z, px, py, pz, a, b, c)
  | _ => none
/-- x[k] = e -/
def vSetAt : Stmt → Option (Str × Expr × Expr)
  | .Assign [.Subscript (.Name x _) k _] v _ => some (x, k, v)
  | _ => none
/-- x[k] op= e -/
def vAugAt : Stmt → Option (Str × Expr × Operator × Expr)
  | .AugAssign (.Subscript (.Name x _) k _) op v _ => some (x, k, op, v)
  | _ => none
/-- x op= e -/
def vAug : Stmt → Option (Str × Operator × Expr)
  | .AugAssign (.Name x _) op v _ => some (x, op, v)
  | _ => none
/-- x = y.pop(0) -/
def vPopF : Stmt → Option (Str × Str)
  | .Assign [.Name x _] (.Call (.Attribute (.Name y _) m apos) [.Constant (.int z) _ _] [] cpos) _ => if (apos.endLine == cpos.line) = true ∧ m = "pop" ∧ z = 0 then some (x, y) else none
  | _ => none
def vRet : Stmt → Option Expr
  | .Return (some e) _ => some e
  | _ => none
def vIfS : Stmt → Option (Expr × List Stmt × List Stmt)
  | .If c a b _ => some (c, a, b)
  | _ => none
def vFor : Stmt → Option (Expr × Expr × List Stmt)
  | .For t it b [] _ => some (t, it, b)
  | _ => none
def vWhl : Stmt → Option (Expr × List Stmt)
  | .While c b [] _ => some (c, b)
  | _ => none
def isRetN : Stmt → Bool
  | .Return none _ => true
  | _ => false
def isPass : Stmt → Bool
  | .Pass _ => true
  | _ => false
def isBrk : Stmt → Bool
  | .Break _ => true
  | _ => false
def isCnt : Stmt → Bool
  | .Continue _ => true
  | _ => false
def nameOk (C : Mc) (i : Nat) (x : Str) : Bool := decide (C.N[i]? = some x) && visB C.sc x && !(x == ("__debug__" : Str)) && !(x == ("__classdict__" : Str))
def mSet (tg : Tg) (e : Mt) : Ms := fun C s => match tg with
  | .nm i => (match vSetN s with | some (y, v) => e C v && notSD v && decide (C.N[i]? = some y) && stB C y && decide (C.pl ≠ some i) | none => false)
  | .tp ts => (match vSetT s with | some (t, v) => e C v && mtG C (.tp ts) t && (notTupE v || swNo C.sc t) | none => false)
def mPar (i j : Nat) (a b : Mt) : Ms := fun C s => match vPar s with
  | some (x, y, px, py, a', b') => a C a' && b C b' && decide (C.N[i]? = some x) && decide (C.N[j]? = some y) && decide (i ≠ j) && parB C.sc x y px py a' b' && decide (C.pl ≠ some i) && decide (C.pl ≠ some j)
  | none => false
def mApp (i : Nat) (e : Mt) : Ms := fun C s => match vMeth s with
  | some (o, m, a) => (match vName o with | some x => decide (m = "append") && e C a && noStar a && nameOk C i x | none => false)
  | none => false
def mAppAt (i : Nat) (k e : Mt) : Ms := fun C s => match vMeth s with
  | some (o, m, a) => (match vSub o with
    | some (o', k') => (match vName o' with | some x => decide (m = "append") && e C a && k C k' && noSlice k' && noStar a && nameOk C i x | none => false)
    | none => false)
  | none => false
def mPopCat (i j : Nat) (e : Mt) : Ms := fun C s => match vPopCat s with
  | some (x, y, a) => e C a && noStar a && nameOk C i x && nameOk C j y && stB C x && decide (C.pl ≠ some i)
  | none => false
def mTri (i j l : Nat) (a b c : Mt) : Ms := fun C s => match vTri s with
  | some (x, y, z, px, py, pz, a', b', c') => a C a' && b C b' && c C c' && decide (C.N[i]? = some x) && decide (C.N[j]? = some y) && decide (C.N[l]? = some z) && decide (i ≠ j) && decide (i ≠ l) && decide (j ≠ l) && triB C.sc x y z px py pz a' b' c' && decide (C.pl ≠ some i) && decide (C.pl ≠ some j) && decide (C.pl ≠ some l)
  | none => false
def mSetAt (i : Nat) (k e : Mt) : Ms := fun C s => match vSetAt s with
  | some (x, k', v) => e C v && k C k' && noSlice k' && nameOk C i x
  | none => false
def augOp (o : O2) (op : Operator) : Bool := decide (o = .add ∧ op = .Add) || decide (o = .sub ∧ op = .Sub)
def mAugAt (i : Nat) (k : Mt) (o : O2) (e : Mt) : Ms := fun C s => match vAugAt s with
  | some (x, k', op, v) => e C v && k C k' && noSlice k' && augOp o op && nameOk C i x
  | none => false
def mAug (i : Nat) (o : O2) (e : Mt) : Ms := fun C s => match vAug s with
  | some (x, op, v) => e C v && augOp o op && decide (C.N[i]? = some x) && stB C x && decide (C.pl ≠ some i)
  | none => false
def mMeth (nm : Str) (i : Nat) (e : Mt) : Ms := fun C s => match vMeth s with
  | some (o, m, a) => (match vName o with | some x => decide (m = nm) && e C a && noStar a && nameOk C i x | none => false)
  | none => false
def mPopF (i j : Nat) : Ms := fun C s => match vPopF s with
  | some (x, y) => decide (C.N[i]? = some x) && stB C x && nameOk C j y && decide (C.pl ≠ some i)
  | none => false
def mRet (e : Mt) : Ms := fun C s => match vRet s with | some v => e C v | none => false
def mIfS (c : Mt) (a b : Mb) : Ms := fun C s => match vIfS s with | some (c', a', b') => c C c' && a C a' && b C b' | none => false
def mFor (tg : Tg) (it : Mt) (b : Mb) : Ms := fun C s => match vFor s with | some (t, i, b') => it C i && mtG C tg t && noSet i && b C b' | none => false
def mWhl (c : Mt) (b : Mb) : Ms := fun C s => match vWhl s with | some (c', b') => c C c' && b C b' | none => false
def mBnil : Mb := fun _ ss => ss.isEmpty
def mBcons (s : Ms) (b : Mb) : Mb := fun C ss => match ss with | [] => false | s' :: ss => s C s' && b C ss
def mSno : Ms := fun _ _ => false
mutual
def mS : Sc → Ms
  | .set tg e => mSet tg (mt e)
  | .par i j a b => mPar i j (mt a) (mt b)
  | .app i e => mApp i (mt e)
  | .appAt i k e => mAppAt i (mt k) (mt e)
  | .ret e => mRet (mt e)
  | .retN => fun _ s => isRetN s
  | .brk => fun _ s => isBrk s
  | .cnt => fun _ s => isCnt s
  | .pas => fun _ s => isPass s
  | .nev => fun _ _ => true
  | .ite c a b => mIfS (mt c) (mB a) (mB b)
  | .for_ tg r es b => mFor tg (mIt r (mt1 es) (mtL es)) (mB b)
  | .whl c b => mWhl (mt c) (mB b)
  | .cpy _ _ => mSno
  | .mov _ _ => mSno
  | .tri i j l a b c => mTri i j l (mt a) (mt b) (mt c)
  | .aug i o e => mAug i o (mt e)
  | .augAt i k o e => mAugAt i (mt k) o (mt e)
  | .setAt i k e => mSetAt i (mt k) (mt e)
  | .ext i e => mMeth "extend" i (mt e)
  | .rem i e => mMeth "remove" i (mt e)
  | .popS i j true => mPopF i j
  | .popS _ _ false => mSno
  | .popCat i j e => mPopCat i j (mt e)
def mB : List Sc → Mb
  | [] => mBnil
  | s :: ss => mBcons (mS s) (mB ss)
end
theorem vSetN_eq {s : Stmt} {y : Str} {v : Expr} (h : vSetN s = some (y, v)) : ∃ p q, s = .Assign [.Name y p] v q := by
  unfold vSetN at h; split at h
  · cases h; exact ⟨_, _, rfl⟩
  · cases h
theorem vSetT_eq {s : Stmt} {t v : Expr} (h : vSetT s = some (t, v)) : ∃ q, s = .Assign [t] v q := by
  unfold vSetT at h; split at h
  · cases h; exact ⟨_, rfl⟩
  · cases h
theorem vPar_eq {s : Stmt} {x y : Str} {px py : Pos} {a b : Expr} (h : vPar s = some (x, y, px, py, a, b)) : ∃ k1 p1 k2 p2 p3, s = .Assign [.Tuple [.Name x px, .Name y py] k1 p1] (.Tuple [a, b] k2 p2) p3 := by
  unfold vPar at h; split at h
  · cases h; exact ⟨_, _, _, _, _, rfl⟩
  · cases h
theorem vMeth_eq {s : Stmt} {o a : Expr} {m : Str} (h : vMeth s = some (o, m, a)) : ∃ apos cpos pos, s = .Expr (.Call (.Attribute o m apos) [a] [] cpos) pos ∧ (apos.endLine == cpos.line) = true := by
  unfold vMeth at h; split at h
  · split at h
    · cases h; exact ⟨_, _, _, rfl, by assumption⟩
    · cases h
  · cases h
theorem vPopCat_eq {s : Stmt} {x y : Str} {a : Expr} (h : vPopCat s = some (x, y, a)) : ∃ p1 p2 p3 apos cpos kt pt bp pos, s = .Assign [.Name x p1] (.BinOp (.Name x p2) .Add (.Tuple [.Call (.Attribute (.Name y p3) "pop" apos) [a] [] cpos] kt pt) bp) pos ∧ (apos.endLine == cpos.line) = true := by
  unfold vPopCat at h; split at h
  · split at h
    · rename_i hh
      obtain ⟨h1, rfl, rfl⟩ := hh
      cases h; exact ⟨_, _, _, _, _, _, _, _, _, rfl, h1⟩
    · cases h
  · cases h
theorem vTri_eq {s : Stmt} {x y z : Str} {px py pz : Pos} {a b c : Expr} (h : vTri s = some (x, y, z, px, py, pz, a, b, c)) : ∃ k1 p1 k2 p2 p3, s = .Assign [.Tuple [.Name x px, .Name y py, .Name z pz] k1 p1] (.Tuple [a, b, c] k2 p2) p3 := by
  unfold vTri at h; split at h
  · cases h; exact ⟨_, _, _, _, _, rfl⟩
  · cases h
theorem vSetAt_eq {s : Stmt} {x : Str} {k v : Expr} (h : vSetAt s = some (x, k, v)) : ∃ p1 p2 p3, s = .Assign [.Subscript (.Name x p1) k p2] v p3 := by
  unfold vSetAt at h; split at h
  · cases h; exact ⟨_, _, _, rfl⟩
  · cases h
theorem vAugAt_eq {s : Stmt} {x : Str} {k v : Expr} {op : Operator} (h : vAugAt s = some (x, k, op, v)) : ∃ p1 p2 p3, s = .AugAssign (.Subscript (.Name x p1) k p2) op v p3 := by
  unfold vAugAt at h; split at h
  · cases h; exact ⟨_, _, _, rfl⟩
  · cases h
theorem vAug_eq {s : Stmt} {x : Str} {v : Expr} {op : Operator} (h : vAug s = some (x, op, v)) : ∃ p1 p3, s = .AugAssign (.Name x p1) op v p3 := by
  unfold vAug at h; split at h
  · cases h; exact ⟨_, _, rfl⟩
  · cases h
theorem vPopF_eq {s : Stmt} {x y : Str} (h : vPopF s = some (x, y)) : ∃ p1 p2 apos kc pc cpos pos, s = .Assign [.Name x p1] (.Call (.Attribute (.Name y p2) "pop" apos) [.Constant (.int 0) kc pc] [] cpos) pos ∧ (apos.endLine == cpos.line) = true := by
  unfold vPopF at h; split at h
  · split at h
    · rename_i hh
      obtain ⟨h1, rfl, rfl⟩ := hh
      cases h; exact ⟨_, _, _, _, _, _, _, rfl, h1⟩
    · cases h
  · cases h
theorem op2_addI : ∀ (i : Int) (y : D) (Q : D → Prop), op2 .add (.int i) y Q → ∃ j, y = .int j ∧ Q (.int (i + j)) := fun i y Q q => by
  cases y with
  | int j => exact ⟨j, rfl, q⟩
  | _ => exact False.elim q
theorem op2_subI : ∀ (i : Int) (y : D) (Q : D → Prop), op2 .sub (.int i) y Q → ∃ j, y = .int j ∧ Q (.int (i - j)) := fun i y Q q => by
  cases y with
  | int j => exact ⟨j, rfl, q⟩
  | _ => exact False.elim q
theorem vRet_eq {s : Stmt} {e : Expr} (h : vRet s = some e) : ∃ p, s = .Return (some e) p := by
  unfold vRet at h; split at h
  · cases h; exact ⟨_, rfl⟩
  · cases h
theorem vIfS_eq {s : Stmt} {c : Expr} {a b : List Stmt} (h : vIfS s = some (c, a, b)) : ∃ p, s = .If c a b p := by
  unfold vIfS at h; split at h
  · cases h; exact ⟨_, rfl⟩
  · cases h
theorem vFor_eq {s : Stmt} {t it : Expr} {b : List Stmt} (h : vFor s = some (t, it, b)) : ∃ p, s = .For t it b [] p := by
  unfold vFor at h; split at h
  · cases h; exact ⟨_, rfl⟩
  · cases h
theorem vWhl_eq {s : Stmt} {c : Expr} {b : List Stmt} (h : vWhl s = some (c, b)) : ∃ p, s = .While c b [] p := by
  unfold vWhl at h; split at h
  · cases h; exact ⟨_, rfl⟩
  · cases h
section
variable {r : Option Addr} {T : List NTab} {Φ : Fam} {O : Own} {H0 : Hp} (M : Φ.Mono)
include M
mutual
theorem mS_sound : ∀ (s : Sc) (C : Mc) (X : Cx) (_ : Good Φ T C X) (_ : PassesOwn (model X.prog X.w) X.A X.env X.xe) (s' : Stmt), mS s C s' = true → PS X s' (TSc (pw r T) X.K C.pl Φ O H0 s)
  | .set (.nm i) e, C, X, G, hp, s', h => by
    simp only [mS, mSet] at h
    split at h
    · rename_i y v hx
      obtain ⟨p, q, rfl⟩ := vSetN_eq hx
      simp only [Bool.and_eq_true, decide_eq_true_eq] at h
      obtain ⟨⟨⟨⟨h1, h2⟩, h3⟩, h4⟩, h5⟩ := h
      exact s_setN M G h1 h2 h3 h4 h5
    · cases h
  | .set (.tp ts) e, C, X, G, hp, s', h => by
    simp only [mS, mSet] at h
    split at h
    · rename_i t v hx
      obtain ⟨q, rfl⟩ := vSetT_eq hx
      simp only [Bool.and_eq_true] at h
      obtain ⟨⟨h1, h2⟩, h3⟩ := h
      have ht : ∃ es k p, t = .Tuple es k p := by
        cases t <;> first | exact ⟨_, _, _, rfl⟩ | (simp [mtG] at h2; done)
      obtain ⟨es, k, p, rfl⟩ := ht
      refine s_setT M G h1 h2 ?_ ?_
      · cases v <;> rfl
      · rw [Bool.or_eq_true] at h3
        rcases h3 with h3 | h3
        · cases v <;> first | rfl | (simp [notTupE] at h3; done)
        · exact sw_none (by rw [G.sc]; exact h3)
    · cases h
  | .par i j a b, C, X, G, hp, s', h => by
    simp only [mS, mPar] at h
    split at h
    · rename_i x y px py a' b' hx
      obtain ⟨k1, p1, k2, p2, p3, rfl⟩ := vPar_eq hx
      simp only [Bool.and_eq_true, decide_eq_true_eq] at h
      obtain ⟨⟨⟨⟨⟨⟨⟨h1, h2⟩, h3⟩, h4⟩, h5⟩, h6⟩, h7⟩, h8⟩ := h
      exact s_par M G h1 h2 h3 h4 h5 h6 h7 h8
    · cases h
  | .app i e, C, X, G, hp, s', h => by
    simp only [mS, mApp] at h
    split at h
    · rename_i o m a hx
      obtain ⟨apos, cpos, pos, rfl, hl⟩ := vMeth_eq hx
      split at h
      · rename_i x hn
        obtain ⟨p, rfl⟩ := vName_eq hn
        simp only [Bool.and_eq_true, decide_eq_true_eq, nameOk] at h
        obtain ⟨⟨⟨rfl, h1⟩, h2⟩, ⟨⟨h3, h4⟩, h5⟩, h6⟩ := h
        exact s_app M G h1 h2 h3 h4 (not_of h5) (not_of h6) hl
      · cases h
    · cases h
  | .appAt i k e, C, X, G, hp, s', h => by
    simp only [mS, mAppAt] at h
    split at h
    · rename_i o m a hx
      obtain ⟨apos, cpos, pos, rfl, hl⟩ := vMeth_eq hx
      split at h
      · rename_i o' k' hs
        obtain ⟨p2, rfl⟩ := vSub_eq hs
        split at h
        · rename_i x hn
          obtain ⟨p, rfl⟩ := vName_eq hn
          simp only [Bool.and_eq_true, decide_eq_true_eq, nameOk] at h
          obtain ⟨⟨⟨⟨⟨rfl, h1⟩, hk⟩, hsl⟩, h2⟩, ⟨⟨h3, h4⟩, h5⟩, h6⟩ := h
          exact s_appAt M G h1 hk hsl h2 h3 h4 (not_of h5) (not_of h6) hl
        · cases h
      · cases h
    · cases h
  | .ret e, C, X, G, hp, s', h => by
    simp only [mS, mRet] at h
    split at h
    · rename_i v hx
      obtain ⟨p, rfl⟩ := vRet_eq hx
      exact s_ret M G h
    · cases h
  | .retN, C, X, G, hp, s', h => by
    cases s' with
    | Return v p =>
      cases v with
      | none => exact s_retN
      | some => cases h
    | _ => cases h
  | .brk, C, X, G, hp, s', h => by
    cases s' with
    | Break p => exact s_brk
    | _ => cases h
  | .cnt, C, X, G, hp, s', h => by
    cases s' with
    | Continue p => exact s_cnt
    | _ => cases h
  | .pas, C, X, G, hp, s', h => by
    cases s' with
    | Pass p => exact s_pas
    | _ => cases h
  | .nev, C, X, G, hp, s', h => s_nev
  | .ite c a b, C, X, G, hp, s', h => by
    simp only [mS, mIfS] at h
    split at h
    · rename_i c' a' b' hx
      obtain ⟨p, rfl⟩ := vIfS_eq hx
      simp only [Bool.and_eq_true] at h
      exact s_if M G h.1.1 (mB_sound a C X G hp a' h.1.2) (mB_sound b C X G hp b' h.2)
    · cases h
  | .for_ tg rg es b, C, X, G, hp, s', h => by
    simp only [mS, mFor] at h
    split at h
    · rename_i t it b' hx
      obtain ⟨p, rfl⟩ := vFor_eq hx
      simp only [Bool.and_eq_true] at h
      exact s_for M G hp h.1.1.1 h.1.1.2 h.1.2 (mB_sound b C X G hp b' h.2)
    · cases h
  | .whl c b, C, X, G, hp, s', h => by
    simp only [mS, mWhl] at h
    split at h
    · rename_i c' b' hx
      obtain ⟨p, rfl⟩ := vWhl_eq hx
      simp only [Bool.and_eq_true] at h
      exact s_whl M G hp h.1 (mB_sound b C X G hp b' h.2)
    · cases h
  | .cpy _ _, _, _, _, _, _, h => by cases h
  | .mov _ _, _, _, _, _, _, h => by cases h
  | .popS _ _ false, _, _, _, _, _, h => by cases h
  | .tri i j l a b c, C, X, G, hp, s', h => by
    simp only [mS, mTri] at h
    split at h
    · rename_i x y z px py pz a' b' c' hx
      obtain ⟨k1, p1, k2, p2, p3, rfl⟩ := vTri_eq hx
      simp only [Bool.and_eq_true, decide_eq_true_eq] at h
      obtain ⟨⟨⟨⟨⟨⟨⟨⟨⟨⟨⟨⟨h1, h2⟩, h3⟩, i1⟩, i2⟩, i3⟩, n1⟩, n2⟩, n3⟩, hb⟩, p1⟩, p2⟩, p3⟩ := h
      exact s_tri M G h1 h2 h3 i1 i2 i3 n1 n2 n3 hb p1 p2 p3
    · cases h
  | .setAt i k e, C, X, G, hp, s', h => by
    simp only [mS, mSetAt] at h
    split at h
    · rename_i x k' v hx
      obtain ⟨p1, p2, p3, rfl⟩ := vSetAt_eq hx
      simp only [Bool.and_eq_true, decide_eq_true_eq, nameOk] at h
      obtain ⟨⟨⟨h1, h2⟩, h3⟩, ⟨⟨h4, h5⟩, h6⟩, h7⟩ := h
      exact s_setAt M G h1 h2 h3 h4 h5 (not_of h6) (not_of h7)
    · cases h
  | .augAt i k o e, C, X, G, hp, s', h => by
    simp only [mS, mAugAt] at h
    split at h
    · rename_i x k' op v hx
      obtain ⟨p1, p2, p3, rfl⟩ := vAugAt_eq hx
      simp only [Bool.and_eq_true, decide_eq_true_eq, nameOk, augOp, Bool.or_eq_true] at h
      obtain ⟨⟨⟨⟨h1, h2⟩, h3⟩, ho⟩, ⟨⟨h4, h5⟩, h6⟩, h7⟩ := h
      rcases ho with ⟨rfl, rfl⟩ | ⟨rfl, rfl⟩
      · exact s_augAt M G iop_add op2_addI h1 h2 h3 h4 h5 (not_of h6) (not_of h7)
      · exact s_augAt M G iop_sub op2_subI h1 h2 h3 h4 h5 (not_of h6) (not_of h7)
    · cases h
  | .aug i o e, C, X, G, hp, s', h => by
    simp only [mS, mAug] at h
    split at h
    · rename_i x op v hx
      obtain ⟨p1, p3, rfl⟩ := vAug_eq hx
      simp only [Bool.and_eq_true, decide_eq_true_eq, augOp, Bool.or_eq_true] at h
      obtain ⟨⟨⟨⟨h1, ho⟩, h2⟩, h3⟩, h4⟩ := h
      rcases ho with ⟨rfl, rfl⟩ | ⟨rfl, rfl⟩
      · exact s_aug M G iop_add op2_addI h1 h2 h3 h4
      · exact s_aug M G iop_sub op2_subI h1 h2 h3 h4
    · cases h
  | .ext i e, C, X, G, hp, s', h => by
    simp only [mS, mMeth] at h
    split at h
    · rename_i o m a hx
      obtain ⟨apos, cpos, pos, rfl, hl⟩ := vMeth_eq hx
      split at h
      · rename_i x hn
        obtain ⟨p, rfl⟩ := vName_eq hn
        simp only [Bool.and_eq_true, decide_eq_true_eq, nameOk] at h
        obtain ⟨⟨⟨rfl, h1⟩, h2⟩, ⟨⟨h3, h4⟩, h5⟩, h6⟩ := h
        exact s_ext M G h1 h2 h3 h4 (not_of h5) (not_of h6) hl
      · cases h
    · cases h
  | .rem i e, C, X, G, hp, s', h => by
    simp only [mS, mMeth] at h
    split at h
    · rename_i o m a hx
      obtain ⟨apos, cpos, pos, rfl, hl⟩ := vMeth_eq hx
      split at h
      · rename_i x hn
        obtain ⟨p, rfl⟩ := vName_eq hn
        simp only [Bool.and_eq_true, decide_eq_true_eq, nameOk] at h
        obtain ⟨⟨⟨rfl, h1⟩, h2⟩, ⟨⟨h3, h4⟩, h5⟩, h6⟩ := h
        exact s_rem M G h1 h2 h3 h4 (not_of h5) (not_of h6) hl
      · cases h
    · cases h
  | .popS i j true, C, X, G, hp, s', h => by
    simp only [mS, mPopF] at h
    split at h
    · rename_i x y hx
      obtain ⟨p1, p2, apos, kc, pc, cpos, pos, rfl, hl⟩ := vPopF_eq hx
      simp only [Bool.and_eq_true, decide_eq_true_eq, nameOk] at h
      obtain ⟨⟨⟨h1, h2⟩, ⟨⟨h3, h4⟩, h5⟩, h6⟩, h7⟩ := h
      exact s_popF G h1 h3 h2 h4 (not_of h5) (not_of h6) h7 hl
    · cases h
  | .popCat i j e, C, X, G, hp, s', h => by
    simp only [mS, mPopCat] at h
    split at h
    · rename_i x y a hx
      obtain ⟨p1, p2, p3, apos, cpos, kt, pt, bp, pos, rfl, hl⟩ := vPopCat_eq hx
      simp only [Bool.and_eq_true, decide_eq_true_eq, nameOk] at h
      obtain ⟨⟨⟨⟨⟨h1, h2⟩, ⟨⟨h3, h4⟩, h5⟩, h6⟩, ⟨⟨g3, g4⟩, g5⟩, g6⟩, h7⟩, h8⟩ := h
      exact s_popCat M G h1 h2 h3 g3 h7 h4 (not_of h5) (not_of h6) g4 (not_of g5) (not_of g6) h8 hl
    · cases h
theorem mB_sound : ∀ (ss : List Sc) (C : Mc) (X : Cx) (_ : Good Φ T C X) (_ : PassesOwn (model X.prog X.w) X.A X.env X.xe) (ss' : List Stmt), mB ss C ss' = true → PSs X ss' (TBc (pw r T) X.K C.pl Φ O H0 ss)
  | [], C, X, G, hp, ss', h => by
    cases ss' with
    | nil => exact s_nil
    | cons => cases h
  | s :: ss, C, X, G, hp, ss', h => by
    cases ss' with
    | nil => cases h
    | cons s' ss' =>
      have h : (mS s C s' && mB ss C ss') = true := h
      rw [Bool.and_eq_true] at h
      exact s_seq M (mS_sound s C X G hp s' h.1) (mB_sound ss C X G hp ss' h.2)
end
end
end W3
namespace W3
open PySem PySem.Spec PyProof.Rows L2 NdefX LamX
structure DefAt (K : PySem.W.Frag) (mg : Str → Option Value) (x : Str) (q : Str) (st : Stmt) : Prop where
  ex : ∃ (f : Addr) (fd : FuncData), mg x = some (.ref f) ∧ Fun K x q st f fd
theorem defAt {K : PySem.W.Frag} {h : Heap} {mg : Str → Option Value} (X : K.In h) (G : h.Ns mainGlobals mg) {x q : Str} {st : Stmt} {f : Addr} {od an : Option Addr} {sl : Array (Option Value)} {oc kV dc pm cd ct : Value}
  (a : PySem.W.nsIn K mainGlobals x = some (some (.ref f))) (l : K.lookup f = some ⟨oc, od, .func (PySem.W.fnOf x q (defArgs st) (defBody st) (defScope st) .none kV dc pm an cd ct), sl⟩) (c : PySem.W.codeIn K cd q = true) (k : PySem.W.keepIn K (.ref f) = true) : DefAt K mg x q st :=
  ⟨⟨f, _, PySem.W.mg_of X G a, fun_mk l c k⟩⟩
/-- the def named x keeps the promise sp, at depth k -/
structure DefOk (P : Program) (w : World) (K : PySem.W.Frag) (mg : Str → Option Value) (base : Heap) (k : Nat) (x : Str) (sp : Sp) : Prop where
  ex : ∃ (fa : Addr) (fd : FuncData) (ps : List Str), FnOk P w K mg base L2.CX0 k fa fd ps sp ∧ mg x = some (.ref fa) ∧ PySem.W.keepIn K (.ref fa) = true ∧ Binds K fd ps []
section
variable {P : Program} {w : World} {K : PySem.W.Frag} {mg : Str → Option Value} {base : Heap}
theorem DefOk.mono {j k : Nat} {x : Str} {sp : Sp} (d : DefOk P w K mg base j x sp) (h : j ≤ k) : DefOk P w K mg base k x sp := by
  obtain ⟨fa, fd, ps, F, r⟩ := d.ex
  exact ⟨fa, fd, ps, F.mono h, r⟩
theorem DefOk.imp {k : Nat} {x : Str} {sp sp' : Sp} (d : DefOk P w K mg base k x sp) (h : ∀ vs H Q E, sp' vs H Q E → sp vs H Q E) : DefOk P w K mg base k x sp' := by
  obtain ⟨fa, fd, ps, F, r⟩ := d.ex
  exact ⟨fa, fd, ps, F.imp h, r⟩
/-- the slots at the entry -/
def sl0 (N : List Str) (ds : List D) : Sl := ds.map some ++ List.replicate (N.length - ds.length) none
/-- the footprints by places -/
theorem Rps.split {H : Hp} : ∀ {vs : List V} {ds : List D} {fp : List Addr}, Rps K H vs ds fp → ∃ F : Nat → List Addr, (∀ (i : Nat) d, ds[i]? = some d → ∃ v, vs[i]? = some v ∧ Rp K H v d (F i)) ∧ (∀ i, (∀ d, ds[i]? ≠ some d) → F i = []) ∧ ∀ i p, p ∈ F i → p ∈ fp
  | _, _, _, .nil => ⟨fun _ => [], fun i d h => by simp at h, fun _ _ => rfl, fun _ _ h => nomatch h⟩
  | _, _, _, .cons (f1 := f1) (f2 := f2) h hs => by
    obtain ⟨F, h1, h2, h3⟩ := Rps.split hs
    refine ⟨fun i => match i with | 0 => f1 | i + 1 => F i, fun i d q => ?_, fun i q => ?_, fun i p q => ?_⟩
    · cases i with
      | zero => simp at q; subst q; exact ⟨_, rfl, h⟩
      | succ i =>
        obtain ⟨v, a, b⟩ := h1 i d (by simpa using q)
        exact ⟨v, by simpa using a, b⟩
    · cases i with
      | zero => exact absurd rfl (q _)
      | succ i => exact h2 i fun d z => q d (by simpa using z)
    · cases i with
      | zero => exact List.mem_append_left _ q
      | succ i => exact List.mem_append_right _ (h3 i p q)
theorem sl0_get {N : List Str} {ds : List D} {i : Nat} {d : D} (h : (sl0 N ds)[i]? = some (some d)) : ds[i]? = some d := by
  unfold sl0 at h
  by_cases hi : i < ds.length
  · rw [List.getElem?_append_left (by simpa using hi)] at h
    simpa using h
  · rw [List.getElem?_append_right (by simpa using hi)] at h
    rw [List.getElem?_replicate] at h
    split at h <;> cases h
theorem sl0_at {N : List Str} {ds : List D} {i : Nat} {d : D} (h : ds[i]? = some d) : (sl0 N ds)[i]? = some (some d) := by
  unfold sl0
  have hi : i < ds.length := by
    rcases Nat.lt_or_ge i ds.length with z | z
    · exact z
    · rw [List.getElem?_eq_none z] at h; cases h
  rw [List.getElem?_append_left (by simpa using hi)]
  simp [h]
theorem start_get {N : List Str} {vs : List V} {i : Nat} {v : V} (h : vs[i]? = some v) : (L2.start N vs)[i]? = some (some v) := by
  unfold L2.start
  have hi : i < vs.length := by
    rcases Nat.lt_or_ge i vs.length with z | z
    · exact z
    · rw [List.getElem?_eq_none z] at h; cases h
  rw [List.getElem?_append_left (by simpa using hi)]
  simp [h]
/-- the calls that a body makes -/
structure Calls (P : Program) (w : World) (K : PySem.W.Frag) (mg : Str → Option Value) (base : Heap) (T : List NTab) (Φ : Fam) (k : Nat) (C : Mc) : Prop where
  bi : ∀ b ∈ bNames, mg b = none
  fs : ∀ f ∈ C.fs, DefOk P w K mg base k (C.fnm f) (spN T K (Φ.sp f))
  fsP : ∀ f ∈ C.fsP, DefOk P w K mg base k (C.fnm f) (spPl T K (Φ.spP f))
  gs : ∀ k ∈ C.gs, ∃ u v, mg (C.gnm k) = some u ∧ RelV v u ∧ ∀ H, Rp K H v (gd k) []
/-- the name of a def's lambdas -/
def lamQ (q : Str) : Str := (envOfC q { kind := .function, names := [], isGenerator := false, isCoroutine := false } 0 0 .none).qual ++ "<lambda>"
/-- a def that makes lambdas: its code object and its table -/
structure LamD (mg : Str → Option Value) (base : Heap) (T : List NTab) (q : Str) (cdv : Value) : Prop where
  ex : ∃ (LT : List (Addr × Str)) (c P : Addr), T = LT.map (fun p => (p.1, fun _ _ => p.2)) ∧ TabB base mg c P ∧ cdv = .ref c ∧ (P, lamQ q) ∈ LT ∧ ∀ p ∈ LT, p.1 = P → p.2 = lamQ q
theorem okC {x qual : Str} {st : Stmt} {f : Addr} {fd : FuncData} {N ps : List Str} {k : Nat} {sp : Sp} (F : Fun K x qual st f fd) (S : FnScope N ps (defScope st)) (len : ∀ vs H Q E, sp vs H Q E → vs.length = ps.length)
    (hbody : ∀ (A : Around) (outer : List Env) (s : Shared) (H : Hp) (vs : List V) (Q : VK) (E : XK), Room k (A.deeper (envOfC qual (defScope st) s.heap.objs.size f fd.code)) → sp vs H Q E →
      ∃ t, PSs (cxOf CX0 P w K mg base N qual (defScope st) f fd.code A outer s H E).nox (defBody st) t ∧ t { nx := fun _ H' => Q .non H', rt := Q } (start N vs) H) : FnOk P w K mg base CX0 (k + 1) f fd ps sp := by
  obtain ⟨oc, od, kV, doc, pm, an, cdv, ct, osl, rfl, lk, hcd⟩ := F.ex
  refine fn_of lk hcd S len fun A outer s H vs Q E hr hsp => ?_
  obtain ⟨t, h, q⟩ := hbody A outer s H vs Q E hr hsp
  exact ⟨t, h.nox, q⟩
theorem good_of {T : List NTab} {Φ : Fam} {k : Nat} {C : Mc} (hc : Calls P w K mg base T Φ k C) {qual : Str} {f : Addr} {cdv : Value} {A : Around} {outer : List Env} {s : Shared} {H : Hp} {E : XK} (hn : C.N.Nodup)
    (hr : Room k (A.deeper (envOfC qual C.sc s.heap.objs.size f cdv))) (hl : C.lam = true → 2 ≤ k ∧ LamD mg base T qual cdv) : Good Φ T C (cxOf L2.CX0 P w K mg base C.N qual C.sc f cdv A outer s H E).nox where
  calm := rfl
  N := rfl
  nd := hn
  sc := rfl
  blk := fun _ _ => rfl
  hu := by have := hr.un; show (A.deeper _).units + 100 < _; omega
  bi := hc.bi
  fs := fun f hf => by
    obtain ⟨fa, fd, ps, F, h1, h2, h3⟩ := (hc.fs f hf).ex
    exact ⟨k, fa, fd, ps, hr, F, h1, h2, h3⟩
  fsP := fun f hf => by
    obtain ⟨fa, fd, ps, F, h1, h2, h3⟩ := (hc.fsP f hf).ex
    exact ⟨k, fa, fd, ps, hr, F, h1, h2, h3⟩
  gs := hc.gs
  lam := fun h _ => by
    obtain ⟨h2, d⟩ := hl h
    obtain ⟨LT, c, P, e1, e2, e3, e4, e5⟩ := d.ex
    exact ⟨⟨LT, c, P, e1, e2, e3, e4, e5⟩, hr.mono h2⟩
/-- what the look finds, of a def -/
structure Looks (st : Stmt) (C : Mc) (ps : List Str) (O : Own) (b : List Sc) : Prop where
  sc : C.sc = defScope st
  blk : C.blk = false
  S : FnScope C.N ps C.sc
  own : (O.all fun i => decide (ps.length ≤ i)) = true
  mb : mB b C (defBody st) = true
theorem def_n {T : List NTab} {Φ : Fam} (M : Φ.Mono) {k : Nat} {C : Mc} {x q : Str} {st : Stmt} {ps : List Str} {O : Own} {b : List Sc} (d : DefAt K mg x q st) (L : Looks st C ps O b) (hpl : C.pl = none) (hc : Calls P w K mg base T Φ k C) (hl : C.lam = true → 2 ≤ k ∧ ∀ fa fd, mg x = some (.ref fa) → Fun K x q st fa fd → LamD mg base T q fd.code)
    (hb : ∀ (kV doc pm : Value) (an : Option Addr) (cdv ct : Value) (us : List Value), us.length = ps.length → bindArgs (PySem.W.fnOf x q (defArgs st) (defBody st) (defScope st) .none kV doc pm an cdv ct) ⟨us, []⟩ = pure (ps.zip us))
    {F : List D → (D → Prop) → Prop} (hlen : ∀ ds Q, F ds Q → ds.length = ps.length) (hw : ∀ ds Q, F ds Q → wpB Φ O b (sl0 C.N ds) 0 { nx := fun _ _ => Q .none, rt := fun d _ => Q d }) :
    DefOk P w K mg base (k + 1) x (spN T K F) := by
  obtain ⟨fa, fd, hm, F0⟩ := d.ex
  refine ⟨fa, fd, ps, ?_, hm, F0.kp, F0.binds hb⟩
  have hsc := L.sc
  refine okC F0 (N := C.N) (by rw [← hsc]; exact L.S) (fun vs H Q E h => ?_) fun A outer s H vs Q E hr h => ?_
  · obtain ⟨ds, fp, h1, h2, h3⟩ := h
    rw [h1.length]
    exact hlen _ _ h3
  · obtain ⟨ds, fp, h1, h2, h3⟩ := h
    rw [← hsc] at hr ⊢
    have G : Good Φ T C (cxOf L2.CX0 P w K mg base C.N q C.sc fa fd.code A outer s H E).nox := good_of hc L.S.nd hr fun z => ⟨(hl z).1, (hl z).2 fa fd hm F0⟩
    refine ⟨TBc (pw none T) K C.pl Φ O H b, mB_sound (r := none) (O := O) (H0 := H) M b C _ G PassesOwn.never _ L.mb, ?_⟩
    obtain ⟨Fp, g1, g2, g3⟩ := h1.split
    have hl := hlen _ _ h3
    refine ⟨sl0 C.N ds, 0, ⟨H, []⟩, ⟨Fp, ?_⟩, wpB_mono M (K := { nx := fun _ _ => _, rt := fun d _ => _ }) ⟨fun Γ g q σ' H' e' => ?_, fun d g q v H' fp' e' w' r' f' => ?_, fun _ _ z => False.elim z, fun _ _ z => False.elim z⟩ (hw _ _ h3)⟩
    · exact
        { len := by
            have := h1.length
            simp [sl0, L2.start]; omega
          at_ := fun i d hd => by
            obtain ⟨v, a1, a2⟩ := g1 i d (sl0_get hd)
            exact ⟨v, start_get a1, a2, fun a ha => by
              rcases ha with z | z
              · cases z
              · cases z⟩
          off := fun i hi => g2 i fun d hd => hi d (sl0_at hd)
          own := fun i hi => by
            have hi' := List.all_eq_true.mp L.own i hi
            simp only [decide_eq_true_eq] at hi'
            have : Fp i = [] := g2 i fun d hd => by
              rw [List.getElem?_eq_none (by omega)] at hd; cases hd
            rw [this]
            exact ⟨List.nodup_nil, (fun _ h => nomatch h), fun _ _ _ h => nomatch h⟩
          pool := fun i hi => by rw [hpl] at hi; cases hi
          wi := ⟨(fun r hr => by cases hr), h2, (fun a ha => nomatch ha)⟩
          ext := Ext.refl _ _
          st := ⟨(fun _ _ h => h), (fun _ _ _ h => h), (fun a ha => by cases ha)⟩ }
    · obtain ⟨F', e'⟩ := e'
      exact q .non H' [] e'.ext e'.wi.tab .non ⟨List.nodup_nil, fun _ h => nomatch h⟩
    · exact q v H' fp' e' w'.tab r' f'
theorem def_p {T : List NTab} {Φ : Fam} (M : Φ.Mono) {k : Nat} {C : Mc} {x q : Str} {st : Stmt} {p0 : Str} {ps : List Str} {O : Own} {b : List Sc} (d : DefAt K mg x q st) (L : Looks st C (p0 :: ps) O b) (hpl : C.pl = some 0) (hc : Calls P w K mg base T Φ k C) (hl : C.lam = true → 2 ≤ k ∧ ∀ fa fd, mg x = some (.ref fa) → Fun K x q st fa fd → LamD mg base T q fd.code)
    (hb : ∀ (kV doc pm : Value) (an : Option Addr) (cdv ct : Value) (us : List Value), us.length = (p0 :: ps).length → bindArgs (PySem.W.fnOf x q (defArgs st) (defBody st) (defScope st) .none kV doc pm an cdv ct) ⟨us, []⟩ = pure ((p0 :: ps).zip us))
    {F : List D → Nat → Kc → Prop} (hlen : ∀ ds g Q, F ds g Q → ds.length = ps.length) (hw : ∀ ds g Q, F ds g Q → wpB Φ O b (none :: sl0 C.N.tail ds) g { nx := fun _ g' => Q .none g', rt := Q }) :
    DefOk P w K mg base (k + 1) x (spPl T K F) := by
  obtain ⟨fa, fd, hm, F0⟩ := d.ex
  refine ⟨fa, fd, p0 :: ps, ?_, hm, F0.kp, F0.binds hb⟩
  have hsc := L.sc
  refine okC F0 (N := C.N) (by rw [← hsc]; exact L.S) (fun vs H Q E h => ?_) fun A outer s H vs Q E hr h => ?_
  · obtain ⟨r, p, vs', ds, fp, g, rfl, h1, h2, h3, h4, h5⟩ := h
    have := hlen _ _ _ h5
    simp [h2.length, this]
  · obtain ⟨r, p, vs', ds, fp, g, rfl, h1, h2, h3, h4, h5⟩ := h
    rw [← hsc] at hr ⊢
    have G : Good Φ T C (cxOf L2.CX0 P w K mg base C.N q C.sc fa fd.code A outer s H E).nox := good_of hc L.S.nd hr fun z => ⟨(hl z).1, (hl z).2 fa fd hm F0⟩
    refine ⟨TBc (pw (some r) T) K C.pl Φ O H b, mB_sound (r := some r) (O := O) (H0 := H) M b C _ G PassesOwn.never _ L.mb, ?_⟩
    obtain ⟨Fp, g1, g2, g3⟩ := h2.split
    have hl := hlen _ _ _ h5
    have hN : C.N ≠ [] := fun z => by
      have := L.S.pre
      rw [z] at this
      simp at this
    refine ⟨none :: sl0 C.N.tail ds, g, ⟨H, []⟩, ⟨fun i => match i with | 0 => [] | i + 1 => Fp i, ?_⟩, wpB_mono M (K := { nx := fun _ _ => _, rt := _ }) ⟨fun Γ g q σ' H' e' => ?_, fun d g q v H' fp' e' w' r' f' => ?_, fun _ _ z => False.elim z, fun _ _ z => False.elim z⟩ (hw _ _ _ h5)⟩
    · exact
        { len := by
            have := h2.length
            cases hc : C.N with
            | nil => exact absurd hc hN
            | cons a l => simp [sl0, L2.start]; omega
          at_ := fun i d hd => by
            cases i with
            | zero => cases hd
            | succ i =>
              obtain ⟨v, a1, a2⟩ := g1 i d (sl0_get (by simpa using hd))
              refine ⟨v, start_get (by simpa using a1), a2, fun a ha hm => ?_⟩
              rcases ha with z | z
              · cases z; exact h3 (g3 i _ hm)
              · cases z
          off := fun i hi => by
            cases i with
            | zero => rfl
            | succ i => exact g2 i fun d hd => hi d (by simpa using sl0_at (N := C.N.tail) hd)
          own := fun i hi => by
            have hi' := List.all_eq_true.mp L.own i hi
            simp only [decide_eq_true_eq, List.length_cons] at hi'
            cases i with
            | zero => omega
            | succ i =>
              have : Fp i = [] := g2 i fun d hd => by
                rw [List.getElem?_eq_none (by omega)] at hd; cases hd
              have e0 : ∀ p, p ∉ Fp i := by rw [this]; exact fun _ h => nomatch h
              exact ⟨by show (Fp i).Nodup; rw [this]; exact List.nodup_nil, fun p hp => absurd hp (e0 p), fun _ _ p hp => absurd hp (e0 p)⟩
          pool := fun i hi => by
            rw [hpl] at hi
            cases hi
            exact ⟨p, start_get rfl, h1⟩
          wi := h4
          ext := Ext.refl _ _
          st := ⟨(fun _ _ h => h), (fun _ _ _ h => h), (fun a ha => by cases ha)⟩ }
    · obtain ⟨F', e'⟩ := e'
      exact q .non H' [] e'.ext e'.wi .non ⟨List.nodup_nil, fun _ h => nomatch h⟩
    · exact q v H' fp' e' w' r' f'
end
end W3
namespace W3
open PySem PySem.Spec PyProof.Rows L2 NdefX LamX
def cellB : List Stmt → Bool
  | [.If (.Compare (.Name k _) [.Lt] [.Call (.Name l _) [.Name s _] [] _] _) [.Return (some (.Subscript (.Name s2 _) (.Name k2 _) _)) _] [] _, .Return (some (.Constant (.int z) _ _)) _] => decide (k = "k" ∧ l = "len" ∧ s = "script" ∧ s2 = "script" ∧ k2 = "k" ∧ z = 0)
  | _ => false
theorem cellB_eq {ss : List Stmt} (h : cellB ss = true) : ∃ p1 p2 p3 p4 p5 p6 p7 p8 p9 p10 p11 p12 k0, ss = cellBody p1 p2 p3 p4 p5 p6 p7 p8 p9 p10 p11 p12 k0 := by
  unfold cellB at h
  split at h
  · simp only [decide_eq_true_eq] at h
    obtain ⟨rfl, rfl, rfl, rfl, rfl, rfl⟩ := h
    exact ⟨_, _, _, _, _, _, _, _, _, _, _, _, _, rfl⟩
  · cases h
section
variable {P : Program} {w : World} {K : PySem.W.Frag} {mg : Str → Option Value} {base : Heap}
theorem def_cell {st : Stmt} (d : DefAt K mg "_law_cell" "_law_cell" st) (S : FnScope ["script", "k"] ["script", "k"] (defScope st)) (hb : cellB (defBody st) = true) (gl : glB (defScope st) "len" = true) (v0 : visB (defScope st) "script" = true) (v1 : visB (defScope st) "k" = true) (bi : ∀ b ∈ bNames, mg b = none)
    (hbind : ∀ (kV doc pm : Value) (an : Option Addr) (cdv ct : Value) (us : List Value), us.length = 2 → bindArgs (PySem.W.fnOf "_law_cell" "_law_cell" (defArgs st) (defBody st) (defScope st) .none kV doc pm an cdv ct) ⟨us, []⟩ = pure ((["script", "k"] : List Str).zip us)) :
    DefOk P w K mg base 1 "_law_cell" (spCell K) := by
  obtain ⟨fa, fd, hm, F0⟩ := d.ex
  refine ⟨fa, fd, ["script", "k"], ?_, hm, F0.kp, F0.binds hbind⟩
  refine F0.ok (k := 0) S (fun vs H Q E h => ?_) fun cdv A outer s H vs Q E hr h => ?_
  · obtain ⟨l, ns, j, rfl, _⟩ := h
    rfl
  · obtain ⟨p1, p2, p3, p4, p5, p6, p7, p8, p9, p10, p11, p12, k0, e⟩ := cellB_eq hb
    refine ⟨tCell K, ?_, cell_run h⟩
    rw [e]
    refine pss_cell rfl rfl (vis_of v0) (vis_of v1) ?_ (bi _ (by decide +kernel))
    unfold glB at gl
    show (defScope st).names.lookup _ = some .globalImplicit
    split at gl
    · assumption
    · cases gl
/-- what _law_draws promises: so many numbers, none below 0 -/
def spDraws : List D → (D → Prop) → Prop := fun ds Q => ∃ (c : Int) (n : Nat), ds = [.int c, .int (n : Int)] ∧ n ≤ 1000 ∧ ∀ rows : List Int, rows.length = n → (∀ x ∈ rows, 0 ≤ x) → Q (.list (rows.map .int))
/-- the pool stands at p, just made -/
structure NewPool (H : Hp) (p q r : Addr) (rows : List Int) : Prop where
  hp : H p = some (.lst [.ref q, .ref r])
  hq : H q = some (.lst (rows.map V.int))
  hr : H r = some (.lst [.int 0])
  ne : p ≠ r ∧ q ≠ r
  rows : (rows ≠ [] ∧ rows.length ≤ 1000) ∧ ∀ x ∈ rows, 0 ≤ x
def spPool (T : List NTab) (K : PySem.W.Frag) : Sp := fun vs H Q _ => ∃ (a : Addr) (ns : List Int), vs = [.ref a] ∧ SqL K H a (ns.map V.int) ∧ TabsN T H ∧
  ∀ (H' : Hp) p q r rows, Ext ⟨none, T, []⟩ H H' → TabsN T H' → NewPool H' p q r rows → Q (.ref p) H'
def poolB : List Stmt → Bool
  | [.Assign [.Name r1 _] (.List [] _) _,
     .For (.Name k1 _) (.Call (.Name rg _) [.Call (.Name mn _) [.Constant (.int z4) _ _, .Call (.Name mx _) [.Constant (.int z1) _ _, .Call (.Name ln _) [.Name s1 _] [] _] [] _] [] _] [] _)
       [.Assign [.Name r2 _] (.BinOp (.Name r3 _) .Add (.Call (.Name dr _) [.BinOp (.Call (.Name ce _) [.Name s2 _, .Name k2 _] [] _) .Add (.BinOp (.Constant (.int z7) _ _) .Mult (.Name k3 _) _) _, .Constant (.int z20) _ _] [] _) _) _] [] _,
     .Return (some (.List [.Name r4 _, .List [.Constant (.int z0) _ _] _] _)) _] =>
    decide (r1 = "rows" ∧ k1 = "k" ∧ rg = "range" ∧ mn = "min" ∧ z4 = 4 ∧ mx = "max" ∧ z1 = 1 ∧ ln = "len" ∧ s1 = "script" ∧ r2 = "rows" ∧ r3 = "rows" ∧ dr = "_law_draws" ∧ ce = "_law_cell" ∧ s2 = "script" ∧ k2 = "k" ∧ z7 = 7 ∧ k3 = "k" ∧ z20 = 20 ∧ r4 = "rows" ∧ z0 = 0)
  | _ => false
theorem glB_gl {sc : Scope} {x : Str} (gl : glB sc x = true) : sc.names.lookup x = some .globalImplicit := by
  unfold glB at gl
  split at gl
  · assumption
  · cases gl
theorem sql_ext {T : List NTab} {H H' : Hp} {a : Addr} {vs : List V} (h : SqL K H a vs) (e : Ext ⟨none, T, []⟩ H H') : SqL K H' a vs := by
  rcases h with (h | ⟨o, h⟩) | h
  · exact .inl (.inl (e.keep _ _ h (fun ps z => by cases z) (fun z => by cases z)))
  · exact .inl (.inr ⟨o, e.keep _ _ h (fun ps z => by cases z) (fun z => by cases z)⟩)
  · exact .inr h
theorem rD2_int {P : Pw} {o : O2} {x y z : Int} {g : Nat} {H : Hp} {Q : VK} (w : WI P g H) (h : ∀ R : D → Prop, R (.int z) → op2 o (.int x) (.int y) R) (q : ∀ H', Ext P H H' → WI P g H' → Q (.int z) H') : rD2 P K o (.int x) (.int y) H Q :=
  ⟨.int x, .int y, [], [], g, .int x, .int y, nr_nil, nr_nil, w, h _ fun v H' fp e w' r _ _ => by
    cases r
    exact q H' e w'⟩
theorem def_pool {T : List NTab} {k : Nat} {st : Stmt} (d : DefAt K mg "_law_pool" "_law_pool" st) (S : FnScope ["script", "rows", "k"] ["script"] (defScope st)) (hb : poolB (defBody st) = true)
    (gl : ((["range", "min", "max", "len", "_law_draws", "_law_cell"] : List Str).all fun x => glB (defScope st) x) = true) (lo : ((defScope st).names.lookup ("rows" : Str) = some NameKind.local ∧ (defScope st).names.lookup ("k" : Str) = some NameKind.local) ∧ (defScope st).names.lookup ("script" : Str) = some NameKind.local) (bi : ∀ b ∈ bNames, mg b = none)
    (hce : DefOk P w K mg base k "_law_cell" (spCell K)) (hdr : DefOk P w K mg base k "_law_draws" (spN T K spDraws))
    (hbind : ∀ (kV doc pm : Value) (an : Option Addr) (cdv ct : Value) (us : List Value), us.length = 1 → bindArgs (PySem.W.fnOf "_law_pool" "_law_pool" (defArgs st) (defBody st) (defScope st) .none kV doc pm an cdv ct) ⟨us, []⟩ = pure ((["script"] : List Str).zip us)) :
    DefOk P w K mg base (k + 1) "_law_pool" (spPool T K) := by
  obtain ⟨fa, fd, hm, F0⟩ := d.ex
  refine ⟨fa, fd, ["script"], ?_, hm, F0.kp, F0.binds hbind⟩
  refine F0.ok (k := k) S (fun vs H Q E h => ?_) fun cdv A outer s H vs Q E hr h => ?_
  · obtain ⟨l, ns, rfl, _⟩ := h
    rfl
  obtain ⟨a, ns, rfl, hsq, hT, q⟩ := h
  unfold poolB at hb
  split at hb
  rotate_left
  · cases hb
  rename_i r1 pr1 pl1 ps1 k1 pk1 rg prg mn pmn z4 kz4 pz4 mx pmx z1 kz1 pz1 ln pln s1 pss1 pc1 pc2 pc3 pc4 r2 pr2 r3 pr3 dr pdr ce pce s2 pss2 k2 pk2 pcc z7 kz7 pz7 k3 pk3 pm7 pp1 z20 kz20 pz20 pcd pbb pas pfor r4 pr4 z0 kz0 pz0 pl0 pl00 pret heq
  simp only [decide_eq_true_eq] at hb
  obtain ⟨rfl, rfl, rfl, rfl, rfl, rfl, rfl, rfl, rfl, rfl, rfl, rfl, rfl, rfl, rfl, rfl, rfl, rfl, rfl, rfl⟩ := hb
  rw [heq]
  simp only [List.all_cons, List.all_nil, Bool.and_true, Bool.and_eq_true] at gl
  obtain ⟨g1, g2, g3, g4, g5, g6⟩ := gl
  obtain ⟨⟨l1, l2⟩, l3⟩ := lo
  obtain ⟨fc, fdc, psc, FC, mc, kc, bc⟩ := hce.ex
  obtain ⟨fw, fdw, psw, FW, mw, kw, bw⟩ := hdr.ex
  let X := (cxOf L2.CX0 P w K mg base ["script", "rows", "k"] "_law_pool" (defScope st) fa cdv A outer s H E).nox
  have hN : X.N.Nodup := S.nd
  have v0 : Vis X.env.scope "script" := .inl l3
  have v1 : Vis X.env.scope "rows" := .inl l1
  have v2 : Vis X.env.scope "k" := .inl l2
  have P0 : Pw := ⟨none, T, []⟩
  refine ⟨_, pss_cons (X := X) (ps_set (i := 1) hN rfl (.inl l1) (pe_lst pa_nil) rfl (.inr l1))
    (pss_cons (ps_for (X := X) PassesOwn.never rfl
      (pi_range1 (glB_gl g1) (bi _ (by decide +kernel)) (pa_cons (pe_callB (call_min2 rfl) (glB_gl g2) (bi _ (by decide +kernel)) (by decide +kernel) (pa_cons pe_int (pa_cons (pe_callB (call_max2 rfl) (glB_gl g3) (bi _ (by decide +kernel)) (by decide +kernel) (pa_cons pe_int (pa_cons (pe_callB call_len (glB_gl g4) (bi _ (by decide +kernel)) boot_len (pa_cons (pe_var (i := 0) rfl v0) pa_nil)) pa_nil))) pa_nil))) pa_nil))
      (pg_name (i := 2) hN rfl (.inl l2) (.inr l2))
      (pss_one (ps_set (i := 1) hN rfl (.inl l1) (pe_op (opD_add (P := ⟨none, T, []⟩)) (pe_var (i := 1) rfl v1)
        (pe_call (CX := L2.CX0) (E := E0) FW hr (glB_gl g5) mw kw bw .nil pass0 (pa_cons (pe_op (opD_add (P := ⟨none, T, []⟩)) (pe_call (CX := L2.CX0) (E := E0) FC hr (glB_gl g6) mc kc bc .nil pass0 (pa_cons (pe_var (i := 0) rfl v0) (pa_cons (pe_var (i := 2) rfl v2) pa_nil))) (pe_op (opD_mul (P := ⟨none, T, []⟩)) pe_int (pe_var (i := 2) rfl v2))) (pa_cons pe_int pa_nil)))) rfl (.inr l1))))
    (pss_one (ps_ret (pe_lst (pa_cons (pe_var (i := 1) rfl v1) (pa_cons (pe_lst (pa_cons pe_int pa_nil)) pa_nil)))))), ?_⟩
  have w0 : ∀ {H'}, TabsN T H' → WI ⟨none, T, []⟩ 0 H' := fun t => ⟨(fun r hr => by cases hr), t, (fun a ha => nomatch ha)⟩
  refine ⟨Nat.zero_le _, fun l0 hl0 => ?_⟩
  have x0 : Ext ⟨none, T, []⟩ H (upd H l0 (.lst [])) := Ext.upd hl0
  have t0 : TabsN T (upd H l0 (.lst [])) := ((w0 hT).upd (o := .lst []) hl0).tab
  have hs0 := sql_ext hsq x0
  refine ⟨.ref a, rfl, .ref a, (ns.map V.int).length, rfl, .inl ⟨_, hs0, rfl⟩, 1, ((ns.map V.int).length : Nat), rfl, 4, _, rfl, ?_⟩
  generalize hm4 : (if (if (((ns.map V.int).length : Nat) : Int) > 1 then (((ns.map V.int).length : Nat) : Int) else 1) < 4 then (if (((ns.map V.int).length : Nat) : Int) > 1 then (((ns.map V.int).length : Nat) : Int) else 1) else 4) = m4
  have b4 : 1 ≤ m4 ∧ m4 ≤ 4 := by
    subst hm4
    split <;> split <;> omega
  refine ⟨m4, rfl, by omega, by omega, ?_⟩
  refine for_range (fun i σ' H' => ∃ (l : Addr) (rs : List Int) (o : Option V), σ' = [some (.ref a), some (.ref l), o] ∧ H' l = some (.lst (rs.map V.int)) ∧ (∀ x ∈ rs, 0 ≤ x) ∧ rs.length = 20 * i ∧ Ext ⟨none, T, []⟩ H H' ∧ TabsN T H') ?_ ?_ ?_
  · exact ⟨l0, [], none, rfl, upd_same, (fun _ h => nomatch h), rfl, x0, t0⟩
  · rintro i σ1 H1 hi ⟨l, rs, o, rfl, hl, hpos, hlen, e1, t1⟩
    have hi4 : i < 4 := by omega
    refine ⟨.ref l, rfl, ?_⟩
    refine ⟨.ref a, rfl, .int (0 + i), rfl, a, ns, i, by simp, sql_ext hsq e1, ?_⟩
    refine ⟨.int (0 + i), rfl, ?_⟩
    refine rD2_int (z := 7 * (0 + i)) (w0 t1) (fun R h => ⟨.inl ⟨by decide, by decide⟩, h⟩) fun H2 e2 w2 => ?_
    refine rD2_int (z := cellOf ns i + 7 * (0 + i)) w2 (fun R h => h) fun H3 e3 w3 => ?_
    refine ⟨[.int (cellOf ns i + 7 * (0 + i)), .int 20], [], .cons (f1 := []) (.int _) (Rps.one (.int 20)), w3.tab, cellOf ns i + 7 * (0 + i), 20, rfl, by omega, fun rows hn hp v H4 fp e4 t4 r4 f4 => ?_⟩
    have e14 := e1.trans ((e2.trans e3).trans e4)
    have hl4 : H4 l = some (.lst (rs.map V.int)) := e4.keep l _ (e3.keep l _ (e2.keep l _ hl (fun ps z => by cases z) (fun z => by cases z)) (fun ps z => by cases z) (fun z => by cases z)) (fun ps z => by cases z) (fun z => by cases z)
    refine ⟨.list (rs.map .int), .list (rows.map .int), [l], fp, 0, .lst hl4 (Rps.of_ints rs), r4, (fun a ha => by
      rcases ha with z | z
      · cases z
      · cases z), (fun a ha => by
      rcases ha with z | z
      · cases z
      · cases z), w0 t4, ⟨by simp only [List.length_map]; show _ ≤ 16000000; omega, fun v5 H5 f5 e5 w5 r5 n5 fr5 => ?_⟩⟩
    cases r5 with
    | @lst l5 vs5 _ f' h5 hs5 =>
      rw [← List.map_append] at hs5
      obtain ⟨rfl, _⟩ := hs5.ints
      exact ⟨l5, rs ++ rows, some (.int (0 + i)), rfl, h5, fun x hx => (List.mem_append.mp hx).elim (hpos x) (hp x), by simp; omega, e14.trans e5, w5.tab⟩
  · rintro σ1 H1 ⟨l, rs, o, rfl, hl, hpos, hlen, e1, t1⟩
    refine ⟨.ref l, rfl, ?_⟩
    refine ⟨Nat.le_trans (by decide : 1 ≤ 2) (by rw [sizeLine_eq]; decide), fun r1 hr1 => ?_⟩
    refine ⟨Nat.le_trans (by decide : 2 ≤ 2) (by rw [sizeLine_eq]; decide), fun p1 hp1 => ?_⟩
    have hpr : p1 ≠ r1 := fun z => by rw [z, upd_same] at hp1; cases hp1
    have hlr : l ≠ r1 := fun z => by rw [z, hr1] at hl; cases hl
    have hlp : l ≠ p1 := fun z => by
      rw [upd_ne hpr, ← z, hl] at hp1; cases hp1
    have ex : Ext ⟨none, T, []⟩ H1 (upd (upd H1 r1 (.lst [.int 0])) p1 (.lst [.ref l, .ref r1])) := (Ext.upd hr1).trans (Ext.upd hp1)
    refine q _ p1 l r1 rs (e1.trans ex) (((w0 t1).upd (o := .lst [.int 0]) hr1).upd (o := .lst [.ref l, .ref r1]) hp1).tab ⟨upd_same, ?_, ?_, ⟨hpr, hlr⟩, ⟨?_, by omega⟩, hpos⟩
    · rw [upd_ne hlp, upd_ne hlr]; exact hl
    · rw [upd_ne (Ne.symm hpr), upd_same]
    · intro z
      rw [z] at hlen
      simp at hlen
      omega
end
end W3
namespace W3
open PySem PySem.Spec PyProof.Rows L2 NdefX LamX
/-- a pick: any number below the amount; the counter goes up -/
def spPick : List D → Nat → Kc → Prop := fun ds g Q => ∃ a : Nat, ds = [.int (a : Int)] ∧ 0 < a ∧ g < 2 ^ 40 ∧ ∀ r : Nat, r < a → Q (.int (r : Int)) (g + 1)
def pickA : List Stmt → Bool
  | [.Assign [.Name a1 _] (.Subscript (.Subscript (.Name p1 _) (.Constant (.int z1) _ _) _) (.Constant (.int z2) _ _) _) _,
     .Assign [.Subscript (.Subscript (.Name p2 _) (.Constant (.int z3) _ _) _) (.Constant (.int z4) _ _) _] (.BinOp (.Name a2 _) .Add (.Constant (.int z5) _ _) _) _] =>
    decide (a1 = "at" ∧ p1 = "pool" ∧ z1 = 1 ∧ z2 = 0 ∧ p2 = "pool" ∧ z3 = 1 ∧ z4 = 0 ∧ a2 = "at" ∧ z5 = 1)
  | _ => false
/-- the rest of the pick's body, over the pool as data -/
def pickR : List Sc := [.set (.nm 3) (.op .fdv (.slot 2) (.b1 .len (.ix (.slot 0) (.cst (.int 0))))), .ret (.op .mod (.b1 .int (.op .add (.op .add (.ix (.ix (.slot 0) (.cst (.int 0))) (.op .mod (.slot 2) (.b1 .len (.ix (.slot 0) (.cst (.int 0)))))) (.op .mul (.slot 3) (.cst (.int 1009)))) (.op .mul (.slot 3) (.slot 2)))) (.slot 1))]
def pickC (sc : Scope) : Mc := ⟨["pool", "amount", "at", "turn"], sc, false, fun _ => "", fun _ => "", [], [], [], none, false⟩
theorem pickR_wp (Φ : Fam) (rows : List Int) (n : Nat) (a : Nat) (h1 : rows ≠ [] ∧ rows.length ≤ 1000) (ha : 0 < a) (hn : n < 2 ^ 40) (Q : D → Prop) (h : ∀ r : Nat, r < a → Q (.int (r : Int))) (m : Int) (g : Nat) :
    wpB Φ [] pickR [some (.list [.list (rows.map .int), .list [.int m]]), some (.int (a : Int)), some (.int (n : Int)), none] g { nx := fun _ _ => False, rt := fun d _ => Q d } := by
  have hl : 0 < rows.length := List.length_pos_iff.mpr h1.1
  simp only [pickR, wpB, wpS, wpE, fin, getS, optK, op2, b1K, ixK, seqK, tgFlat, asOk, wpTg, List.set, if_true, flat, atN, List.length_cons, List.length_nil]
  refine ⟨⟨by decide, by decide⟩, _, rfl, ⟨by rw [List.length_map]; omega, by rw [List.length_map]; omega⟩, ⟨rfl, ?_⟩⟩
  refine ⟨⟨by decide, by decide⟩, _, rfl, ⟨by decide, by decide⟩, _, rfl, by rw [List.length_map]; omega, ?_⟩
  have hr : 0 ≤ (n : Int) % ((rows.map PyData.int).length : Nat) ∧ (n : Int) % ((rows.map PyData.int).length : Nat) < rows.length := by
    rw [List.length_map]
    exact ⟨Int.emod_nonneg _ (by omega), Int.emod_lt_of_pos _ (by omega)⟩
  generalize (n : Int) % ((rows.map PyData.int).length : Nat) = k at hr ⊢
  refine ⟨⟨by rw [List.length_map]; omega, by rw [List.length_map]; omega⟩, .int (rows[k.toNat]'(by omega)), ?_, .inr ⟨by decide, by decide⟩, ?_⟩
  · rw [if_neg (by omega), List.getElem?_map, List.getElem?_eq_getElem (by omega)]
    rfl
  have hq : 0 ≤ (n : Int) / ((rows.map PyData.int).length : Nat) ∧ (n : Int) / ((rows.map PyData.int).length : Nat) ≤ n := by
    rw [List.length_map]
    exact ⟨Int.ediv_nonneg (by omega) (by omega), Int.ediv_le_self _ (by omega)⟩
  generalize (n : Int) / ((rows.map PyData.int).length : Nat) = t at hq ⊢
  refine ⟨.inl ⟨by omega, by omega⟩, by omega, rfl, ?_⟩
  generalize rows[k.toNat]'(by omega) + t * 1009 + t * n = x
  have hx := Int.emod_nonneg x (b := (a : Int)) (by omega)
  have hx2 := Int.emod_lt_of_pos x (b := (a : Int)) (by omega)
  obtain ⟨y, hy⟩ := Int.eq_ofNat_of_zero_le hx
  rw [hy]
  exact h y (by omega)
section
variable {P : Program} {w : World} {K : PySem.W.Frag} {mg : Str → Option Value} {base : Heap}
def fam0 : Fam := ⟨fun _ _ _ => False, fun _ _ _ _ => False⟩
theorem fam0_mono : fam0.Mono := ⟨fun _ _ _ _ _ h => h.elim, fun _ _ _ _ _ _ h => h.elim⟩
theorem def_pick {T : List NTab} {st : Stmt} (d : DefAt K mg "_law_pick" "_law_pick" st) (S : FnScope ["pool", "amount", "at", "turn"] ["pool", "amount"] (defScope st)) (hb : pickA ((defBody st).take 2) = true) (hr : mB pickR (pickC (defScope st)) ((defBody st).drop 2) = true)
    (lo : (defScope st).names.lookup ("at" : Str) = some NameKind.local ∧ (defScope st).names.lookup ("pool" : Str) = some NameKind.local) (bi : ∀ b ∈ bNames, mg b = none)
    (hbind : ∀ (kV doc pm : Value) (an : Option Addr) (cdv ct : Value) (us : List Value), us.length = 2 → bindArgs (PySem.W.fnOf "_law_pick" "_law_pick" (defArgs st) (defBody st) (defScope st) .none kV doc pm an cdv ct) ⟨us, []⟩ = pure ((["pool", "amount"] : List Str).zip us)) :
    DefOk P w K mg base 1 "_law_pick" (spPl T K spPick) := by
  obtain ⟨fa, fd, hm, F0⟩ := d.ex
  refine ⟨fa, fd, ["pool", "amount"], ?_, hm, F0.kp, F0.binds hbind⟩
  refine F0.ok (k := 0) S (fun vs H Q E h => ?_) fun cdv A outer s H vs Q E hrm h => ?_
  · obtain ⟨r, p, vs', ds, fp, g, rfl, h1, h2, h3, h4, a, rfl, _⟩ := h
    have := h2.length
    simp at this
    simp [this]
  obtain ⟨r, p, vs', ds, fp, g, rfl, h1, h2, h3, h4, a, rfl, ha, hg, q⟩ := h
  obtain ⟨rfl, rfl⟩ : vs' = [.int (a : Int)] ∧ fp = [] := Rps.ints (is := [(a : Int)]) h2
  obtain ⟨pq, pr, rows, hr0, hp, hq, hrows, hpos, npr, nqr, _, _⟩ := h1.ex
  cases hr0
  obtain ⟨n, hn, hcnt⟩ := h4.cnt r rfl
  have sp : defBody st = (defBody st).take 2 ++ (defBody st).drop 2 := (List.take_append_drop 2 _).symm
  generalize htk : (defBody st).take 2 = tk at hb sp
  generalize hdp : (defBody st).drop 2 = dp at hr sp
  unfold pickA at hb
  split at hb
  rotate_left
  · cases hb
  simp only [decide_eq_true_eq] at hb
  obtain ⟨rfl, rfl, rfl, rfl, rfl, rfl, rfl, rfl, rfl⟩ := hb
  rw [sp]
  obtain ⟨l1, l2⟩ := lo
  let X := (cxOf L2.CX0 P w K mg base ["pool", "amount", "at", "turn"] "_law_pick" (defScope st) fa cdv A outer s H E).nox
  have hN : X.N.Nodup := S.nd
  have v0 : Vis X.env.scope "pool" := .inl l2
  have v2 : Vis X.env.scope "at" := .inl l1
  have G : Good fam0 T (pickC (defScope st)) X := good_of (C := pickC (defScope st)) (k := 0) ⟨bi, (fun f hf => nomatch hf), (fun f hf => nomatch hf), (fun f hf => nomatch hf)⟩ hN hrm (fun h => nomatch h)
  have hs := mB_sound (r := none) (O := []) (H0 := upd H r (.lst [.int ((n : Int) + 1)])) fam0_mono pickR _ X G PassesOwn.never dp hr
  refine ⟨_, pss_cons (X := X) (ps_set (i := 2) hN rfl (.inl l1) (pe_ix ix_seq (pe_ix ix_seq (pe_var (i := 0) rfl v0) pe_int fun _ _ => rfl) pe_int fun _ _ => rfl) rfl (.inr l1))
    (pss_cons (X := X) (ps_asg (pe_op op_add (pe_var (i := 2) rfl v2) pe_int) (pg_sub (pe_ix ix_seq (pe_var (i := 0) rfl v0) pe_int fun _ _ => rfl) pe_int set_list) rfl rfl rfl) hs), ?_⟩
  refine ⟨.ref p, rfl, .inl ⟨p, _, 1, .ref r, rfl, rfl, SqL.of hp, rfl, .inl ⟨r, _, 0, .int (n : Int), rfl, rfl, SqL.of hcnt, rfl, ?_⟩⟩⟩
  refine ⟨.int (n : Int), rfl, ⟨(n : Int), 1, rfl, rfl, ?_⟩⟩
  refine ⟨.ref p, rfl, .inl ⟨p, _, 1, .ref r, rfl, rfl, SqL.of hp, rfl, r, _, 0, 0, rfl, rfl, hcnt, rfl, ?_⟩⟩
  show TBc _ _ _ _ _ _ _ _ _ (upd H r (.lst [.int ((n : Int) + 1)]))
  have hp2 : upd H r (.lst [.int ((n : Int) + 1)]) p = some (.lst [.ref pq, .ref r]) := by rw [upd_ne npr]; exact hp
  have hq2 : upd H r (.lst [.int ((n : Int) + 1)]) pq = some (.lst (rows.map V.int)) := by rw [upd_ne nqr]; exact hq
  have t2 : TabsN T (upd H r (.lst [.int ((n : Int) + 1)])) := tabs_upd h4.tab hcnt
  have nrN : ∀ fp : List Addr, nr ⟨none, T, []⟩ fp := fun fp b hb => by
    rcases hb with z | z
    · cases z
    · cases z
  have R : Rp K (upd H r (.lst [.int ((n : Int) + 1)])) (.ref p) (.list [.list (rows.map .int), .list [.int ((n : Int) + 1)]]) (p :: ((pq :: []) ++ ([r] ++ []))) :=
    .lst hp2 (.cons (.lst hq2 (Rps.of_ints rows)) (.cons (.lst upd_same (Rps.one (.int _))) .nil))
  refine ⟨[some (.list [.list (rows.map .int), .list [.int ((n : Int) + 1)]]), some (.int (a : Int)), some (.int (n : Int)), none], 0, ⟨upd H r (.lst [.int ((n : Int) + 1)]), []⟩, ⟨fun i => match i with | 0 => p :: ((pq :: []) ++ ([r] ++ [])) | _ => [], ?_⟩, wpB_mono fam0_mono (K := { nx := fun _ _ => False, rt := fun d _ => ∃ y : Nat, y < a ∧ d = .int (y : Int) }) ⟨fun _ _ z => False.elim z, fun d g' z v H' fp' e' w' r' f' => ?_, fun _ _ z => False.elim z, fun _ _ z => False.elim z⟩ (pickR_wp fam0 rows n a hrows ha (by omega) _ (fun y hy => ⟨y, hy, rfl⟩) _ 0)⟩
  · exact
      { len := rfl
        at_ := fun i d hd => by
          match i, hd with
          | 0, hd => cases hd; exact ⟨_, rfl, R, nrN _⟩
          | 1, hd => cases hd; exact ⟨_, rfl, .int _, nrN _⟩
          | 2, hd => cases hd; exact ⟨_, rfl, .int _, nrN _⟩
          | 3, hd => cases hd
          | i + 4, hd => cases hd
        off := fun i hi => by
          match i, hi with
          | 0, hi => exact absurd rfl (hi _)
          | i + 1, _ => rfl
        own := fun i hi => nomatch hi
        pool := fun i hi => by cases hi
        wi := ⟨(fun r hr => by cases hr), t2, (fun a ha => nomatch ha)⟩
        ext := Ext.refl _ _
        st := ⟨(fun _ _ h => h), (fun _ _ _ h => h), (fun a ha => by cases ha)⟩ }
  · obtain ⟨y, hy, rfl⟩ := z
    have hr' : H' r = some (.lst [.int ((n : Int) + 1)]) := e'.keep r _ upd_same (fun ps z => by cases z) (fun z => by cases z)
    refine q y hy v H' fp' ⟨fun b o hbo hnt hnr => ?_, fun b hb => ?_⟩ ⟨fun r0 hr0 => ?_, w'.tab, (fun a ha => nomatch ha)⟩ r' ⟨f'.1, fun b hb => ?_⟩
    · have hbr : b ≠ r := fun z => hnr (by rw [z])
      exact e'.keep b o (by rw [upd_ne hbr]; exact hbo) hnt (fun z => by cases z)
    · have := e'.free b hb
      by_cases hbr : b = r
      · rw [hbr, upd_same] at this; cases this
      · rwa [upd_ne hbr] at this
    · cases hr0
      exact ⟨n + 1, by omega, by rw [hr']; rfl⟩
    · have := f'.2 b hb
      by_cases hbr : b = r
      · rw [hbr, upd_same] at this; cases this
      · rwa [upd_ne hbr] at this
end
end W3
namespace W3
open PySem PySem.Spec PyProof.Rows L2 NdefX LamX
def spLaw (T : List NTab) (K : PySem.W.Frag) : Sp := fun vs H Q _ => ∃ (a : Addr) (ns : List Int), vs = [.ref a] ∧ SqL K H a (ns.map V.int) ∧ TabsN T H ∧ ∀ H', Q (.bl true) H'
def lawA : Stmt → Bool
  | .Assign [.Name p _] (.Call (.Name f _) [.Name s _] [] _) _ => decide (p = "pool" ∧ f = "_law_pool" ∧ s = "script")
  | _ => false
/-- what the look finds, of the law -/
structure LooksL (st : Stmt) (C : Mc) (i : Nat) (O : Own) (b : List Sc) : Prop where
  sc : C.sc = defScope st
  blk : C.blk = false
  S : FnScope C.N ["script"] C.sc
  pl : C.pl = some i
  pool : C.N[i]? = some ("pool" : Str)
  i0 : 0 < i
  sto : stB C "pool" = true
  gl : glB C.sc "_law_pool" = true
  vis : visB C.sc "script" = true
  hd : (match (defBody st).head? with | some s => lawA s | none => false) = true
  mb : mB b C (defBody st).tail = true
section
variable {P : Program} {w : World} {K : PySem.W.Frag} {mg : Str → Option Value} {base : Heap}
theorem def_law {T : List NTab} {Φ : Fam} (M : Φ.Mono) {k : Nat} {C : Mc} {st : Stmt} {i : Nat} {O : Own} {b : List Sc} {fa : Addr} {fd : FuncData} (F0 : Fun K "law" "law" st fa fd) (L : LooksL st C i O b) (hc : Calls P w K mg base T Φ k C) (hl : C.lam = true → 2 ≤ k ∧ LamD mg base T "law" fd.code) (hpool : DefOk P w K mg base k "_law_pool" (spPool T K))
    (hw : wpB Φ O b (List.replicate C.N.length none) 0 { nx := fun _ _ => False, rt := fun d _ => d = .bool true }) :
    FnOk P w K mg base L2.CX0 (k + 1) fa fd ["script"] (spLaw T K) := by
  have hsc := L.sc
  refine okC F0 (N := C.N) (by rw [← hsc]; exact L.S) (fun vs H Q E h => ?_) fun A outer s H vs Q E hr h => ?_
  · obtain ⟨a, ns, rfl, _⟩ := h
    rfl
  obtain ⟨a, ns, rfl, hsq, hT, q⟩ := h
  rw [← hsc] at hr ⊢
  have hhd := L.hd
  have hmb := L.mb
  generalize defBody st = bd at hhd hmb ⊢
  cases bd with
  | nil => cases hhd
  | cons s0 rest =>
    have hhd : lawA s0 = true := hhd
    have hmb : mB b C rest = true := hmb
    unfold lawA at hhd
    split at hhd
    rotate_left
    · cases hhd
    simp only [decide_eq_true_eq] at hhd
    obtain ⟨rfl, rfl, rfl⟩ := hhd
    have G : Good Φ T C (cxOf L2.CX0 P w K mg base C.N "law" C.sc fa fd.code A outer s H E).nox := good_of hc L.S.nd hr hl
    obtain ⟨fp, fdp, psp, FP, mp, kp, bp⟩ := hpool.ex
    have hN0 : C.N[0]? = some ("script" : Str) := by
      have := L.S.pre
      cases hN : C.N with
      | nil => rw [hN] at this; simp at this
      | cons x l => rw [hN] at this; simp at this; simp [this]
    have hL : Loc C.sc ("pool" : Str) ∧ ((cxOf L2.CX0 P w K mg base C.N "law" C.sc fa fd.code A outer s H E).nox.fn "pool" = true ∨ C.sc.names.lookup ("pool" : Str) = some .local) := by
      have hs := L.sto
      unfold stB at hs
      split at hs
      · exact ⟨.inl (by assumption), .inr (by assumption)⟩
      · exact ⟨.inr (by assumption), .inl rfl⟩
      · cases hs
    have hrest : PSs (cxOf L2.CX0 P w K mg base C.N "law" C.sc fa fd.code A outer s H E).nox rest (fun D σ H => ∃ r H0, TBc (pw (some r) T) K C.pl Φ O H0 b D σ H) :=
      ⟨fun pins s' σ H' D I ⟨r, H0, q⟩ => (mB_sound (r := some r) (O := O) (H0 := H0) M b C _ G PassesOwn.never rest hmb).run pins s' σ H' D I q⟩
    refine ⟨_, pss_cons (ps_set (i := i) L.S.nd L.pool hL.1 (pe_call (CX := L2.CX0) (E := E0) FP hr (glB_gl L.gl) mp kp bp .nil pass0 (pa_cons (pe_var (i := 0) hN0 (vis_of L.vis)) pa_nil)) rfl hL.2) hrest, ?_⟩
    have hst : (L2.start C.N [V.ref a])[0]? = some (some (.ref a)) := start_get rfl
    refine ⟨.ref a, hst, a, ns, rfl, hsq, hT, fun H1 p qa r rows e1 t1 np => ?_⟩
    refine ⟨r, H1, List.replicate C.N.length none, 0, ⟨H1, []⟩, ⟨fun _ => [], ?_⟩, wpB_mono M (K := { nx := fun _ _ => False, rt := fun d _ => d = .bool true }) ⟨fun _ _ z => False.elim z, fun d g' z v H' fp' e' w' r' f' => ?_, fun _ _ z => False.elim z, fun _ _ z => False.elim z⟩ hw⟩
    · have hlen : i < C.N.length := by
        rcases Nat.lt_or_ge i C.N.length with z | z
        · exact z
        · have := L.pool
          rw [List.getElem?_eq_none z] at this; cases this
      exact
        { len := by simp [L2.start]; omega
          at_ := fun j d hd => by
            rw [List.getElem?_replicate] at hd
            split at hd <;> cases hd
          off := fun _ _ => rfl
          own := fun _ _ => ⟨List.nodup_nil, (fun _ h => nomatch h), fun _ _ _ h => nomatch h⟩
          pool := fun j hj => by
            rw [L.pl] at hj
            cases hj
            refine ⟨p, List.getElem?_set_self (by simp [L2.start]; omega), qa, r, rows, rfl, np.hp, np.hq, np.rows.1, np.rows.2, np.ne.1, np.ne.2, (fun h => nomatch h), fun h => nomatch h⟩
          wi := ⟨fun r0 hr0 => by cases hr0; exact ⟨0, Nat.le_refl _, np.hr⟩, t1, (fun a ha => nomatch ha)⟩
          ext := Ext.refl _ _
          st := ⟨(fun _ _ h => h), (fun _ _ _ h => h), (fun a ha => by cases ha)⟩ }
    · subst z
      cases r'
      exact q H'
end
end W3
namespace W3
open PySem
def nD (k : Nat) : D := .int (k : Int)
def prD (p : Nat × Nat) : D := .tuple [nD p.1, nD p.2]
structure Gr where
  n : Nat
  es : List (Nat × Nat)
def grD (g : Gr) : D := .tuple [nD g.n, .tuple (g.es.map prD)]
def Has (Φ : Fam) (f : Nat) (sp : List D → (D → Prop) → Prop) : Prop := ∀ ds Q, sp ds Q → Φ.sp f ds Q
def HasP (Φ : Fam) (f : Nat) (sp : List D → Nat → Kc → Prop) : Prop := ∀ ds g Q, sp ds g Q → Φ.spP f ds g Q
section
variable {α : Type} {f : D → Nat → (Option D → Nat → Prop) → Prop} {K : List D → Nat → Prop} {acc : List D} {g : Nat}
theorem lcW_map (e : α → D) (h : α → Option D) : ∀ (l : List α) {acc : List D}, (∀ x ∈ l, ∀ K' : Option D → Nat → Prop, K' (h x) g → f (e x) g K') → K (acc ++ l.filterMap h) g → lcW f (l.map e) acc g K
  | [], acc, _, q => by
    have q : K (acc ++ []) g := q
    rw [List.append_nil] at q
    exact q
  | x :: l, acc, hf, q => by
    refine hf x List.mem_cons_self _ ?_
    refine lcW_map e h l (fun y hy => hf y (List.mem_cons_of_mem _ hy)) ?_
    cases hx : h x with
    | none => rw [List.filterMap_cons_none hx] at q; exact q
    | some y =>
      rw [List.filterMap_cons_some hx] at q
      simpa using q
/-- J: what is known of the list so far, and of the count of picks -/
theorem lcW_inv (e : α → D) (J : Nat → List D → Nat → Prop) : ∀ (l : List α) (i : Nat) {acc : List D} {g : Nat}, J i acc g →
    (∀ (j : Nat) x acc g (K' : Option D → Nat → Prop), l[j]? = some x → J (i + j) acc g → (∀ o g', J (i + j + 1) (match o with | some y => acc ++ [y] | none => acc) g' → K' o g') → f (e x) g K') → (∀ acc g, J (i + l.length) acc g → K acc g) → lcW f (l.map e) acc g K
  | [], i, _, _, h, _, q => q _ _ h
  | x :: l, i, acc, g, h, hs, q => by
    refine hs 0 x acc g _ rfl h fun o g' z => ?_
    refine lcW_inv e J l (i + 1) z (fun j x acc g K' hx hJ hk => ?_) fun acc g z => q acc g ?_
    · refine hs (j + 1) x acc g K' (by simpa using hx) (by rw [show i + (j + 1) = i + 1 + j by omega]; exact hJ) fun o g' z => hk o g' ?_
      rw [show i + 1 + j + 1 = i + (j + 1) + 1 by omega]
      exact z
    · rw [List.length_cons, show i + (l.length + 1) = i + 1 + l.length by omega]
      exact z
theorem lc2W_map {f : D → List D → Nat → (List D → Nat → Prop) → Prop} (B : Nat) (e : α → D) (h : α → List D) : ∀ (l : List α) {acc : List D}, (∀ x ∈ l, ∀ (acc : List D) (K' : List D → Nat → Prop), acc.length + (h x).length ≤ B → K' (acc ++ h x) g → f (e x) acc g K') →
    acc.length + (l.flatMap h).length ≤ B → K (acc ++ l.flatMap h) g → lc2W f (l.map e) acc g K
  | [], acc, _, _, q => by
    have q : K (acc ++ []) g := q
    rw [List.append_nil] at q
    exact q
  | x :: l, acc, hf, hB, q => by
    rw [List.flatMap_cons, List.length_append] at hB
    refine hf x List.mem_cons_self _ _ (by omega) ?_
    refine lc2W_map B e h l (fun y hy => hf y (List.mem_cons_of_mem _ hy)) (by rw [List.length_append]; omega) ?_
    rw [List.flatMap_cons] at q
    simpa using q
end
/-- a loop, by what is known at each turn -/
theorem forW_map {α : Type} {f : D → Sl → Nat → Ke → Prop} {K : Ke} (e : α → D) (I : Nat → Sl → Nat → Prop) : ∀ (l : List α) (i : Nat) {Γ : Sl} {g : Nat}, I i Γ g →
    (∀ (j : Nat) x Γ g (nx : Sl → Nat → Prop), l[j]? = some x → I (i + j) Γ g → (∀ Γ g, I (i + j + 1) Γ g → nx Γ g) → f (e x) Γ g { K with nx := nx, ct := nx, bk := K.nx }) → (∀ Γ g, I (i + l.length) Γ g → K.nx Γ g) → forW f K (l.map e) Γ g
  | [], i, _, _, h, _, q => q _ _ h
  | x :: l, i, Γ, g, h, hs, q => by
    refine hs 0 x Γ g (forW f K (l.map e)) rfl h fun Γ g z => ?_
    refine forW_map e I l (i + 1) z (fun j x Γ g nx hx hI hk => ?_) fun Γ g z => q Γ g ?_
    · refine hs (j + 1) x Γ g nx (by simpa using hx) (by rw [show i + (j + 1) = i + 1 + j by omega]; exact hI) fun Γ g z => hk Γ g ?_
      rw [show i + 1 + j + 1 = i + (j + 1) + 1 by omega]
      exact z
    · rw [List.length_cons, show i + (l.length + 1) = i + 1 + l.length by omega]
      exact z
theorem sl0_eq {N : List Str} {ds : List D} {n : Nat} (h : N.length = n) : sl0 N ds = ds.map some ++ List.replicate (n - ds.length) none := by rw [← h]; rfl
theorem ifT {b : Bool} {inst : Decidable (b = true)} {P Q : Prop} (h : b = true) (p : P) : @ite Prop (b = true) inst P Q := by rw [if_pos h]; exact p
theorem ifF {b : Bool} {inst : Decidable (b = true)} {P Q : Prop} (h : b = false) (q : Q) : @ite Prop (b = true) inst P Q := by rw [if_neg (by rw [h]; exact Bool.false_ne_true)]; exact q
theorem eqv_int (i j : Int) : PyData.eqv (.int i) (.int j) = decide (i = j) := by
  by_cases h : i = j
  · subst h; simp [PyData.eqv]
  · simp [PyData.eqv, h]
theorem eqv_nD (i j : Nat) : PyData.eqv (nD i) (nD j) = decide (i = j) := by
  unfold nD
  rw [eqv_int]
  by_cases h : i = j
  · subst h; simp
  · have : ¬ (i : Int) = j := fun e => h (by omega)
    simp [h, this]
theorem eqv_prD (p q : Nat × Nat) : PyData.eqv (prD p) (prD q) = decide (p = q) := by
  obtain ⟨a, b⟩ := p
  obtain ⟨c, d⟩ := q
  have h1 := eqv_nD a c
  have h2 := eqv_nD b d
  unfold prD
  simp [PyData.eqv, PyData.eqvAll, h1, h2]
theorem inD_iff {α : Type} (e : α → D) (he : ∀ x y, PyData.eqv (e x) (e y) = true ↔ x = y) (x : α) (l : List α) : inD (e x) (l.map e) = true ↔ x ∈ l := by
  unfold inD
  rw [List.any_map, List.any_eq_true]
  exact ⟨fun ⟨y, h1, h2⟩ => (he y x).mp h2 ▸ h1, fun h => ⟨x, h, (he x x).mpr rfl⟩⟩
theorem inD_map {α : Type} [DecidableEq α] (e : α → D) (he : ∀ x y, PyData.eqv (e x) (e y) = decide (x = y)) (x : α) (l : List α) [Decidable (x ∈ l)] : inD (e x) (l.map e) = decide (x ∈ l) := by
  have := inD_iff e (fun x y => by rw [he]; exact decide_eq_true_iff) x l
  by_cases h : x ∈ l
  · rw [this.mpr h]; simp [h]
  · have h2 : inD (e x) (l.map e) ≠ true := fun z => h (this.mp z)
    simp [h]
    simpa using h2
theorem flats_map {α : Type} (e : α → D) (he : ∀ x, flat (e x) = true) (l : List α) : flats (l.map e) = true := by
  rw [flats_all]
  exact List.all_eq_true.mpr fun d hd => by
    obtain ⟨x, _, rfl⟩ := List.mem_map.mp hd
    exact he x
theorem flat_nD (k : Nat) : flat (nD k) = true := rfl
theorem flat_prD (p : Nat × Nat) : flat (prD p) = true := rfl
theorem flat_grD (g : Gr) : flat (grD g) = true := by
  show (flat (nD g.n) && (flats (g.es.map prD) && true)) = true
  rw [flats_map _ flat_prD]; rfl
theorem shp_nD (k : Nat) : shp (nD k) := by
  unfold shp nD
  simp [PyData.depth]
theorem shp_prD (p : Nat × Nat) : shp (prD p) := by
  unfold shp prD nD
  simp [PyData.depth, PyData.depthAll]
end W3
namespace W3
open PySem
/-- pair(a, b) -/
def b3 : List Sc := [.ret (.ite (.op .lt (.slot 0) (.slot 1)) (.tup [(.slot 0), (.slot 1)]) (.tup [(.slot 1), (.slot 0)]))]
def N3 : List Str := ["a", "b"]
/-- is_edge(graph, a, b) -/
def b5 : List Sc := [.ret (.and (.op .ne (.slot 1) (.slot 2)) (.op .inn (.call 3 [(.slot 1), (.slot 2)]) (.ix (.slot 0) (.cst (.int 1)))))]
def N5 : List Str := ["graph", "a", "b"]
/-- neighbours(graph, a) -/
def b6 : List Sc := [.ret (.b1 .tup (.lc [2] (.nm 2) true [(.ix (.slot 0) (.cst (.int 0)))] (some (.call 5 [(.slot 0), (.slot 1), (.slot 2)])) (.slot 2)))]
def N6 : List Str := ["graph", "a", "b"]
/-- degree(graph, a) -/
def b7 : List Sc := [.ret (.b1 .len (.call 6 [(.slot 0), (.slot 1)]))]
def N7 : List Str := ["graph", "a"]
/-- degrees(graph) -/
def b8 : List Sc := [.ret (.b1 .tup (.lc [1] (.nm 1) true [(.ix (.slot 0) (.cst (.int 0)))] none (.call 7 [(.slot 0), (.slot 1)])))]
def N8 : List Str := ["graph", "a"]
/-- of_pairs(n, pairs) -/
def b9 : List Sc := [.ret (.tup [(.slot 0), (.b1 .tup (.b1 .sset (.lc [2, 3] (.tp [(.nm 2), (.nm 3)]) false [(.slot 1)] none (.call 3 [(.slot 2), (.slot 3)]))))])]
def N9 : List Str := ["n", "pairs", "a", "b"]
/-- complement(graph) -/
def b10 : List Sc := [.set (.nm 1) (.ix (.slot 0) (.cst (.int 0))), .ret (.tup [(.slot 1), (.b1 .tup (.lc2 [2, 3] [3] (.nm 2) true [(.slot 1)] none (.nm 3) true [(.op .add (.slot 2) (.cst (.int 1))), (.slot 1)] (some (.op .nin (.tup [(.slot 2), (.slot 3)]) (.ix (.slot 0) (.cst (.int 1))))) (.tup [(.slot 2), (.slot 3)])))])]
def N10 : List Str := ["graph", "n", "a", "b"]
/-- beside(one, two) -/
def b12 : List Sc := [.set (.nm 2) (.ix (.slot 0) (.cst (.int 0))), .ite (.op .gt (.op .add (.slot 2) (.ix (.slot 1) (.cst (.int 0)))) (.glob 0)) [.nev] [], .ret (.call 9 [(.op .add (.slot 2) (.ix (.slot 1) (.cst (.int 0)))), (.op .add (.ix (.slot 0) (.cst (.int 1))) (.b1 .tup (.lc [3, 4] (.tp [(.nm 3), (.nm 4)]) false [(.ix (.slot 1) (.cst (.int 1)))] none (.tup [(.op .add (.slot 3) (.slot 2)), (.op .add (.slot 4) (.slot 2))]))))])]
def N12 : List Str := ["one", "two", "n", "a", "b"]
/-- joined(one, two) -/
def b13 : List Sc := [.set (.nm 2) (.ix (.slot 0) (.cst (.int 0))), .set (.nm 3) (.call 12 [(.slot 0), (.slot 1)]), .ret (.call 9 [(.ix (.slot 3) (.cst (.int 0))), (.op .add (.ix (.slot 3) (.cst (.int 1))) (.b1 .tup (.lc2 [4, 5] [5] (.nm 4) true [(.slot 2)] none (.nm 5) true [(.slot 2), (.ix (.slot 3) (.cst (.int 0)))] none (.tup [(.slot 4), (.slot 5)]))))])]
def N13 : List Str := ["one", "two", "n", "both", "a", "b"]
/-- full(n) -/
def b124 : List Sc := [.ret (.tup [(.slot 0), (.b1 .tup (.lc2 [1, 2] [2] (.nm 1) true [(.slot 0)] none (.nm 2) true [(.op .add (.slot 1) (.cst (.int 1))), (.slot 0)] none (.tup [(.slot 1), (.slot 2)])))])]
def N124 : List Str := ["n", "a", "b"]
/-- empty(n) -/
def b107 : List Sc := [.ret (.tup [(.slot 0), (.tup [])])]
def N107 : List Str := ["n"]
/-- ring(n) -/
def b83 : List Sc := [.ret (.call 9 [(.slot 0), (.lc [1] (.nm 1) true [(.slot 0)] none (.tup [(.slot 1), (.op .mod (.op .add (.slot 1) (.cst (.int 1))) (.slot 0))]))])]
def N83 : List Str := ["n", "a"]
/-- two_sided(a, b) -/
def b109 : List Sc := [.ret (.call 13 [(.call 107 [(.slot 0)]), (.call 107 [(.slot 1)])])]
def N109 : List Str := ["a", "b"]
/-- lines(graph) -/
def b110 : List Sc := [.set (.nm 1) (.ix (.slot 0) (.cst (.int 1))), .ite (.op .gt (.b1 .len (.slot 1)) (.glob 0)) [.nev] [], .set (.nm 2) (.lst []), .for_ (.nm 3) true [(.b1 .len (.slot 1))] [.for_ (.nm 4) true [(.op .add (.slot 3) (.cst (.int 1))), (.b1 .len (.slot 1))] [.ite (.or (.op .inn (.ix (.ix (.slot 1) (.slot 3)) (.cst (.int 0))) (.ix (.slot 1) (.slot 4))) (.op .inn (.ix (.ix (.slot 1) (.slot 3)) (.cst (.int 1))) (.ix (.slot 1) (.slot 4)))) [.app 2 (.tup [(.slot 3), (.slot 4)])] []]], .ret (.call 9 [(.b1 .len (.slot 1)), (.slot 2)])]
def N110 : List Str := ["graph", "edges", "rows", "j", "k"]
/-- regular(graph) -/
def b208 : List Sc := [.set (.nm 1) (.call 8 [(.slot 0)]), .ret (.ite (.op .eq (.b1 .mn (.slot 1)) (.b1 .mx (.slot 1))) (.ix (.slot 1) (.cst (.int 0))) (.cst .none))]
def N208 : List Str := ["graph", "sizes"]
/-- firm_numbers(graph) -/
def b209 : List Sc := [.set (.nm 1) (.tup [(.lst []), (.lst [])]), .for_ (.nm 2) true [(.ix (.slot 0) (.cst (.int 0)))] [.for_ (.nm 3) true [(.slot 2)] [.set (.nm 4) (.b1 .len (.lc [5] (.nm 5) true [(.ix (.slot 0) (.cst (.int 0)))] (some (.and (.call 5 [(.slot 0), (.slot 2), (.slot 5)]) (.call 5 [(.slot 0), (.slot 3), (.slot 5)]))) (.slot 5))), .appAt 1 (.ite (.call 5 [(.slot 0), (.slot 2), (.slot 3)]) (.cst (.int 0)) (.cst (.int 1))) (.slot 4)]], .ret (.b1 .tup (.lc [6] (.nm 6) false [(.slot 1)] none (.ite (.op .eq (.b1 .lset (.slot 6)) (.cst (.int 1))) (.ix (.slot 6) (.cst (.int 0))) (.cst .none))))]
def N209 : List Str := ["graph", "found", "a", "b", "size", "c", "rows"]
/-- walks(graph, a, b, size) -/
def b199 : List Sc := [.set (.nm 4) (.lc [6] (.nm 6) true [(.ix (.slot 0) (.cst (.int 0)))] none (.b1 .int (.op .eq (.slot 6) (.slot 1)))), .for_ (.nm 5) true [(.slot 3)] [.set (.nm 4) (.lc [6] (.nm 6) true [(.ix (.slot 0) (.cst (.int 0)))] none (.b1 .sum (.lc [7] (.nm 7) false [(.call 6 [(.slot 0), (.slot 6)])] none (.ix (.slot 4) (.slot 7)))))], .ret (.ix (.slot 4) (.slot 2))]
def N199 : List Str := ["graph", "a", "b", "size", "found", "_", "v", "c"]
/-- _law_draws(cell, amount) -/
def b33 : List Sc := [.set (.nm 2) (.lst []), .set (.nm 3) (.slot 0), .for_ (.nm 4) true [(.slot 1)] [.ite (.and (.op .ge (.slot 0) (.op .pow (.cst (.int 10)) (.cst (.int 18)))) (.op .gt (.slot 3) (.cst (.int 0)))) [.app 2 (.op .mod (.b1 .int (.slot 3)) (.cst (.int 4096))), .set (.nm 3) (.op .fdv (.slot 3) (.cst (.int 4096)))] [.set (.nm 5) (.op .mod (.b1 .int (.op .add (.op .mul (.slot 0) (.cst (.int 48271))) (.op .mul (.op .add (.slot 4) (.cst (.int 1))) (.cst (.int 69621))))) (.cst (.int 2147483647))), .set (.nm 5) (.op .mod (.b1 .int (.op .add (.op .add (.op .mul (.slot 5) (.slot 5)) (.op .mul (.slot 5) (.cst (.int 16807)))) (.op .mul (.slot 4) (.cst (.int 7919))))) (.cst (.int 2147483629))), .set (.nm 5) (.op .mod (.b1 .int (.op .add (.op .add (.op .mul (.slot 5) (.slot 5)) (.slot 0)) (.op .mul (.cst (.int 13)) (.slot 4)))) (.cst (.int 2147483587))), .app 2 (.op .mod (.op .fdv (.slot 5) (.cst (.int 7))) (.cst (.int 4096)))]], .ret (.slot 2)]
def N33 : List Str := ["cell", "amount", "rows", "left", "k", "blended"]
/-- _law_unlike(items) -/
def b36 : List Sc := [.set (.nm 1) (.lst []), .for_ (.nm 2) false [(.b1 .srt (.slot 0))] [.ite (.op .nin (.slot 2) (.slot 1)) [.app 1 (.slot 2)] []], .ret (.b1 .tup (.slot 1))]
def N36 : List Str := ["items", "found", "item"]
/-- _law_pair(a, b) -/
def b37 : List Sc := [.ret (.tup [(.mn2 (.slot 0) (.slot 1)), (.mx2 (.slot 0) (.slot 1))])]
def N37 : List Str := ["a", "b"]
/-- _law_edge(g, a, b) -/
def b210 : List Sc := [.ret (.op .inn (.call 37 [(.slot 1), (.slot 2)]) (.ix (.slot 0) (.cst (.int 1))))]
def N210 : List Str := ["g", "a", "b"]
/-- _law_made(n, pairs) -/
def b38 : List Sc := [.ret (.tup [(.slot 0), (.call 36 [(.lc [2, 3] (.tp [(.nm 2), (.nm 3)]) false [(.slot 1)] none (.call 37 [(.slot 2), (.slot 3)]))])])]
def N38 : List Str := ["n", "pairs", "a", "b"]
/-- _law_other(g) -/
def b39 : List Sc := [.set (.nm 1) (.lst []), .for_ (.nm 2) true [(.ix (.slot 0) (.cst (.int 0)))] [.set (.nm 1) (.op .add (.slot 1) (.lc [3] (.nm 3) true [(.op .add (.slot 2) (.cst (.int 1))), (.ix (.slot 0) (.cst (.int 0)))] (some (.op .nin (.tup [(.slot 2), (.slot 3)]) (.ix (.slot 0) (.cst (.int 1))))) (.tup [(.slot 2), (.slot 3)])))], .ret (.tup [(.ix (.slot 0) (.cst (.int 0))), (.b1 .tup (.slot 1))])]
def N39 : List Str := ["g", "found", "a", "b"]
/-- _law_drawn(pool, low, most) -/
def b40 : List Sc := [.set (.nm 3) (.op .add (.slot 1) (.callP 35 [(.op .add (.op .sub (.slot 2) (.slot 1)) (.cst (.int 1)))])), .set (.nm 4) (.callP 35 [(.cst (.int 8))]), .set (.nm 5) (.op .add (.cst (.int 2)) (.callP 35 [(.cst (.int 7))])), .set (.nm 6) (.lst []), .for_ (.nm 7) true [(.slot 3)] [.for_ (.nm 8) true [(.slot 7)] [.ite (.op .lt (.callP 35 [(.cst (.int 10))]) (.slot 5)) [.app 6 (.tup [(.slot 7), (.slot 8)])] []]], .ite (.op .eq (.slot 4) (.cst (.int 0))) [.set (.nm 6) (.lc [7] (.nm 7) true [(.cst (.int 1)), (.slot 3)] none (.tup [(.slot 7), (.callP 35 [(.slot 7)])]))] [], .ite (.op .eq (.slot 4) (.cst (.int 1))) [.set (.nm 6) (.op .add (.lc [7] (.nm 7) true [(.slot 3)] (some (.op .gt (.slot 3) (.cst (.int 2)))) (.tup [(.slot 7), (.op .mod (.op .add (.slot 7) (.cst (.int 1))) (.slot 3))])) (.lc [13] (.nm 13) false [(.slot 6)] (some (.op .eq (.callP 35 [(.cst (.int 6))]) (.cst (.int 0)))) (.slot 13)))] [], .ite (.op .eq (.slot 4) (.cst (.int 2))) [.set (.nm 9) (.lc [7] (.nm 7) true [(.slot 3)] none (.callP 35 [(.cst (.int 9))])), .set (.nm 10) (.lc [14] (.nm 14) false [(.slot 9)] none (.op .add (.slot 14) (.callP 35 [(.cst (.int 5))]))), .set (.nm 6) (.lc [7, 8] (.tp [(.nm 7), (.nm 8)]) false [(.call 41 [(.slot 3)])] (some (.and (.op .le (.ix (.slot 9) (.slot 7)) (.ix (.slot 10) (.slot 8))) (.op .le (.ix (.slot 9) (.slot 8)) (.ix (.slot 10) (.slot 7))))) (.tup [(.slot 7), (.slot 8)]))] [], .ite (.op .eq (.slot 4) (.cst (.int 3))) [.set (.nm 11) (.lc [7] (.nm 7) true [(.slot 3)] none (.callP 35 [(.cst (.int 2))])), .set (.nm 6) (.lc [7, 8] (.tp [(.nm 7), (.nm 8)]) false [(.slot 6)] (some (.op .ne (.ix (.slot 11) (.slot 7)) (.ix (.slot 11) (.slot 8)))) (.tup [(.slot 7), (.slot 8)]))] [], .ite (.op .eq (.slot 4) (.cst (.int 4))) [.set (.nm 11) (.lc [7] (.nm 7) true [(.slot 3)] none (.callP 35 [(.cst (.int 3))])), .set (.nm 6) (.lc [7, 8] (.tp [(.nm 7), (.nm 8)]) false [(.call 41 [(.slot 3)])] (some (.op .gt (.ix (.slot 11) (.mx2 (.slot 7) (.slot 8))) (.cst (.int 0)))) (.tup [(.slot 7), (.slot 8)]))] [], .set (.nm 12) (.call 38 [(.slot 3), (.slot 6)]), .ite (.op .eq (.callP 35 [(.cst (.int 5))]) (.cst (.int 0))) [.set (.nm 12) (.call 39 [(.slot 12)])] [], .ret (.call 42 [(.slot 12), (.call 44 [(.callP 43 []), (.cst (.int 0)), (.slot 3)])])]
def N40 : List Str := ["pool", "low", "most", "n", "way", "share", "pairs", "a", "b", "starts", "stops", "marks", "g", "edge", "x"]
/-- _law_all_pairs(n) -/
def b41 : List Sc := [.set (.nm 1) (.lst []), .for_ (.nm 2) true [(.slot 0)] [.set (.nm 1) (.op .add (.slot 1) (.lc [3] (.nm 3) true [(.op .add (.slot 2) (.cst (.int 1))), (.slot 0)] none (.tup [(.slot 2), (.slot 3)])))], .ret (.slot 1)]
def N41 : List Str := ["n", "found", "a", "b"]
/-- _law_turned(g, names) -/
def b42 : List Sc := [.ret (.call 38 [(.ix (.slot 0) (.cst (.int 0))), (.lc [2, 3] (.tp [(.nm 2), (.nm 3)]) false [(.ix (.slot 0) (.cst (.int 1)))] none (.tup [(.ix (.slot 1) (.slot 2)), (.ix (.slot 1) (.slot 3))]))])]
def N42 : List Str := ["g", "names", "a", "b"]
/-- _law_draw_list(pool) -/
def b43 : List Sc := [.ret (.lc [1] (.nm 1) true [(.cst (.int 40))] none (.callP 35 [(.cst (.int 4096))]))]
def N43 : List Str := ["pool", "k"]
/-- _law_names(draws, at, n) -/
def b44 : List Sc := [.set (.nm 3) (.rl false [(.slot 2)]), .set (.nm 4) (.tup []), .for_ (.nm 5) true [(.slot 2)] [.popCat 4 3 (.op .mod (.b1 .int (.ix (.slot 0) (.op .mod (.op .add (.slot 1) (.slot 5)) (.b1 .len (.slot 0))))) (.b1 .len (.slot 3)))], .ret (.slot 4)]
def N44 : List Str := ["draws", "at", "n", "left", "found", "k"]
/-- subsets(items) -/
def b0 : List Sc := [.set (.nm 1) (.lst [(.tup [])]), .for_ (.nm 2) false [(.slot 0)] [.ext 1 (.lc [3] (.nm 3) false [(.slot 1)] none (.op .add (.slot 3) (.tup [(.slot 2)])))], .ret (.b1 .srt (.slot 1))]
def N0 : List Str := ["items", "found", "item", "row"]
/-- vertices(graph) -/
def b4 : List Sc := [.ret (.rl true [(.ix (.slot 0) (.cst (.int 0)))])]
def N4 : List Str := ["graph"]
/-- is_clique(graph, lot) -/
def b14 : List Sc := [.ret (.b1 .all (.lc2 [2, 3] [3] (.nm 2) false [(.slot 1)] none (.nm 3) false [(.slot 1)] (some (.op .lt (.slot 2) (.slot 3))) (.call 5 [(.slot 0), (.slot 2), (.slot 3)])))]
def N14 : List Str := ["graph", "lot", "a", "b"]
/-- is_loose(graph, lot) -/
def b211 : List Sc := [.ret (.not (.b1 .any (.lc2 [2, 3] [3] (.nm 2) false [(.slot 1)] none (.nm 3) false [(.slot 1)] (some (.op .lt (.slot 2) (.slot 3))) (.call 5 [(.slot 0), (.slot 2), (.slot 3)]))))]
def N211 : List Str := ["graph", "lot", "a", "b"]
/-- distances(graph, a) -/
def b15 : List Sc := [.set (.nm 2) (.op .mul (.lst [(.cst .none)]) (.ix (.slot 0) (.cst (.int 0)))), .setAt 2 (.slot 1) (.cst (.int 0)), .set (.nm 3) (.lst [(.slot 1)]), .whl (.op .gt (.b1 .len (.slot 3)) (.cst (.int 0))) [.popS 4 3 true, .for_ (.nm 5) false [(.call 6 [(.slot 0), (.slot 4)])] [.ite (.un .isN (.ix (.slot 2) (.slot 5))) [.setAt 2 (.slot 5) (.op .add (.ix (.slot 2) (.slot 4)) (.cst (.int 1))), .app 3 (.slot 5)] []]], .ret (.b1 .tup (.slot 2))]
def N15 : List Str := ["graph", "a", "found", "waiting", "here", "b"]
/-- pieces(graph) -/
def b16 : List Sc := [.set (.nm 1) (.lst []), .for_ (.nm 2) true [(.ix (.slot 0) (.cst (.int 0)))] [.set (.nm 3) (.call 15 [(.slot 0), (.slot 2)]), .set (.nm 4) (.b1 .tup (.lc [5] (.nm 5) true [(.ix (.slot 0) (.cst (.int 0)))] (some (.un .notN (.ix (.slot 3) (.slot 5)))) (.slot 5))), .ite (.op .nin (.slot 4) (.slot 1)) [.app 1 (.slot 4)] []], .ret (.slot 1)]
def N16 : List Str := ["graph", "found", "a", "far", "lot", "b"]
/-- hangs(graph) -/
def b17 : List Sc := [.ret (.op .eq (.b1 .len (.call 16 [(.slot 0)])) (.cst (.int 1)))]
def N17 : List Str := ["graph"]
/-- closed_neighbours(graph, a) -/
def b212 : List Sc := [.ret (.b1 .tup (.lc [2] (.nm 2) true [(.ix (.slot 0) (.cst (.int 0)))] (some (.or (.op .eq (.slot 1) (.slot 2)) (.call 5 [(.slot 0), (.slot 1), (.slot 2)]))) (.slot 2)))]
def N212 : List Str := ["graph", "a", "b"]
/-- greatest_clique(graph) -/
def b21 : List Sc := [.set (.nm 1) (.lc [2] (.nm 2) false [(.call 0 [(.call 4 [(.slot 0)])])] (some (.call 14 [(.slot 0), (.slot 2)])) (.slot 2)), .ret (.key 0 false [(.slot 1)] [2] (.tup [(.un .neg (.b1 .len (.slot 2))), (.slot 2)]))]
def N21 : List Str := ["graph", "rows", "lot"]
/-- greatest_loose(graph) -/
def b22 : List Sc := [.ret (.call 21 [(.call 10 [(.slot 0)])])]
def N22 : List Str := ["graph"]
/-- watches(graph, lot) -/
def b213 : List Sc := [.ret (.b1 .all (.lc [3] (.nm 3) true [(.ix (.slot 0) (.cst (.int 0)))] none (.b1 .any (.lc [2] (.nm 2) false [(.call 212 [(.slot 0), (.slot 3)])] none (.op .inn (.slot 2) (.slot 1))))))]
def N213 : List Str := ["graph", "lot", "b", "a"]
/-- least_watch(graph) -/
def b214 : List Sc := [.ret (.key 0 false [(.lc [1] (.nm 1) false [(.call 0 [(.call 4 [(.slot 0)])])] (some (.call 213 [(.slot 0), (.slot 1)])) (.slot 1))] [1] (.tup [(.b1 .len (.slot 1)), (.slot 1)]))]
def N214 : List Str := ["graph", "lot"]
/-- closed_lots(graph) -/
def b215 : List Sc := [.set (.nm 1) (.lc [2] (.nm 2) false [(.call 0 [(.call 4 [(.slot 0)])])] (some (.call 211 [(.slot 0), (.slot 2)])) (.slot 2)), .ret (.lc [2] (.nm 2) false [(.slot 1)] (some (.call 213 [(.slot 0), (.slot 2)])) (.slot 2))]
def N215 : List Str := ["graph", "rows", "lot"]
/-- widest(graph) -/
def b166 : List Sc := [.ret (.b1 .mx (.lc [1] (.nm 1) true [(.ix (.slot 0) (.cst (.int 0)))] none (.b1 .mx (.call 15 [(.slot 0), (.slot 1)]))))]
def N166 : List Str := ["graph", "a"]
/-- _law_lots(n) -/
def b185 : List Sc := [.set (.nm 1) (.lst []), .for_ (.nm 2) true [(.op .shl (.cst (.int 1)) (.slot 0))] [.app 1 (.b1 .tup (.lc [3] (.nm 3) true [(.slot 0)] (some (.op .eq (.op .band (.op .shr (.slot 2) (.slot 3)) (.cst (.int 1))) (.cst (.int 1)))) (.slot 3)))], .ret (.b1 .srt (.slot 1))]
def N185 : List Str := ["n", "found", "number", "x"]
/-- colours_from(graph, begun, most) -/
def b18 : List Sc := [.set (.nm 3) (.b1 .len (.slot 1)), .ite (.op .eq (.slot 3) (.ix (.slot 0) (.cst (.int 0)))) [.ret (.slot 1)] [], .for_ (.nm 4) true [(.mn2 (.slot 2) (.op .add (.mxd (.slot 1) (.un .neg (.cst (.int 1)))) (.cst (.int 2))))] [.ite (.not (.b1 .any (.lc [6] (.nm 6) true [(.slot 3)] none (.and (.call 5 [(.slot 0), (.slot 3), (.slot 6)]) (.op .eq (.ix (.slot 1) (.slot 6)) (.slot 4)))))) [.set (.nm 5) (.call 18 [(.slot 0), (.op .add (.slot 1) (.tup [(.slot 4)])), (.slot 2)]), .ite (.un .notN (.slot 5)) [.ret (.slot 5)] []] []], .ret (.cst .none)]
def N18 : List Str := ["graph", "begun", "most", "at", "colour", "found", "k"]
/-- colouring(graph, most) -/
def b19 : List Sc := [.ret (.call 18 [(.slot 0), (.tup []), (.slot 1)])]
def N19 : List Str := ["graph", "most"]
/-- colour_number(graph) -/
def b20 : List Sc := [.set (.nm 1) (.cst (.int 1)), .whl (.un .isN (.call 19 [(.slot 0), (.slot 1)])) [.aug 1 .add (.cst (.int 1))], .ret (.slot 1)]
def N20 : List Str := ["graph", "most"]
/-- degeneracy(graph) -/
def b85 : List Sc := [.set (.nm 1) (.rl false [(.ix (.slot 0) (.cst (.int 0)))]), .set (.nm 2) (.cst (.int 0)), .whl (.op .gt (.b1 .len (.slot 1)) (.cst (.int 0))) [.set (.nm 3) (.lc [5] (.nm 5) false [(.slot 1)] none (.tup [(.b1 .len (.lc [6] (.nm 6) false [(.call 6 [(.slot 0), (.slot 5)])] (some (.op .inn (.slot 6) (.slot 1))) (.slot 6))), (.slot 5)])), .set (.tp [(.nm 4), (.nm 5)]) (.b1 .mn (.slot 3)), .set (.nm 2) (.mx2 (.slot 2) (.slot 4)), .rem 1 (.slot 5)], .ret (.slot 2)]
def N85 : List Str := ["graph", "left", "best", "sizes", "least", "a", "b"]
/-- clique_parts(graph) -/
def b105 : List Sc := [.set (.nm 1) (.cst (.int 1)), .whl (.un .isN (.call 19 [(.tup [(.ix (.slot 0) (.cst (.int 0))), (.call 106 [(.slot 0)])]), (.slot 1)])) [.aug 1 .add (.cst (.int 1))], .ret (.slot 1)]
def N105 : List Str := ["graph", "most"]
/-- other_edges(graph) -/
def b106 : List Sc := [.set (.nm 1) (.ix (.slot 0) (.cst (.int 0))), .ret (.b1 .tup (.lc2 [2, 3] [3] (.nm 2) true [(.slot 1)] none (.nm 3) true [(.op .add (.slot 2) (.cst (.int 1))), (.slot 1)] (some (.not (.call 5 [(.slot 0), (.slot 2), (.slot 3)]))) (.tup [(.slot 2), (.slot 3)])))]
def N106 : List Str := ["graph", "n", "a", "b"]
/-- longest(n, arrows) -/
def b216 : List Sc := [.set (.nm 2) (.op .mul (.lst [(.cst (.int 0))]) (.slot 0)), .for_ (.nm 3) true [(.slot 0)] [.for_ (.tp [(.nm 4), (.nm 5)]) false [(.slot 1)] [.setAt 2 (.slot 5) (.mx2 (.ix (.slot 2) (.slot 5)) (.op .add (.ix (.slot 2) (.slot 4)) (.cst (.int 1))))]], .ret (.ite (.op .ge (.b1 .mx (.slot 2)) (.slot 0)) (.cst .none) (.b1 .mx (.slot 2)))]
def N216 : List Str := ["n", "arrows", "found", "_", "a", "b"]
/-- arrows_by(graph, colours) -/
def b217 : List Sc := [.ret (.b1 .tup (.b1 .srt (.lc [2, 3] (.tp [(.nm 2), (.nm 3)]) false [(.ix (.slot 0) (.cst (.int 1)))] none (.ite (.op .lt (.ix (.slot 1) (.slot 2)) (.ix (.slot 1) (.slot 3))) (.tup [(.slot 2), (.slot 3)]) (.tup [(.slot 3), (.slot 2)])))))]
def N217 : List Str := ["graph", "colours", "a", "b"]
end W3
namespace W3
open PySem
def pr (a b : Nat) : Nat × Nat := if a < b then (a, b) else (b, a)
def adj (g : Gr) (a b : Nat) : Bool := decide (a ≠ b) && decide (pr a b ∈ g.es)
def nbs (g : Gr) (a : Nat) : List Nat := (List.range g.n).filter fun b => adj g a b
def deg (g : Gr) (a : Nat) : Nat := (nbs g a).length
def sp3 : List D → (D → Prop) → Prop := fun ds Q => ∃ a b, ds = [nD a, nD b] ∧ Q (prD (pr a b))
def sp5 : List D → (D → Prop) → Prop := fun ds Q => ∃ g a b, ds = [grD g, nD a, nD b] ∧ Q (.bool (adj g a b))
def sp6 : List D → (D → Prop) → Prop := fun ds Q => ∃ g a, ds = [grD g, nD a] ∧ g.n ≤ 1000 ∧ Q (.tuple ((nbs g a).map nD))
def sp7 : List D → (D → Prop) → Prop := fun ds Q => ∃ g a, ds = [grD g, nD a] ∧ g.n ≤ 1000 ∧ Q (nD (deg g a))
def sp8 : List D → (D → Prop) → Prop := fun ds Q => ∃ g, ds = [grD g] ∧ g.n ≤ 1000 ∧ Q (.tuple ((List.range g.n).map fun a => nD (deg g a)))
def sp37 : List D → (D → Prop) → Prop := fun ds Q => ∃ a b, ds = [nD a, nD b] ∧ Q (prD (pr a b))
def sp107 : List D → (D → Prop) → Prop := fun ds Q => ∃ n, ds = [nD n] ∧ Q (grD ⟨n, []⟩)
def sp210 : List D → (D → Prop) → Prop := fun ds Q => ∃ g a b, ds = [grD g, nD a, nD b] ∧ Q (.bool (decide (pr a b ∈ g.es)))
section
variable {Φ : Fam}
theorem ix0 (g : Gr) {Q : D → Prop} (q : Q (nD g.n)) : ixK (grD g) (.int 0) Q := ⟨⟨by simp, by simp⟩, _, rfl, q⟩
theorem ix1 (g : Gr) {Q : D → Prop} (q : Q (.tuple (g.es.map prD))) : ixK (grD g) (.int 1) Q := ⟨⟨by simp, by simp⟩, _, rfl, q⟩
theorem rng1 (n : Nat) (h : n ≤ 1000000) {Q : List D → Prop} (q : Q ((List.range n).map nD)) : rngK [nD n] Q := ⟨⟨by omega, by omega⟩, by
  have : (n : Int).toNat = n := by omega
  rw [this]; exact q⟩
theorem lt_nD (a b : Nat) : decide ((a : Int) < (b : Int)) = decide (a < b) := by
  by_cases h : a < b
  · simp [h, show (a : Int) < b by omega]
  · simp [h, show ¬ (a : Int) < b by omega]
theorem w3 {ds : List D} {Q : D → Prop} (h : sp3 ds Q) : wpB Φ [] b3 (sl0 N3 ds) 0 { nx := fun _ _ => Q .none, rt := fun d _ => Q d } := by
  obtain ⟨a, b, rfl, q⟩ := h
  simp only [b3, N3, nD, wpB, wpS, wpE, wpL, wpO, wpOT, wpT, fin, getS, optK, intK.eq_1, boolK.eq_1, truK.eq_1, truK.eq_2, truK.eq_3, truK.eq_4, truK.eq_5, seqK.eq_1, seqK.eq_2, op2, op1, b1K.eq_1, b1K.eq_2, b1K.eq_3, b1K.eq_4, b1K.eq_5, b1K.eq_6, b1K.eq_7, b1K.eq_8, b1K.eq_9, b1K.eq_10, b1K.eq_11, b1K.eq_12, b1K.eq_13, b1K.eq_14, b1K.eq_15, itK, tgFlat, asOk, wpTg.eq_1, wpTg.eq_2, wpTgs.eq_1, wpTgs.eq_2, wipeS, List.set, sl0, List.map, List.replicate, List.length_cons, List.length_nil, Nat.sub_self, Nat.reduceSub, Nat.reduceAdd, List.cons_append, List.nil_append, if_true]
  rw [lt_nD]
  unfold pr at q
  by_cases h : a < b
  · simp only [h, if_pos, decide_true] at q ⊢
    exact ⟨rfl, q⟩
  · simp only [h, if_false, decide_false, Bool.false_eq_true] at q ⊢
    exact ⟨rfl, q⟩
theorem w37 {ds : List D} {Q : D → Prop} (h : sp37 ds Q) : wpB Φ [] b37 (sl0 N37 ds) 0 { nx := fun _ _ => Q .none, rt := fun d _ => Q d } := by
  obtain ⟨a, b, rfl, q⟩ := h
  simp only [b37, N37, nD, wpB, wpS, wpE, wpL, wpO, wpOT, wpT, fin, getS, optK, intK.eq_1, boolK.eq_1, truK.eq_1, truK.eq_2, truK.eq_3, truK.eq_4, truK.eq_5, seqK.eq_1, seqK.eq_2, op2, op1, b1K.eq_1, b1K.eq_2, b1K.eq_3, b1K.eq_4, b1K.eq_5, b1K.eq_6, b1K.eq_7, b1K.eq_8, b1K.eq_9, b1K.eq_10, b1K.eq_11, b1K.eq_12, b1K.eq_13, b1K.eq_14, b1K.eq_15, itK, tgFlat, asOk, wpTg.eq_1, wpTg.eq_2, wpTgs.eq_1, wpTgs.eq_2, wipeS, List.set, sl0, List.map, List.replicate, List.length_cons, List.length_nil, Nat.sub_self, Nat.reduceSub, Nat.reduceAdd, List.cons_append, List.nil_append, if_true]
  refine ⟨rfl, ?_⟩
  unfold pr at q
  by_cases h : a < b
  · rw [if_pos h] at q
    rw [if_neg (by omega), if_pos (by omega)]
    exact q
  · rw [if_neg h] at q
    by_cases h2 : b < a
    · rw [if_pos (by omega), if_neg (by omega)]
      exact q
    · have : a = b := by omega
      subst this
      simp only [Int.lt_irrefl, if_false, gt_iff_lt]
      exact q
theorem w5 (h3 : Has Φ 3 sp3) {ds : List D} {Q : D → Prop} (h : sp5 ds Q) : wpB Φ [] b5 (sl0 N5 ds) 0 { nx := fun _ _ => Q .none, rt := fun d _ => Q d } := by
  obtain ⟨g, a, b, rfl, q⟩ := h
  simp only [b5, N5, wpB, wpS, wpE, wpL, wpO, wpOT, wpT, fin, getS, optK, intK.eq_1, boolK.eq_1, truK.eq_1, truK.eq_2, truK.eq_3, truK.eq_4, truK.eq_5, seqK.eq_1, seqK.eq_2, op2, op1, b1K.eq_1, b1K.eq_2, b1K.eq_3, b1K.eq_4, b1K.eq_5, b1K.eq_6, b1K.eq_7, b1K.eq_8, b1K.eq_9, b1K.eq_10, b1K.eq_11, b1K.eq_12, b1K.eq_13, b1K.eq_14, b1K.eq_15, itK, tgFlat, asOk, wpTg.eq_1, wpTg.eq_2, wpTgs.eq_1, wpTgs.eq_2, wipeS, List.set, sl0, List.map, List.replicate, List.length_cons, List.length_nil, Nat.sub_self, Nat.reduceSub, Nat.reduceAdd, List.cons_append, List.nil_append, if_true]
  refine ⟨shp_nD a, ?_⟩
  rw [eqv_nD]
  unfold adj at q
  by_cases hab : a = b
  · subst hab
    simp only [decide_true, Bool.not_true, Bool.false_eq_true, if_false]
    exact ⟨rfl, by simpa using q⟩
  · simp only [hab, decide_false, Bool.not_false, if_true]
    refine h3 _ _ ⟨a, b, rfl, ?_⟩
    refine ix1 g ⟨shp_prD _, ?_⟩
    simp only [seqK.eq_2]
    rw [inD_map prD eqv_prD]
    exact ⟨rfl, by simpa [hab] using q⟩
theorem w210 (h37 : Has Φ 37 sp37) {ds : List D} {Q : D → Prop} (h : sp210 ds Q) : wpB Φ [] b210 (sl0 N210 ds) 0 { nx := fun _ _ => Q .none, rt := fun d _ => Q d } := by
  obtain ⟨g, a, b, rfl, q⟩ := h
  simp only [b210, N210, wpB, wpS, wpE, wpL, wpO, wpOT, wpT, fin, getS, optK, intK.eq_1, boolK.eq_1, truK.eq_1, truK.eq_2, truK.eq_3, truK.eq_4, truK.eq_5, seqK.eq_1, seqK.eq_2, op2, op1, b1K.eq_1, b1K.eq_2, b1K.eq_3, b1K.eq_4, b1K.eq_5, b1K.eq_6, b1K.eq_7, b1K.eq_8, b1K.eq_9, b1K.eq_10, b1K.eq_11, b1K.eq_12, b1K.eq_13, b1K.eq_14, b1K.eq_15, itK, tgFlat, asOk, wpTg.eq_1, wpTg.eq_2, wpTgs.eq_1, wpTgs.eq_2, wipeS, List.set, sl0, List.map, List.replicate, List.length_cons, List.length_nil, Nat.sub_self, Nat.reduceSub, Nat.reduceAdd, List.cons_append, List.nil_append, if_true]
  refine h37 _ _ ⟨a, b, rfl, ?_⟩
  refine ix1 g ⟨shp_prD _, ?_⟩
  simp only [seqK.eq_2]
  rw [inD_map prD eqv_prD]
  exact ⟨rfl, q⟩
theorem w6 (h5 : Has Φ 5 sp5) {ds : List D} {Q : D → Prop} (h : sp6 ds Q) : wpB Φ [] b6 (sl0 N6 ds) 0 { nx := fun _ _ => Q .none, rt := fun d _ => Q d } := by
  obtain ⟨g, a, rfl, hn, q⟩ := h
  simp only [b6, N6, wpB, wpS, wpE, wpL, wpO, wpOT, wpT, fin, getS, optK, intK.eq_1, boolK.eq_1, truK.eq_1, truK.eq_2, truK.eq_3, truK.eq_4, truK.eq_5, seqK.eq_1, seqK.eq_2, op2, op1, b1K.eq_1, b1K.eq_2, b1K.eq_3, b1K.eq_4, b1K.eq_5, b1K.eq_6, b1K.eq_7, b1K.eq_8, b1K.eq_9, b1K.eq_10, b1K.eq_11, b1K.eq_12, b1K.eq_13, b1K.eq_14, b1K.eq_15, itK, tgFlat, asOk, wpTg.eq_1, wpTg.eq_2, wpTgs.eq_1, wpTgs.eq_2, wipeS, List.set, sl0, List.map, List.replicate, List.length_cons, List.length_nil, Nat.sub_self, Nat.reduceSub, Nat.reduceAdd, List.cons_append, List.nil_append, if_true]
  refine ix0 g (rng1 _ (by omega) ?_)
  refine lcW_map nD (fun b => if adj g a b = true then some (nD b) else none) _ (fun b hb K' k => ?_) ?_
  · refine h5 _ _ ⟨g, a, b, rfl, ?_⟩
    cases hx : adj g a b with
    | true => simp only [hx, if_true] at k ⊢; exact k
    | false => simp only [hx, Bool.false_eq_true, if_false] at k ⊢; exact k
  · have e : (List.range g.n).filterMap (fun b => if adj g a b = true then some (nD b) else none) = (nbs g a).map nD := by
      unfold nbs
      induction (List.range g.n) with
      | nil => rfl
      | cons x l ih =>
        rw [List.filterMap_cons, List.filter_cons, ih]
        cases hx : adj g a x <;> simp
    rw [List.nil_append, e]
    refine ⟨?_, q⟩
    show (flats ((nbs g a).map nD) || _ || _) = true
    rw [flats_map _ flat_nD]; rfl
theorem w7 (h6 : Has Φ 6 sp6) {ds : List D} {Q : D → Prop} (h : sp7 ds Q) : wpB Φ [] b7 (sl0 N7 ds) 0 { nx := fun _ _ => Q .none, rt := fun d _ => Q d } := by
  obtain ⟨g, a, rfl, hn, q⟩ := h
  simp only [b7, N7, wpB, wpS, wpE, wpL, wpO, wpOT, wpT, fin, getS, optK, intK.eq_1, boolK.eq_1, truK.eq_1, truK.eq_2, truK.eq_3, truK.eq_4, truK.eq_5, seqK.eq_1, seqK.eq_2, op2, op1, b1K.eq_1, b1K.eq_2, b1K.eq_3, b1K.eq_4, b1K.eq_5, b1K.eq_6, b1K.eq_7, b1K.eq_8, b1K.eq_9, b1K.eq_10, b1K.eq_11, b1K.eq_12, b1K.eq_13, b1K.eq_14, b1K.eq_15, itK, tgFlat, asOk, wpTg.eq_1, wpTg.eq_2, wpTgs.eq_1, wpTgs.eq_2, wipeS, List.set, sl0, List.map, List.replicate, List.length_cons, List.length_nil, Nat.sub_self, Nat.reduceSub, Nat.reduceAdd, List.cons_append, List.nil_append, if_true]
  refine h6 _ _ ⟨g, a, rfl, hn, rfl, ?_⟩
  rw [List.length_map]
  exact q
theorem w8 (h7 : Has Φ 7 sp7) {ds : List D} {Q : D → Prop} (h : sp8 ds Q) : wpB Φ [] b8 (sl0 N8 ds) 0 { nx := fun _ _ => Q .none, rt := fun d _ => Q d } := by
  obtain ⟨g, rfl, hn, q⟩ := h
  simp only [b8, N8, wpB, wpS, wpE, wpL, wpO, wpOT, wpT, fin, getS, optK, intK.eq_1, boolK.eq_1, truK.eq_1, truK.eq_2, truK.eq_3, truK.eq_4, truK.eq_5, seqK.eq_1, seqK.eq_2, op2, op1, b1K.eq_1, b1K.eq_2, b1K.eq_3, b1K.eq_4, b1K.eq_5, b1K.eq_6, b1K.eq_7, b1K.eq_8, b1K.eq_9, b1K.eq_10, b1K.eq_11, b1K.eq_12, b1K.eq_13, b1K.eq_14, b1K.eq_15, itK, tgFlat, asOk, wpTg.eq_1, wpTg.eq_2, wpTgs.eq_1, wpTgs.eq_2, wipeS, List.set, sl0, List.map, List.replicate, List.length_cons, List.length_nil, Nat.sub_self, Nat.reduceSub, Nat.reduceAdd, List.cons_append, List.nil_append, if_true]
  refine ix0 g (rng1 _ (by omega) ?_)
  refine lcW_map nD (fun a => some (nD (deg g a))) _ (fun a ha K' k => ?_) ?_
  · exact h7 _ _ ⟨g, a, rfl, hn, k⟩
  · have e : (List.range g.n).filterMap (fun a => some (nD (deg g a))) = (List.range g.n).map fun a => nD (deg g a) := by
      induction (List.range g.n) with
      | nil => rfl
      | cons x l ih => rw [List.filterMap_cons, ih]; rfl
    rw [List.nil_append, e]
    refine ⟨?_, q⟩
    show (flats ((List.range g.n).map fun a => nD (deg g a)) || _ || _) = true
    rw [flats_map _ fun a => flat_nD _]; rfl
theorem w107 {ds : List D} {Q : D → Prop} (h : sp107 ds Q) : wpB Φ [] b107 (sl0 N107 ds) 0 { nx := fun _ _ => Q .none, rt := fun d _ => Q d } := by
  obtain ⟨n, rfl, q⟩ := h
  simp only [b107, N107, wpB, wpS, wpE, wpL, wpO, wpOT, wpT, fin, getS, optK, intK.eq_1, boolK.eq_1, truK.eq_1, truK.eq_2, truK.eq_3, truK.eq_4, truK.eq_5, seqK.eq_1, seqK.eq_2, op2, op1, b1K.eq_1, b1K.eq_2, b1K.eq_3, b1K.eq_4, b1K.eq_5, b1K.eq_6, b1K.eq_7, b1K.eq_8, b1K.eq_9, b1K.eq_10, b1K.eq_11, b1K.eq_12, b1K.eq_13, b1K.eq_14, b1K.eq_15, itK, tgFlat, asOk, wpTg.eq_1, wpTg.eq_2, wpTgs.eq_1, wpTgs.eq_2, wipeS, List.set, sl0, List.map, List.replicate, List.length_cons, List.length_nil, Nat.sub_self, Nat.reduceSub, Nat.reduceAdd, List.cons_append, List.nil_append, if_true]
  exact ⟨rfl, q⟩
end
end W3
namespace W3
open PySem
open PySem.W (alike dataLt AllAlike Sortable dataLe AlikeAll minD maxD)
/-- an order of typed data that Python's sorting follows -/
structure OrdD {α : Type} (e : α → D) (le : α → α → Bool) : Prop where
  eqv : ∀ x y, PyData.eqv (e x) (e y) = true ↔ x = y
  lee : ∀ x y, dataLe false (fun d : D => d) (e x) (e y) = le x y
  trans : ∀ a b c, le a b = true → le b c = true → le a c = true
  total : ∀ a b, (le a b || le b a) = true
  anti : ∀ a b, le a b = true → le b a = true → a = b
  alike : ∀ a b, alike (e a) (e b) = true
  srt : (∀ a, ∃ xs, e a = .tuple xs) ∨ ∀ a, e a ≠ .none ∧ ∀ xs, e a ≠ .tuple xs
  flat : ∀ a, flat (e a) = true
  shp : ∀ a, shp (e a)
def ltO {α : Type} (le : α → α → Bool) (x y : α) : Prop := le x y = true ∧ x ≠ y
def nle (a b : Nat) : Bool := decide (a ≤ b)
def ple (p q : Nat × Nat) : Bool := decide (p.1 < q.1 ∨ p.1 = q.1 ∧ p.2 ≤ q.2)
theorem ord_nD : OrdD nD nle where
  eqv := fun x y => by rw [eqv_nD]; exact decide_eq_true_iff
  lee := fun x y => by
    have := congrFun (congrFun (PySem.W.dataLe_int (β := Nat) fun b => (b : Int)) x) y
    show dataLe false (fun b : Nat => PyData.int (b : Int)) x y = _
    rw [this]
    unfold nle
    by_cases h : x ≤ y
    · simp [h, show (x : Int) ≤ y by omega]
    · simp [h, show ¬ (x : Int) ≤ y by omega]
  trans := fun a b c h1 h2 => by simp [nle] at *; omega
  total := fun a b => by simp [nle]; omega
  anti := fun a b h1 h2 => by simp [nle] at *; omega
  alike := fun a b => rfl
  srt := .inr fun a => ⟨(fun h => by cases h), (fun xs h => by cases h)⟩
  flat := flat_nD
  shp := shp_nD
theorem ord_prD : OrdD prD ple where
  eqv := fun x y => by rw [eqv_prD]; exact decide_eq_true_iff
  lee := fun x y => by
    have := congrFun (congrFun (PySem.W.dataLe_ii (β := Nat × Nat) (fun b => (b.1 : Int)) (fun b => (b.2 : Int))) x) y
    show dataLe false (fun b : Nat × Nat => PyData.tuple [.int (b.1 : Int), .int (b.2 : Int)]) x y = _
    rw [this]
    unfold ple
    by_cases h : x.1 < y.1 ∨ x.1 = y.1 ∧ x.2 ≤ y.2
    · rw [decide_eq_true h, decide_eq_true (show (x.1 : Int) < y.1 ∨ (x.1 : Int) = y.1 ∧ (x.2 : Int) ≤ y.2 by omega)]
    · rw [decide_eq_false h, decide_eq_false (show ¬ ((x.1 : Int) < y.1 ∨ (x.1 : Int) = y.1 ∧ (x.2 : Int) ≤ y.2) by omega)]
  trans := fun a b c h1 h2 => by simp [ple] at *; omega
  total := fun a b => by simp [ple]; omega
  anti := fun a b h1 h2 => by
    simp [ple] at *
    exact Prod.ext (by omega) (by omega)
  alike := fun a b => rfl
  srt := .inl fun a => ⟨_, rfl⟩
  flat := flat_prD
  shp := shp_prD
section
variable {α : Type} {e : α → D} {le : α → α → Bool} (O : OrdD e le)
include O
theorem sortD_map (l : List α) : sortD false (l.map e) = (l.mergeSort le).map e := by
  unfold sortD
  rw [List.map_mergeSort (f := e) (l := l) (r := le) (s := dataLe false fun d => d) fun a _ b _ => (O.lee a b).symm]
theorem srtOk_map (l : List α) : srtOk (l.map e) := by
  refine ⟨⟨fun d hd d' hd' => ?_, ?_⟩, fun d hd => ?_⟩
  · obtain ⟨x, _, rfl⟩ := List.mem_map.mp hd
    obtain ⟨y, _, rfl⟩ := List.mem_map.mp hd'
    exact O.alike x y
  · rcases O.srt with h | h
    · exact .inr fun d hd => by
        obtain ⟨x, _, rfl⟩ := List.mem_map.mp hd
        exact h x
    · exact .inl (.inr fun d hd => by
        obtain ⟨x, _, rfl⟩ := List.mem_map.mp hd
        exact h x)
  · obtain ⟨x, _, rfl⟩ := List.mem_map.mp hd
    exact O.shp x
theorem sorted_of (l : List α) : (l.mergeSort le).Pairwise fun a b => le a b = true := List.pairwise_mergeSort O.trans O.total l
theorem w36_gen {Φ : Fam} (xs : List α) (x0 : D) (hx0 : x0 = .list (xs.map e) ∨ x0 = .tuple (xs.map e)) (hl : xs.length ≤ 1000000) {Q : D → Prop} (q : ∀ out : List α, out.Pairwise (ltO le) → (∀ x, x ∈ out ↔ x ∈ xs) → Q (.tuple (out.map e))) :
    wpB Φ [1] b36 (sl0 N36 [x0]) 0 { nx := fun _ _ => Q .none, rt := fun d _ => Q d } := by
  simp only [b36, N36, wpB, wpS, wpE, wpL, wpO, wpOT, wpT, fin, getS, optK, intK.eq_1, boolK.eq_1, truK.eq_1, truK.eq_2, truK.eq_3, truK.eq_4, truK.eq_5, seqK.eq_1, seqK.eq_2, op2, op1, b1K.eq_1, b1K.eq_2, b1K.eq_3, b1K.eq_4, b1K.eq_5, b1K.eq_6, b1K.eq_7, b1K.eq_8, b1K.eq_9, b1K.eq_10, b1K.eq_11, b1K.eq_12, b1K.eq_13, b1K.eq_14, b1K.eq_15, itK, tgFlat, asOk, wpTg.eq_1, wpTg.eq_2, wpTgs.eq_1, wpTgs.eq_2, wipeS, List.set, sl0, List.map, List.replicate, List.length_cons, List.length_nil, Nat.sub_self, Nat.reduceSub, Nat.reduceAdd, List.cons_append, List.nil_append, if_true]
  have hsq : ∀ K : List D → Prop, K (xs.map e) → seqK x0 K := fun K k => by
    rcases hx0 with rfl | rfl <;> exact k
  refine ⟨rfl, hsq _ ⟨srtOk_map O xs, ?_⟩⟩
  rw [sortD_map O]
  have fl := flats_map e O.flat (xs.mergeSort le)
  refine ⟨?_, ?_⟩
  · show (flats ((xs.mergeSort le).map e) && flats ((xs.mergeSort le).map e)) = true
    rw [fl]; rfl
  have hlen : (xs.mergeSort le).length = xs.length := List.length_mergeSort xs
  have hmem : ∀ x, x ∈ xs.mergeSort le ↔ x ∈ xs := fun x => (List.mergeSort_perm xs le).mem_iff
  have hs := sorted_of O xs
  generalize xs.mergeSort le = s at hlen hmem hs ⊢
  refine forW_map e (fun i Γ g => ∃ (out : List α) (o : Option D), Γ = [some x0, some (.list (out.map e)), o] ∧ g = 0 ∧ out.Pairwise (ltO le) ∧ (∀ x, x ∈ out ↔ x ∈ s.take i) ∧ out.length ≤ i)
    s 0 ⟨[], none, rfl, rfl, .nil, by simp, Nat.le_refl _⟩ ?_ ?_
  · rintro j x Γ g nx hx ⟨out, o, rfl, rfl, h1, h2, h3⟩ hk
    rw [Nat.zero_add] at h2 h3 hk
    have hj : j < s.length := (List.getElem?_eq_some_iff.mp hx).1
    have htk : s.take (j + 1) = s.take j ++ [x] := by
      rw [List.take_succ, hx]; rfl
    simp only [wpB, wpS, wpE, wpL, wpO, wpOT, wpT, fin, getS, optK, intK.eq_1, boolK.eq_1, truK.eq_1, truK.eq_2, truK.eq_3, truK.eq_4, truK.eq_5, seqK.eq_1, seqK.eq_2, op2, op1, b1K.eq_1, b1K.eq_2, b1K.eq_3, b1K.eq_4, b1K.eq_5, b1K.eq_6, b1K.eq_7, b1K.eq_8, b1K.eq_9, b1K.eq_10, b1K.eq_11, b1K.eq_12, b1K.eq_13, b1K.eq_14, b1K.eq_15, itK, tgFlat, asOk, wpTg.eq_1, wpTg.eq_2, wpTgs.eq_1, wpTgs.eq_2, wipeS, List.set, sl0, List.map, List.replicate, List.length_cons, List.length_nil, Nat.sub_self, Nat.reduceSub, Nat.reduceAdd, List.cons_append, List.nil_append, if_true]
    refine ⟨O.shp x, ?_⟩
    by_cases hin : x ∈ out
    · have : inD (e x) (out.map e) = true := (inD_iff e O.eqv x out).mpr hin
      rw [this]
      simp only [Bool.not_true, Bool.false_eq_true, if_false]
      refine hk _ _ ⟨out, _, rfl, rfl, h1, fun y => ?_, by omega⟩
      rw [htk, List.mem_append, List.mem_singleton, ← h2]
      exact ⟨.inl, fun h => h.elim id fun h => h ▸ hin⟩
    · have : inD (e x) (out.map e) = false := by
        have := fun z => hin ((inD_iff e O.eqv x out).mp z)
        simpa using this
      rw [this]
      simp only [Bool.not_false, if_true, lstK, wpB, wpS, wpE, wpL, wpO, wpOT, wpT, fin, getS, optK, intK.eq_1, boolK.eq_1, truK.eq_1, truK.eq_2, truK.eq_3, truK.eq_4, truK.eq_5, seqK.eq_1, seqK.eq_2, op2, op1, b1K.eq_1, b1K.eq_2, b1K.eq_3, b1K.eq_4, b1K.eq_5, b1K.eq_6, b1K.eq_7, b1K.eq_8, b1K.eq_9, b1K.eq_10, b1K.eq_11, b1K.eq_12, b1K.eq_13, b1K.eq_14, b1K.eq_15, itK, tgFlat, asOk, wpTg.eq_1, wpTg.eq_2, wpTgs.eq_1, wpTgs.eq_2, wipeS, List.set, sl0, List.map, List.replicate, List.length_cons, List.length_nil, Nat.sub_self, Nat.reduceSub, Nat.reduceAdd, List.cons_append, List.nil_append, if_true]
      refine ⟨rfl, ⟨?_, ?_⟩, hk _ _ ⟨out ++ [x], some (e x), by simp, rfl, ?_, fun y => ?_, by simp; omega⟩⟩
      · rw [O.flat]; rfl
      · rw [List.length_map]; show _ < 16000000; omega
      · rw [List.pairwise_append]
        refine ⟨h1, List.pairwise_singleton _ _, fun a ha b hb => ?_⟩
        rw [List.mem_singleton] at hb
        subst hb
        refine ⟨?_, fun h => hin (h ▸ ha)⟩
        have ha := (h2 a).mp ha
        have hs' := hs
        rw [← List.take_append_drop j s] at hs'
        refine (List.pairwise_append.mp hs').2.2 a ha b ?_
        rw [List.mem_iff_getElem?]
        exact ⟨0, by rw [List.getElem?_drop]; simpa using hx⟩
      · rw [htk, List.mem_append, List.mem_singleton, List.mem_append, List.mem_singleton, ← h2]
  · rintro Γ g ⟨out, o, rfl, rfl, h1, h2, h3⟩
    rw [Nat.zero_add, List.take_length] at h2
    simp only [wpB, wpS, wpE, wpL, wpO, wpOT, wpT, fin, getS, optK, intK.eq_1, boolK.eq_1, truK.eq_1, truK.eq_2, truK.eq_3, truK.eq_4, truK.eq_5, seqK.eq_1, seqK.eq_2, op2, op1, b1K.eq_1, b1K.eq_2, b1K.eq_3, b1K.eq_4, b1K.eq_5, b1K.eq_6, b1K.eq_7, b1K.eq_8, b1K.eq_9, b1K.eq_10, b1K.eq_11, b1K.eq_12, b1K.eq_13, b1K.eq_14, b1K.eq_15, itK, tgFlat, asOk, wpTg.eq_1, wpTg.eq_2, wpTgs.eq_1, wpTgs.eq_2, wipeS, List.set, sl0, List.map, List.replicate, List.length_cons, List.length_nil, Nat.sub_self, Nat.reduceSub, Nat.reduceAdd, List.cons_append, List.nil_append, if_true]
    refine ⟨?_, q out h1 fun x => (h2 x).trans (hmem x)⟩
    show (flats (out.map e) || _ || _) = true
    rw [flats_map e O.flat]; rfl
end
end W3
namespace W3
open PySem
/-- a graph as the papers have it: edges upwards, each once -/
structure Ok (g : Gr) : Prop where
  srt : g.es.Pairwise (ltO ple)
  rng : ∀ p ∈ g.es, p.1 < p.2 ∧ p.2 < g.n
theorem nodup_len {α : Type} [DecidableEq α] : ∀ {l m : List α}, l.Nodup → (∀ x ∈ l, x ∈ m) → l.length ≤ m.length
  | [], _, _, _ => Nat.zero_le _
  | x :: l, m, hn, hs => by
    obtain ⟨h1, h2⟩ := List.nodup_cons.mp hn
    have hx := hs x List.mem_cons_self
    have : l.length ≤ (m.erase x).length := nodup_len h2 fun y hy => (List.mem_erase_of_ne (fun e => h1 (by rw [← e]; exact hy))).mpr (hs y (List.mem_cons_of_mem _ hy))
    rw [List.length_erase_of_mem hx] at this
    have : 0 < m.length := List.length_pos_of_mem hx
    simp; omega
theorem lt_nodup {α : Type} {le : α → α → Bool} {l : List α} (h : l.Pairwise (ltO le)) : l.Nodup := h.imp fun h => h.2
def toI (p : Nat × Nat) : Int × Int := ((p.1 : Int), (p.2 : Int))
theorem toI_inj {p q : Nat × Nat} (h : toI p = toI q) : p = q := by
  have h1 : (p.1 : Int) = q.1 := congrArg Prod.fst h
  have h2 : (p.2 : Int) = q.2 := congrArg Prod.snd h
  exact Prod.ext (by omega) (by omega)
theorem map_toI (l : List (Nat × Nat)) : (l.map toI).map encPr = l.map prD := by
  rw [List.map_map]; rfl
/-- a list of pairs all of which come from pairs of naturals -/
theorem of_toI {ps : List (Nat × Nat)} : ∀ {out : List (Int × Int)}, (∀ p ∈ out, p ∈ ps.map toI) → ∃ os : List (Nat × Nat), out = os.map toI
  | [], _ => ⟨[], rfl⟩
  | p :: out, h => by
    obtain ⟨os, e⟩ := of_toI (out := out) fun q hq => h q (List.mem_cons_of_mem _ hq)
    obtain ⟨x, _, hx⟩ := List.mem_map.mp (h p List.mem_cons_self)
    exact ⟨x :: os, by rw [List.map_cons, hx, e]⟩
/-- sorted(set(..)) of pairs of small naturals -/
theorem setK_nat {ps : List (Nat × Nat)} (h : ps.length < 64) (hb : ∀ p ∈ ps, p.1 < 64 ∧ p.2 < 64) {Q : D → Prop} (q : ∀ os : List (Nat × Nat), os.Pairwise (ltO ple) → (∀ p, p ∈ os ↔ p ∈ ps) → os.length ≤ ps.length → Q (.list (os.map prD))) : setK (ps.map prD) Q := by
  refine ⟨ps.map toI, (map_toI ps).symm, ⟨by rw [List.length_map]; exact h, fun p hp => ?_⟩, fun out h1 h2 => ?_⟩
  · obtain ⟨x, hx, rfl⟩ := List.mem_map.mp hp
    have := hb x hx
    simp only [toI]
    omega
  · obtain ⟨os, rfl⟩ := of_toI (ps := ps) fun p hp => (h2 p).mp hp
    rw [map_toI]
    have hm : ∀ p, p ∈ os ↔ p ∈ ps := fun p => by
      have := h2 (toI p)
      constructor
      · intro hp
        obtain ⟨x, hx, e⟩ := List.mem_map.mp (this.mp (List.mem_map.mpr ⟨p, hp, rfl⟩))
        rw [← toI_inj e]; exact hx
      · intro hp
        obtain ⟨x, hx, e⟩ := List.mem_map.mp (this.mpr (List.mem_map.mpr ⟨p, hp, rfl⟩))
        rw [← toI_inj e]; exact hx
    have hs : os.Pairwise (ltO ple) := by
      rw [List.pairwise_map] at h1
      refine h1.imp fun {a b} h => ⟨?_, ?_⟩
      · unfold ple
        rw [decide_eq_true_iff]
        unfold prLt toI at h
        simp only at h
        omega
      · intro e
        subst e
        unfold prLt at h
        omega
    exact q os hs hm (nodup_len (lt_nodup hs) fun x hx => (hm x).mp hx)
def sp9 : List D → (D → Prop) → Prop := fun ds Q => ∃ (n : Nat) (ps : List (Nat × Nat)) (x : D), ds = [nD n, x] ∧ (x = .list (ps.map prD) ∨ x = .tuple (ps.map prD)) ∧ ps.length < 64 ∧ (∀ p ∈ ps, p.1 < 64 ∧ p.2 < 64) ∧
  ∀ es : List (Nat × Nat), es.Pairwise (ltO ple) → (∀ p, p ∈ es ↔ ∃ q ∈ ps, pr q.1 q.2 = p) → es.length ≤ ps.length → Q (grD ⟨n, es⟩)
section
variable {Φ : Fam}
theorem fm_some {α β : Type} (f : α → β) (l : List α) : l.filterMap (fun x => some (f x)) = l.map f := by
  induction l with
  | nil => rfl
  | cons x l ih => rw [List.filterMap_cons, ih]; rfl
theorem pr_lt {a b : Nat} (h1 : a < 64) (h2 : b < 64) : (pr a b).1 < 64 ∧ (pr a b).2 < 64 := by
  unfold pr; split <;> exact ⟨by simpa, by simpa⟩
theorem w9 (h3 : Has Φ 3 sp3) {ds : List D} {Q : D → Prop} (h : sp9 ds Q) : wpB Φ [] b9 (sl0 N9 ds) 0 { nx := fun _ _ => Q .none, rt := fun d _ => Q d } := by
  obtain ⟨n, ps, x, rfl, hx, hl, hb, q⟩ := h
  have fn1 : ∀ (z : List D), flat (.tuple [nD n, .tuple z]) = true ∧ Q (.tuple [nD n, .tuple z]) → (flat (.tuple [nD n, .tuple z]) || frs (.tup [.slot 0, .b1 .tup (.b1 .sset (.lc [2, 3] (.tp [.nm 2, .nm 3]) false [.slot 1] none (.call 3 [.slot 2, .slot 3])))]) (.tuple [nD n, .tuple z]) || false) = true ∧ Q (.tuple [nD n, .tuple z]) := fun z h => ⟨by rw [h.1]; rfl, h.2⟩
  have main : seqK x fun rs => rs = ps.map prD := by rcases hx with rfl | rfl <;> rfl
  simp only [b9, N9, wpB, wpS, wpE, wpL, wpO, wpOT, wpT, fin, getS, optK, intK.eq_1, boolK.eq_1, truK.eq_1, truK.eq_2, truK.eq_3, truK.eq_4, truK.eq_5, seqK.eq_1, seqK.eq_2, op2, op1, b1K.eq_1, b1K.eq_2, b1K.eq_3, b1K.eq_4, b1K.eq_5, b1K.eq_6, b1K.eq_7, b1K.eq_8, b1K.eq_9, b1K.eq_10, b1K.eq_11, b1K.eq_12, b1K.eq_13, b1K.eq_14, b1K.eq_15, itK, tgFlat, asOk, wpTg.eq_1, wpTg.eq_2, wpTgs.eq_1, wpTgs.eq_2, wipeS, List.set, sl0, List.map, List.replicate, List.length_cons, List.length_nil, Nat.sub_self, Nat.reduceSub, Nat.reduceAdd, List.cons_append, List.nil_append, if_true]
  refine seqK_mono (fun rs e => ?_) main
  subst e
  refine lcW_map prD (fun p => some (prD (pr p.1 p.2))) ps (fun p hp K' k => ?_) ?_
  · simp only [prD, wpB, wpS, wpE, wpL, wpO, wpOT, wpT, fin, getS, optK, intK.eq_1, boolK.eq_1, truK.eq_1, truK.eq_2, truK.eq_3, truK.eq_4, truK.eq_5, seqK.eq_1, seqK.eq_2, op2, op1, b1K.eq_1, b1K.eq_2, b1K.eq_3, b1K.eq_4, b1K.eq_5, b1K.eq_6, b1K.eq_7, b1K.eq_8, b1K.eq_9, b1K.eq_10, b1K.eq_11, b1K.eq_12, b1K.eq_13, b1K.eq_14, b1K.eq_15, itK, tgFlat, asOk, wpTg.eq_1, wpTg.eq_2, wpTgs.eq_1, wpTgs.eq_2, wipeS, List.set, sl0, List.map, List.replicate, List.length_cons, List.length_nil, Nat.sub_self, Nat.reduceSub, Nat.reduceAdd, List.cons_append, List.nil_append, if_true]
    exact h3 _ _ ⟨p.1, p.2, rfl, k⟩
  · rw [List.nil_append, fm_some (fun p : Nat × Nat => prD (pr p.1 p.2))]
    have e : (ps.map fun p => prD (pr p.1 p.2)) = (ps.map fun p => pr p.1 p.2).map prD := by rw [List.map_map]; rfl
    rw [e]
    refine setK_nat (by rw [List.length_map]; exact hl) (fun p hp => ?_) fun os h1 h2 h3 => ?_
    · obtain ⟨y, hy, rfl⟩ := List.mem_map.mp hp
      exact pr_lt (hb y hy).1 (hb y hy).2
    · exact fn1 _ ⟨flat_grD ⟨n, os⟩, q os h1 (fun p => (h2 p).trans List.mem_map) (by rw [List.length_map] at h3; exact h3)⟩
end
end W3
namespace W3
open PySem
/-- a's partners above it -/
def ups (n a : Nat) : List (Nat × Nat) := (List.range (n - (a + 1))).map fun k => (a, a + 1 + k)
def allp (n : Nat) : List (Nat × Nat) := (List.range n).flatMap (ups n)
theorem mem_ups {n a : Nat} {p : Nat × Nat} : p ∈ ups n a ↔ p.1 = a ∧ a < p.2 ∧ p.2 < n := by
  unfold ups
  rw [List.mem_map]
  constructor
  · rintro ⟨k, hk, rfl⟩
    rw [List.mem_range] at hk
    show a = a ∧ a < a + 1 + k ∧ a + 1 + k < n
    omega
  · rintro ⟨h1, h2, h3⟩
    refine ⟨p.2 - (a + 1), List.mem_range.mpr (by omega), Prod.ext h1.symm (show a + 1 + (p.2 - (a + 1)) = p.2 by omega)⟩
theorem mem_allp {n : Nat} {p : Nat × Nat} : p ∈ allp n ↔ p.1 < p.2 ∧ p.2 < n := by
  unfold allp
  rw [List.mem_flatMap]
  constructor
  · rintro ⟨a, ha, hp⟩
    have := mem_ups.mp hp
    omega
  · rintro ⟨h1, h2⟩
    exact ⟨p.1, List.mem_range.mpr (by omega), mem_ups.mpr ⟨rfl, h1, h2⟩⟩
theorem ple_iff {p q : Nat × Nat} : ltO ple p q ↔ p.1 < q.1 ∨ p.1 = q.1 ∧ p.2 < q.2 := by
  unfold ltO ple
  rw [decide_eq_true_iff]
  constructor
  · rintro ⟨h1, h2⟩
    rcases Nat.lt_trichotomy p.2 q.2 with h | h | h
    · omega
    · by_cases h3 : p.1 = q.1
      · exact absurd (Prod.ext h3 h) h2
      · omega
    · omega
  · intro h
    refine ⟨by omega, fun e => ?_⟩
    subst e
    omega
theorem range_lt (n : Nat) : (List.range n).Pairwise (· < ·) := List.pairwise_lt_range
theorem ups_srt (n a : Nat) : (ups n a).Pairwise (ltO ple) := by
  unfold ups
  rw [List.pairwise_map]
  exact (range_lt _).imp fun {i j} h => ple_iff.mpr (show a < a ∨ a = a ∧ a + 1 + i < a + 1 + j by omega)
theorem flat_srt {f : Nat → List (Nat × Nat)} (h1 : ∀ a, (f a).Pairwise (ltO ple)) (h2 : ∀ a, ∀ p ∈ f a, p.1 = a) : ∀ {l : List Nat}, l.Pairwise (· < ·) → (l.flatMap f).Pairwise (ltO ple)
  | [], _ => .nil
  | a :: l, h => by
    obtain ⟨g1, g2⟩ := List.pairwise_cons.mp h
    rw [List.flatMap_cons, List.pairwise_append]
    refine ⟨h1 a, flat_srt h1 h2 g2, fun p hp q hq => ?_⟩
    obtain ⟨b, hb, hq⟩ := List.mem_flatMap.mp hq
    have := g1 b hb
    have e1 := h2 a p hp
    have e2 := h2 b q hq
    exact ple_iff.mpr (by omega)
theorem allp_srt (n : Nat) : (allp n).Pairwise (ltO ple) := flat_srt (ups_srt n) (fun a p hp => (mem_ups.mp hp).1) (range_lt n)
theorem flen {α β : Type} {f : α → List β} {c : Nat} : ∀ {l : List α}, (∀ x ∈ l, (f x).length ≤ c) → (l.flatMap f).length ≤ l.length * c
  | [], _ => Nat.zero_le _
  | x :: l, h => by
    rw [List.flatMap_cons, List.length_append, List.length_cons, Nat.succ_mul]
    have := flen (l := l) fun y hy => h y (List.mem_cons_of_mem _ hy)
    have := h x List.mem_cons_self
    omega
theorem rng2 (a n : Nat) (ha : a ≤ 1000000) (hn : n ≤ 1000000) {Q : List D → Prop} (q : Q (((List.range (n - (a + 1))).map fun k => a + 1 + k).map nD)) : rngK [.int ((a : Int) + 1), .int (n : Int)] Q := by
  refine ⟨⟨⟨by omega, by omega⟩, by omega, by omega⟩, ?_⟩
  have : ((n : Int) - ((a : Int) + 1)).toNat = n - (a + 1) := by omega
  rw [this]
  rw [List.map_map] at q
  exact q
theorem filter_tt {α : Type} (l : List α) : (l.filter fun _ => true) = l := List.filter_eq_self.mpr fun _ _ => rfl
def sp124 : List D → (D → Prop) → Prop := fun ds Q => ∃ n : Nat, ds = [nD n] ∧ n ≤ 1000 ∧ Q (grD ⟨n, allp n⟩)
def sp10 : List D → (D → Prop) → Prop := fun ds Q => ∃ g : Gr, ds = [grD g] ∧ g.n ≤ 1000 ∧ Q (grD ⟨g.n, (allp g.n).filter fun p => decide (p ∉ g.es)⟩)
def sp41 : List D → (D → Prop) → Prop := fun ds Q => ∃ n : Nat, ds = [nD n] ∧ n ≤ 1000 ∧ Q (.list ((allp n).map prD))
def sp39 : List D → (D → Prop) → Prop := fun ds Q => ∃ g : Gr, ds = [grD g] ∧ g.n ≤ 1000 ∧ Q (grD ⟨g.n, (allp g.n).filter fun p => decide (p ∉ g.es)⟩)
section
variable {Φ : Fam}
theorem fmap_filter {α : Type} (t : Nat × Nat → Bool) (l : List α) (f : α → Nat × Nat) : l.flatMap (fun x => if t (f x) = true then [prD (f x)] else []) = ((l.map f).filter t).map prD := by
  induction l with
  | nil => rfl
  | cons x l ih =>
    rw [List.flatMap_cons, ih, List.map_cons, List.filter_cons]
    cases t (f x) <;> rfl
theorem fm_filter {α : Type} (t : Nat × Nat → Bool) (l : List α) (f : α → Nat × Nat) : l.filterMap (fun x => if t (f x) = true then some (prD (f x)) else none) = ((l.map f).filter t).map prD := by
  induction l with
  | nil => rfl
  | cons x l ih =>
    rw [List.filterMap_cons, ih, List.map_cons, List.filter_cons]
    cases t (f x) <;> rfl
theorem flat_map_prD (l : List Nat) (t : Nat × Nat → Bool) (n : Nat) : (l.flatMap fun a => ((ups n a).filter t).map prD) = ((l.flatMap (ups n)).filter t).map prD := by
  induction l with
  | nil => rfl
  | cons x l ih => rw [List.flatMap_cons, List.flatMap_cons, List.filter_append, List.map_append, ih]
theorem ups_len (n a : Nat) : (ups n a).length ≤ n := by
  unfold ups
  rw [List.length_map, List.length_range]
  omega
theorem w124 {ds : List D} {Q : D → Prop} (h : sp124 ds Q) : wpB Φ [] b124 (sl0 N124 ds) 0 { nx := fun _ _ => Q .none, rt := fun d _ => Q d } := by
  obtain ⟨n, rfl, hn, q⟩ := h
  simp only [b124, N124, nD, wpB, wpS, wpE, wpL, wpO, wpOT, wpT, fin, getS, optK, intK.eq_1, boolK.eq_1, truK.eq_1, truK.eq_2, truK.eq_3, truK.eq_4, truK.eq_5, seqK.eq_1, seqK.eq_2, op2, op1, b1K.eq_1, b1K.eq_2, b1K.eq_3, b1K.eq_4, b1K.eq_5, b1K.eq_6, b1K.eq_7, b1K.eq_8, b1K.eq_9, b1K.eq_10, b1K.eq_11, b1K.eq_12, b1K.eq_13, b1K.eq_14, b1K.eq_15, itK, tgFlat, asOk, wpTg.eq_1, wpTg.eq_2, wpTgs.eq_1, wpTgs.eq_2, wipeS, List.set, sl0, List.map, List.replicate, List.length_cons, List.length_nil, Nat.sub_self, Nat.reduceSub, Nat.reduceAdd, List.cons_append, List.nil_append, if_true]
  refine rng1 n (by omega) ?_
  refine lc2W_map 10000000 nD (fun a => ((ups n a).filter fun _ => true).map prD) (List.range n) (fun a ha acc K' hB k => ?_) ?_ ?_
  · have ha := List.mem_range.mp ha
    simp only [nD, wpB, wpS, wpE, wpL, wpO, wpOT, wpT, fin, getS, optK, intK.eq_1, boolK.eq_1, truK.eq_1, truK.eq_2, truK.eq_3, truK.eq_4, truK.eq_5, seqK.eq_1, seqK.eq_2, op2, op1, b1K.eq_1, b1K.eq_2, b1K.eq_3, b1K.eq_4, b1K.eq_5, b1K.eq_6, b1K.eq_7, b1K.eq_8, b1K.eq_9, b1K.eq_10, b1K.eq_11, b1K.eq_12, b1K.eq_13, b1K.eq_14, b1K.eq_15, itK, tgFlat, asOk, wpTg.eq_1, wpTg.eq_2, wpTgs.eq_1, wpTgs.eq_2, wipeS, List.set, sl0, List.map, List.replicate, List.length_cons, List.length_nil, Nat.sub_self, Nat.reduceSub, Nat.reduceAdd, List.cons_append, List.nil_append, if_true]
    refine rng2 a n (by omega) (by omega) ?_
    have e : ((List.range (n - (a + 1))).map fun k => a + 1 + k).flatMap (fun b => [prD (a, b)]) = ((ups n a).filter fun _ => true).map prD := by
      rw [filter_tt]
      unfold ups
      rw [List.map_map, List.flatMap_map]
      induction (List.range (n - (a + 1))) with
      | nil => rfl
      | cons x l ih => rw [List.flatMap_cons, ih]; rfl
    refine lc2W_map 10000000 nD (fun b => [prD (a, b)]) _ (fun b hb acc K' hB k => ?_) (by rw [e]; exact hB) (by rw [e]; exact k)
    simp only [nD, wpB, wpS, wpE, wpL, wpO, wpOT, wpT, fin, getS, optK, intK.eq_1, boolK.eq_1, truK.eq_1, truK.eq_2, truK.eq_3, truK.eq_4, truK.eq_5, seqK.eq_1, seqK.eq_2, op2, op1, b1K.eq_1, b1K.eq_2, b1K.eq_3, b1K.eq_4, b1K.eq_5, b1K.eq_6, b1K.eq_7, b1K.eq_8, b1K.eq_9, b1K.eq_10, b1K.eq_11, b1K.eq_12, b1K.eq_13, b1K.eq_14, b1K.eq_15, itK, tgFlat, asOk, wpTg.eq_1, wpTg.eq_2, wpTgs.eq_1, wpTgs.eq_2, wipeS, List.set, sl0, List.map, List.replicate, List.length_cons, List.length_nil, Nat.sub_self, Nat.reduceSub, Nat.reduceAdd, List.cons_append, List.nil_append, if_true]
    have : big = 16000000 := rfl
    simp at hB
    exact ⟨by omega, k⟩
  · have := flen (l := List.range n) (f := fun a => ((ups n a).filter fun _ => true).map prD) (c := 1000) fun a _ => by
      rw [List.length_map, filter_tt]
      exact Nat.le_trans (ups_len n a) hn
    rw [List.length_range] at this
    have : n * 1000 ≤ 1000000 := by omega
    simp only [List.length_nil, Nat.zero_add]
    omega
  · rw [List.nil_append, flat_map_prD, filter_tt]
    refine ⟨?_, q⟩
    have := flat_grD ⟨n, allp n⟩
    show (flat (grD ⟨n, allp n⟩) || _ || _) = true
    rw [this]; rfl
theorem nin_es (g : Gr) (p : Nat × Nat) : inD (prD p) (g.es.map prD) = decide (p ∈ g.es) := inD_map prD eqv_prD p g.es
theorem w10 {ds : List D} {Q : D → Prop} (h : sp10 ds Q) : wpB Φ [] b10 (sl0 N10 ds) 0 { nx := fun _ _ => Q .none, rt := fun d _ => Q d } := by
  obtain ⟨g, rfl, hn, q⟩ := h
  simp only [b10, N10, wpB, wpS, wpE, wpL, wpO, wpOT, wpT, fin, getS, optK, intK.eq_1, boolK.eq_1, truK.eq_1, truK.eq_2, truK.eq_3, truK.eq_4, truK.eq_5, seqK.eq_1, seqK.eq_2, op2, op1, b1K.eq_1, b1K.eq_2, b1K.eq_3, b1K.eq_4, b1K.eq_5, b1K.eq_6, b1K.eq_7, b1K.eq_8, b1K.eq_9, b1K.eq_10, b1K.eq_11, b1K.eq_12, b1K.eq_13, b1K.eq_14, b1K.eq_15, itK, tgFlat, asOk, wpTg.eq_1, wpTg.eq_2, wpTgs.eq_1, wpTgs.eq_2, wipeS, List.set, sl0, List.map, List.replicate, List.length_cons, List.length_nil, Nat.sub_self, Nat.reduceSub, Nat.reduceAdd, List.cons_append, List.nil_append, if_true]
  refine ix0 g ⟨rfl, ?_⟩
  refine rng1 g.n (by omega) ?_
  refine lc2W_map 10000000 nD (fun a => ((ups g.n a).filter fun p => decide (p ∉ g.es)).map prD) (List.range g.n) (fun a ha acc K' hB k => ?_) ?_ ?_
  · have ha := List.mem_range.mp ha
    simp only [nD, wpB, wpS, wpE, wpL, wpO, wpOT, wpT, fin, getS, optK, intK.eq_1, boolK.eq_1, truK.eq_1, truK.eq_2, truK.eq_3, truK.eq_4, truK.eq_5, seqK.eq_1, seqK.eq_2, op2, op1, b1K.eq_1, b1K.eq_2, b1K.eq_3, b1K.eq_4, b1K.eq_5, b1K.eq_6, b1K.eq_7, b1K.eq_8, b1K.eq_9, b1K.eq_10, b1K.eq_11, b1K.eq_12, b1K.eq_13, b1K.eq_14, b1K.eq_15, itK, tgFlat, asOk, wpTg.eq_1, wpTg.eq_2, wpTgs.eq_1, wpTgs.eq_2, wipeS, List.set, sl0, List.map, List.replicate, List.length_cons, List.length_nil, Nat.sub_self, Nat.reduceSub, Nat.reduceAdd, List.cons_append, List.nil_append, if_true]
    refine rng2 a g.n (by omega) (by omega) ?_
    have e : ((List.range (g.n - (a + 1))).map fun k => a + 1 + k).flatMap (fun b => if decide ((a, b) ∉ g.es) = true then [prD (a, b)] else []) = ((ups g.n a).filter fun p => decide (p ∉ g.es)).map prD := by
      unfold ups
      rw [← fmap_filter (fun p => decide (p ∉ g.es)), List.flatMap_map]
    refine lc2W_map 10000000 nD (fun b => if decide ((a, b) ∉ g.es) = true then [prD (a, b)] else []) _ (fun b hb acc K' hB k => ?_) (by rw [e]; exact hB) (by rw [e]; exact k)
    simp only [nD, wpB, wpS, wpE, wpL, wpO, wpOT, wpT, fin, getS, optK, intK.eq_1, boolK.eq_1, truK.eq_1, truK.eq_2, truK.eq_3, truK.eq_4, truK.eq_5, seqK.eq_1, seqK.eq_2, op2, op1, b1K.eq_1, b1K.eq_2, b1K.eq_3, b1K.eq_4, b1K.eq_5, b1K.eq_6, b1K.eq_7, b1K.eq_8, b1K.eq_9, b1K.eq_10, b1K.eq_11, b1K.eq_12, b1K.eq_13, b1K.eq_14, b1K.eq_15, itK, tgFlat, asOk, wpTg.eq_1, wpTg.eq_2, wpTgs.eq_1, wpTgs.eq_2, wipeS, List.set, sl0, List.map, List.replicate, List.length_cons, List.length_nil, Nat.sub_self, Nat.reduceSub, Nat.reduceAdd, List.cons_append, List.nil_append, if_true]
    refine ix1 g ⟨shp_prD (a, b), ?_⟩
    simp only [wpB, wpS, wpE, wpL, wpO, wpOT, wpT, fin, getS, optK, intK.eq_1, boolK.eq_1, truK.eq_1, truK.eq_2, truK.eq_3, truK.eq_4, truK.eq_5, seqK.eq_1, seqK.eq_2, op2, op1, b1K.eq_1, b1K.eq_2, b1K.eq_3, b1K.eq_4, b1K.eq_5, b1K.eq_6, b1K.eq_7, b1K.eq_8, b1K.eq_9, b1K.eq_10, b1K.eq_11, b1K.eq_12, b1K.eq_13, b1K.eq_14, b1K.eq_15, itK, tgFlat, asOk, wpTg.eq_1, wpTg.eq_2, wpTgs.eq_1, wpTgs.eq_2, wipeS, List.set, sl0, List.map, List.replicate, List.length_cons, List.length_nil, Nat.sub_self, Nat.reduceSub, Nat.reduceAdd, List.cons_append, List.nil_append, if_true]
    have e2 : inD (.tuple [.int (a : Int), .int (b : Int)]) (g.es.map prD) = decide ((a, b) ∈ g.es) := nin_es g (a, b)
    by_cases hm : (a, b) ∈ g.es
    · refine ifF (by rw [e2]; simp [hm]) ?_
      simp [hm] at k
      exact k
    · refine ifT (by rw [e2]; simp [hm]) ?_
      have : big = 16000000 := rfl
      simp [hm] at k hB
      exact ⟨by omega, k⟩
  · have := flen (l := List.range g.n) (f := fun a => ((ups g.n a).filter fun p => decide (p ∉ g.es)).map prD) (c := 1000) fun a _ => by
      rw [List.length_map]
      exact Nat.le_trans (List.length_filter_le _ _) (Nat.le_trans (ups_len g.n a) hn)
    rw [List.length_range] at this
    have : g.n * 1000 ≤ 1000000 := by omega
    simp only [List.length_nil, Nat.zero_add]
    omega
  · rw [List.nil_append, flat_map_prD]
    refine ⟨?_, q⟩
    have := flat_grD ⟨g.n, (allp g.n).filter fun p => decide (p ∉ g.es)⟩
    show (flat (grD ⟨g.n, (allp g.n).filter fun p => decide (p ∉ g.es)⟩) || _ || _) = true
    rw [this]; rfl
end
end W3
namespace W3
open PySem
theorem take_flat (n j : Nat) (h : j < n) (f : Nat → List (Nat × Nat)) : ((List.range n).take (j + 1)).flatMap f = ((List.range n).take j).flatMap f ++ f j := by
  rw [List.take_succ, List.getElem?_range h, List.flatMap_append]
  simp
theorem take_len (n j : Nat) (h : j ≤ n) (f : Nat → List (Nat × Nat)) (c : Nat) (hf : ∀ a, (f a).length ≤ c) : (((List.range n).take j).flatMap f).length ≤ n * c := by
  have := flen (l := (List.range n).take j) (f := f) (c := c) fun a _ => hf a
  rw [List.length_take, List.length_range] at this
  exact Nat.le_trans this (Nat.mul_le_mul_right _ (Nat.min_le_right _ _))
section
variable {Φ : Fam}
theorem w41 {ds : List D} {Q : D → Prop} (h : sp41 ds Q) : wpB Φ [1] b41 (sl0 N41 ds) 0 { nx := fun _ _ => Q .none, rt := fun d _ => Q d } := by
  obtain ⟨n, rfl, hn, q⟩ := h
  simp only [b41, N41, nD, wpB, wpS, wpE, wpL, wpO, wpOT, wpT, fin, getS, optK, intK.eq_1, boolK.eq_1, truK.eq_1, truK.eq_2, truK.eq_3, truK.eq_4, truK.eq_5, seqK.eq_1, seqK.eq_2, op2, op1, b1K.eq_1, b1K.eq_2, b1K.eq_3, b1K.eq_4, b1K.eq_5, b1K.eq_6, b1K.eq_7, b1K.eq_8, b1K.eq_9, b1K.eq_10, b1K.eq_11, b1K.eq_12, b1K.eq_13, b1K.eq_14, b1K.eq_15, itK, tgFlat, asOk, wpTg.eq_1, wpTg.eq_2, wpTgs.eq_1, wpTgs.eq_2, wipeS, List.set, sl0, List.map, List.replicate, List.length_cons, List.length_nil, Nat.sub_self, Nat.reduceSub, Nat.reduceAdd, List.cons_append, List.nil_append, if_true]
  refine ⟨rfl, rfl, rng1 n (by omega) ?_⟩
  refine forW_map nD (fun i Γ g => ∃ o3, Γ = [some (nD n), some (.list ((((List.range n).take i).flatMap (ups n)).map prD)), o3, none] ∧ g = 0) _ 0 ⟨none, rfl, rfl⟩ ?_ ?_
  · rintro j a Γ g nx hx ⟨o3, rfl, rfl⟩ hk
    rw [Nat.zero_add] at hk ⊢
    obtain ⟨hj, ha⟩ := List.getElem?_eq_some_iff.mp hx
    rw [List.length_range] at hj
    rw [List.getElem_range] at ha
    subst ha
    simp only [nD, wpB, wpS, wpE, wpL, wpO, wpOT, wpT, fin, getS, optK, intK.eq_1, boolK.eq_1, truK.eq_1, truK.eq_2, truK.eq_3, truK.eq_4, truK.eq_5, seqK.eq_1, seqK.eq_2, op2, op1, b1K.eq_1, b1K.eq_2, b1K.eq_3, b1K.eq_4, b1K.eq_5, b1K.eq_6, b1K.eq_7, b1K.eq_8, b1K.eq_9, b1K.eq_10, b1K.eq_11, b1K.eq_12, b1K.eq_13, b1K.eq_14, b1K.eq_15, itK, tgFlat, asOk, wpTg.eq_1, wpTg.eq_2, wpTgs.eq_1, wpTgs.eq_2, wipeS, List.set, sl0, List.map, List.replicate, List.length_cons, List.length_nil, Nat.sub_self, Nat.reduceSub, Nat.reduceAdd, List.cons_append, List.nil_append, if_true]
    refine rng2 j n (by omega) (by omega) ?_
    refine lcW_map nD (fun b => some (prD (j, b))) _ (fun b hb K' k => k) ?_
    rw [List.nil_append, fm_some (fun b => prD (j, b))]
    have e : (((List.range (n - (j + 1))).map fun k => j + 1 + k).map fun b => prD (j, b)) = (ups n j).map prD := by
      unfold ups
      rw [List.map_map, List.map_map]; rfl
    rw [e]
    have l1 := take_len n j (by omega) (ups n) 1000 fun a => Nat.le_trans (ups_len n a) hn
    have l2 := ups_len n j
    have hb : big = 16000000 := rfl
    have : n * 1000 ≤ 1000000 := by omega
    refine ⟨by rw [List.length_map, List.length_map]; omega, ?_, hk _ _ ⟨some (nD j), ?_, rfl⟩⟩
    · rw [← List.map_append]
      show (false || flats (List.map prD _)) = true
      rw [flats_map _ flat_prD]
      rfl
    · rw [take_flat n j hj, List.map_append]
      rfl
  · rintro Γ g ⟨o3, rfl, rfl⟩
    rw [Nat.zero_add, List.take_length]
    simp only [wpB, wpS, wpE, wpL, wpO, wpOT, wpT, fin, getS, optK, intK.eq_1, boolK.eq_1, truK.eq_1, truK.eq_2, truK.eq_3, truK.eq_4, truK.eq_5, seqK.eq_1, seqK.eq_2, op2, op1, b1K.eq_1, b1K.eq_2, b1K.eq_3, b1K.eq_4, b1K.eq_5, b1K.eq_6, b1K.eq_7, b1K.eq_8, b1K.eq_9, b1K.eq_10, b1K.eq_11, b1K.eq_12, b1K.eq_13, b1K.eq_14, b1K.eq_15, itK, tgFlat, asOk, wpTg.eq_1, wpTg.eq_2, wpTgs.eq_1, wpTgs.eq_2, wipeS, List.set, sl0, List.map, List.replicate, List.length_cons, List.length_nil, Nat.sub_self, Nat.reduceSub, Nat.reduceAdd, List.cons_append, List.nil_append, if_true]
    exact ⟨by simp, q⟩
theorem w39 {ds : List D} {Q : D → Prop} (h : sp39 ds Q) : wpB Φ [] b39 (sl0 N39 ds) 0 { nx := fun _ _ => Q .none, rt := fun d _ => Q d } := by
  obtain ⟨g, rfl, hn, q⟩ := h
  simp only [b39, N39, wpB, wpS, wpE, wpL, wpO, wpOT, wpT, fin, getS, optK, intK.eq_1, boolK.eq_1, truK.eq_1, truK.eq_2, truK.eq_3, truK.eq_4, truK.eq_5, seqK.eq_1, seqK.eq_2, op2, op1, b1K.eq_1, b1K.eq_2, b1K.eq_3, b1K.eq_4, b1K.eq_5, b1K.eq_6, b1K.eq_7, b1K.eq_8, b1K.eq_9, b1K.eq_10, b1K.eq_11, b1K.eq_12, b1K.eq_13, b1K.eq_14, b1K.eq_15, itK, tgFlat, asOk, wpTg.eq_1, wpTg.eq_2, wpTgs.eq_1, wpTgs.eq_2, wipeS, List.set, sl0, List.map, List.replicate, List.length_cons, List.length_nil, Nat.sub_self, Nat.reduceSub, Nat.reduceAdd, List.cons_append, List.nil_append, if_true]
  refine ⟨rfl, ix0 g ⟨rfl, rng1 g.n (by omega) ?_⟩⟩
  refine forW_map nD (fun i Γ g' => ∃ o3, Γ = [some (grD g), some (.list ((((List.range g.n).take i).flatMap fun a => (ups g.n a).filter fun p => decide (p ∉ g.es)).map prD)), o3, none] ∧ g' = 0) _ 0 ⟨none, rfl, rfl⟩ ?_ ?_
  · rintro j a Γ g' nx hx ⟨o3, rfl, rfl⟩ hk
    rw [Nat.zero_add] at hk ⊢
    obtain ⟨hj, ha⟩ := List.getElem?_eq_some_iff.mp hx
    rw [List.length_range] at hj
    rw [List.getElem_range] at ha
    subst ha
    simp only [nD, wpB, wpS, wpE, wpL, wpO, wpOT, wpT, fin, getS, optK, intK.eq_1, boolK.eq_1, truK.eq_1, truK.eq_2, truK.eq_3, truK.eq_4, truK.eq_5, seqK.eq_1, seqK.eq_2, op2, op1, b1K.eq_1, b1K.eq_2, b1K.eq_3, b1K.eq_4, b1K.eq_5, b1K.eq_6, b1K.eq_7, b1K.eq_8, b1K.eq_9, b1K.eq_10, b1K.eq_11, b1K.eq_12, b1K.eq_13, b1K.eq_14, b1K.eq_15, itK, tgFlat, asOk, wpTg.eq_1, wpTg.eq_2, wpTgs.eq_1, wpTgs.eq_2, wipeS, List.set, sl0, List.map, List.replicate, List.length_cons, List.length_nil, Nat.sub_self, Nat.reduceSub, Nat.reduceAdd, List.cons_append, List.nil_append, if_true]
    refine ix0 g (rng2 j g.n (by omega) (by omega) ?_)
    refine lcW_map nD (fun b => if decide ((j, b) ∉ g.es) = true then some (prD (j, b)) else none) _ (fun b hb K' k => ?_) ?_
    · simp only [nD, wpB, wpS, wpE, wpL, wpO, wpOT, wpT, fin, getS, optK, intK.eq_1, boolK.eq_1, truK.eq_1, truK.eq_2, truK.eq_3, truK.eq_4, truK.eq_5, seqK.eq_1, seqK.eq_2, op2, op1, b1K.eq_1, b1K.eq_2, b1K.eq_3, b1K.eq_4, b1K.eq_5, b1K.eq_6, b1K.eq_7, b1K.eq_8, b1K.eq_9, b1K.eq_10, b1K.eq_11, b1K.eq_12, b1K.eq_13, b1K.eq_14, b1K.eq_15, itK, tgFlat, asOk, wpTg.eq_1, wpTg.eq_2, wpTgs.eq_1, wpTgs.eq_2, wipeS, List.set, sl0, List.map, List.replicate, List.length_cons, List.length_nil, Nat.sub_self, Nat.reduceSub, Nat.reduceAdd, List.cons_append, List.nil_append, if_true]
      refine ix1 g ⟨shp_prD (j, b), ?_⟩
      simp only [wpB, wpS, wpE, wpL, wpO, wpOT, wpT, fin, getS, optK, intK.eq_1, boolK.eq_1, truK.eq_1, truK.eq_2, truK.eq_3, truK.eq_4, truK.eq_5, seqK.eq_1, seqK.eq_2, op2, op1, b1K.eq_1, b1K.eq_2, b1K.eq_3, b1K.eq_4, b1K.eq_5, b1K.eq_6, b1K.eq_7, b1K.eq_8, b1K.eq_9, b1K.eq_10, b1K.eq_11, b1K.eq_12, b1K.eq_13, b1K.eq_14, b1K.eq_15, itK, tgFlat, asOk, wpTg.eq_1, wpTg.eq_2, wpTgs.eq_1, wpTgs.eq_2, wipeS, List.set, sl0, List.map, List.replicate, List.length_cons, List.length_nil, Nat.sub_self, Nat.reduceSub, Nat.reduceAdd, List.cons_append, List.nil_append, if_true]
      have e2 : inD (.tuple [.int (j : Int), .int (b : Int)]) (g.es.map prD) = decide ((j, b) ∈ g.es) := nin_es g (j, b)
      by_cases hm : (j, b) ∈ g.es
      · refine ifF (by rw [e2]; simp [hm]) ?_
        simp [hm] at k
        exact k
      · refine ifT (by rw [e2]; simp [hm]) ?_
        simp [hm] at k
        exact k
    have e : (((List.range (g.n - (j + 1))).map fun k => j + 1 + k).filterMap fun b => if decide ((j, b) ∉ g.es) = true then some (prD (j, b)) else none) = ((ups g.n j).filter fun p => decide (p ∉ g.es)).map prD := by
      unfold ups
      rw [← fm_filter (fun p => decide (p ∉ g.es)), List.filterMap_map]
      rfl
    rw [List.nil_append, e]
    have lf : ∀ a, ((ups g.n a).filter fun p => decide (p ∉ g.es)).length ≤ 1000 := fun a => Nat.le_trans (List.length_filter_le _ _) (Nat.le_trans (ups_len g.n a) hn)
    have l1 := take_len g.n j (by omega) (fun a => (ups g.n a).filter fun p => decide (p ∉ g.es)) 1000 lf
    have l2 := lf j
    have hb : big = 16000000 := rfl
    have : g.n * 1000 ≤ 1000000 := by omega
    refine ⟨by rw [List.length_map, List.length_map]; omega, ?_, hk _ _ ⟨some (nD j), ?_, rfl⟩⟩
    · rw [← List.map_append]
      show (false || flats (List.map prD _)) = true
      rw [flats_map _ flat_prD]
      rfl
    · rw [take_flat g.n j hj, List.map_append]
      rfl
  · rintro Γ g' ⟨o3, rfl, rfl⟩
    rw [Nat.zero_add, List.take_length]
    have e : ((List.range g.n).flatMap fun a => (ups g.n a).filter fun p => decide (p ∉ g.es)) = (allp g.n).filter fun p => decide (p ∉ g.es) := by
      unfold allp
      rw [List.filter_flatMap]
    rw [e]
    simp only [wpB, wpS, wpE, wpL, wpO, wpOT, wpT, fin, getS, optK, intK.eq_1, boolK.eq_1, truK.eq_1, truK.eq_2, truK.eq_3, truK.eq_4, truK.eq_5, seqK.eq_1, seqK.eq_2, op2, op1, b1K.eq_1, b1K.eq_2, b1K.eq_3, b1K.eq_4, b1K.eq_5, b1K.eq_6, b1K.eq_7, b1K.eq_8, b1K.eq_9, b1K.eq_10, b1K.eq_11, b1K.eq_12, b1K.eq_13, b1K.eq_14, b1K.eq_15, itK, tgFlat, asOk, wpTg.eq_1, wpTg.eq_2, wpTgs.eq_1, wpTgs.eq_2, wipeS, List.set, sl0, List.map, List.replicate, List.length_cons, List.length_nil, Nat.sub_self, Nat.reduceSub, Nat.reduceAdd, List.cons_append, List.nil_append, if_true]
    refine ix0 g ⟨?_, q⟩
    show (flat (grD ⟨g.n, (allp g.n).filter fun p => decide (p ∉ g.es)⟩) || _ || _) = true
    rw [flat_grD]; rfl
end
end W3
namespace W3
open PySem
def sp36 : List D → (D → Prop) → Prop := fun ds Q =>
  (∃ (xs : List Nat) (x : D), ds = [x] ∧ (x = .list (xs.map nD) ∨ x = .tuple (xs.map nD)) ∧ xs.length ≤ 1000000 ∧ ∀ out : List Nat, out.Pairwise (ltO nle) → (∀ x, x ∈ out ↔ x ∈ xs) → Q (.tuple (out.map nD))) ∨
  (∃ xs : List (Nat × Nat), ds = [.list (xs.map prD)] ∧ xs.length ≤ 1000000 ∧ ∀ out : List (Nat × Nat), out.Pairwise (ltO ple) → (∀ x, x ∈ out ↔ x ∈ xs) → Q (.tuple (out.map prD)))
def sp38 : List D → (D → Prop) → Prop := fun ds Q => ∃ (n : Nat) (ps : List (Nat × Nat)), ds = [nD n, .list (ps.map prD)] ∧ ps.length ≤ 1000000 ∧
  ∀ es : List (Nat × Nat), es.Pairwise (ltO ple) → (∀ p, p ∈ es ↔ ∃ q ∈ ps, pr q.1 q.2 = p) → Q (grD ⟨n, es⟩)
def sp42 : List D → (D → Prop) → Prop := fun ds Q => ∃ (g : Gr) (ns : List Nat), ds = [grD g, .tuple (ns.map nD)] ∧ g.es.length ≤ 1000000 ∧ (∀ p ∈ g.es, p.1 < ns.length ∧ p.2 < ns.length) ∧
  ∀ es : List (Nat × Nat), es.Pairwise (ltO ple) → (∀ p, p ∈ es ↔ ∃ q ∈ g.es, pr (ns.getD q.1 0) (ns.getD q.2 0) = p) → Q (grD ⟨g.n, es⟩)
def sp44 : List D → (D → Prop) → Prop := fun ds Q => ∃ (dr : List Nat) (a n : Nat), ds = [.list (dr.map nD), nD a, nD n] ∧ dr ≠ [] ∧ n ≤ 1000 ∧
  ∀ ns : List Nat, ns.Nodup → ns.length = n → (∀ x ∈ ns, x < n) → Q (.tuple (ns.map nD))
section
variable {Φ : Fam}
theorem w36 {ds : List D} {Q : D → Prop} (h : sp36 ds Q) : wpB Φ [1] b36 (sl0 N36 ds) 0 { nx := fun _ _ => Q .none, rt := fun d _ => Q d } := by
  rcases h with ⟨xs, x, rfl, h0, h1, h2⟩ | ⟨xs, rfl, h1, h2⟩
  · exact w36_gen ord_nD xs x h0 h1 h2
  · exact w36_gen ord_prD xs _ (.inl rfl) h1 h2
theorem w38 (h36 : Has Φ 36 sp36) (h37 : Has Φ 37 sp37) {ds : List D} {Q : D → Prop} (h : sp38 ds Q) : wpB Φ [] b38 (sl0 N38 ds) 0 { nx := fun _ _ => Q .none, rt := fun d _ => Q d } := by
  obtain ⟨n, ps, rfl, hl, q⟩ := h
  simp only [b38, N38, wpB, wpS, wpE, wpL, wpO, wpOT, wpT, fin, getS, optK, intK.eq_1, boolK.eq_1, truK.eq_1, truK.eq_2, truK.eq_3, truK.eq_4, truK.eq_5, seqK.eq_1, seqK.eq_2, op2, op1, b1K.eq_1, b1K.eq_2, b1K.eq_3, b1K.eq_4, b1K.eq_5, b1K.eq_6, b1K.eq_7, b1K.eq_8, b1K.eq_9, b1K.eq_10, b1K.eq_11, b1K.eq_12, b1K.eq_13, b1K.eq_14, b1K.eq_15, itK, tgFlat, asOk, wpTg.eq_1, wpTg.eq_2, wpTgs.eq_1, wpTgs.eq_2, wipeS, List.set, sl0, List.map, List.replicate, List.length_cons, List.length_nil, Nat.sub_self, Nat.reduceSub, Nat.reduceAdd, List.cons_append, List.nil_append, if_true]
  refine lcW_map prD (fun p => some (prD (pr p.1 p.2))) ps (fun p hp K' k => ?_) ?_
  · simp only [prD, wpB, wpS, wpE, wpL, wpO, wpOT, wpT, fin, getS, optK, intK.eq_1, boolK.eq_1, truK.eq_1, truK.eq_2, truK.eq_3, truK.eq_4, truK.eq_5, seqK.eq_1, seqK.eq_2, op2, op1, b1K.eq_1, b1K.eq_2, b1K.eq_3, b1K.eq_4, b1K.eq_5, b1K.eq_6, b1K.eq_7, b1K.eq_8, b1K.eq_9, b1K.eq_10, b1K.eq_11, b1K.eq_12, b1K.eq_13, b1K.eq_14, b1K.eq_15, itK, tgFlat, asOk, wpTg.eq_1, wpTg.eq_2, wpTgs.eq_1, wpTgs.eq_2, wipeS, List.set, sl0, List.map, List.replicate, List.length_cons, List.length_nil, Nat.sub_self, Nat.reduceSub, Nat.reduceAdd, List.cons_append, List.nil_append, if_true]
    exact h37 _ _ ⟨p.1, p.2, rfl, k⟩
  · rw [List.nil_append, fm_some (fun p : Nat × Nat => prD (pr p.1 p.2))]
    have e : (ps.map fun p => prD (pr p.1 p.2)) = (ps.map fun p => pr p.1 p.2).map prD := by rw [List.map_map]; rfl
    rw [e]
    refine h36 _ _ (.inr ⟨_, rfl, by rw [List.length_map]; exact hl, fun out h1 h2 => ⟨?_, q out h1 fun p => (h2 p).trans List.mem_map⟩⟩)
    show (flat (grD ⟨n, out⟩) || _ || _) = true
    rw [flat_grD]; rfl
theorem ix_nD (ns : List Nat) (i : Nat) (h : i < ns.length) {Q : D → Prop} (q : Q (nD (ns.getD i 0))) : (∀ {x}, x = .tuple (ns.map nD) ∨ x = .list (ns.map nD) → ixK x (.int (i : Int)) Q) := by
  intro x hx
  have key : (-(((ns.map nD).length : Nat) : Int) ≤ i ∧ (i : Int) < (((ns.map nD).length : Nat) : Int)) ∧ ∃ d, (ns.map nD)[atN (ns.map nD).length i]? = some d ∧ Q d := by
    rw [List.length_map]
    refine ⟨⟨by omega, by omega⟩, nD (ns.getD i 0), ?_, q⟩
    unfold atN
    rw [if_neg (by omega), List.getElem?_map, show ((i : Int)).toNat = i by omega, List.getElem?_eq_getElem h, List.getD_eq_getElem?_getD, List.getElem?_eq_getElem h]
    rfl
  rcases hx with rfl | rfl
  · exact key
  · exact key
theorem w42 (h38 : Has Φ 38 sp38) {ds : List D} {Q : D → Prop} (h : sp42 ds Q) : wpB Φ [] b42 (sl0 N42 ds) 0 { nx := fun _ _ => Q .none, rt := fun d _ => Q d } := by
  obtain ⟨g, ns, rfl, hl, hb, q⟩ := h
  simp only [b42, N42, wpB, wpS, wpE, wpL, wpO, wpOT, wpT, fin, getS, optK, intK.eq_1, boolK.eq_1, truK.eq_1, truK.eq_2, truK.eq_3, truK.eq_4, truK.eq_5, seqK.eq_1, seqK.eq_2, op2, op1, b1K.eq_1, b1K.eq_2, b1K.eq_3, b1K.eq_4, b1K.eq_5, b1K.eq_6, b1K.eq_7, b1K.eq_8, b1K.eq_9, b1K.eq_10, b1K.eq_11, b1K.eq_12, b1K.eq_13, b1K.eq_14, b1K.eq_15, itK, tgFlat, asOk, wpTg.eq_1, wpTg.eq_2, wpTgs.eq_1, wpTgs.eq_2, wipeS, List.set, sl0, List.map, List.replicate, List.length_cons, List.length_nil, Nat.sub_self, Nat.reduceSub, Nat.reduceAdd, List.cons_append, List.nil_append, if_true]
  refine ix0 g (ix1 g ?_)
  simp only [wpB, wpS, wpE, wpL, wpO, wpOT, wpT, fin, getS, optK, intK.eq_1, boolK.eq_1, truK.eq_1, truK.eq_2, truK.eq_3, truK.eq_4, truK.eq_5, seqK.eq_1, seqK.eq_2, op2, op1, b1K.eq_1, b1K.eq_2, b1K.eq_3, b1K.eq_4, b1K.eq_5, b1K.eq_6, b1K.eq_7, b1K.eq_8, b1K.eq_9, b1K.eq_10, b1K.eq_11, b1K.eq_12, b1K.eq_13, b1K.eq_14, b1K.eq_15, itK, tgFlat, asOk, wpTg.eq_1, wpTg.eq_2, wpTgs.eq_1, wpTgs.eq_2, wipeS, List.set, sl0, List.map, List.replicate, List.length_cons, List.length_nil, Nat.sub_self, Nat.reduceSub, Nat.reduceAdd, List.cons_append, List.nil_append, if_true]
  refine lcW_map prD (fun p => some (prD (ns.getD p.1 0, ns.getD p.2 0))) g.es (fun p hp K' k => ?_) ?_
  · simp only [prD, nD, wpB, wpS, wpE, wpL, wpO, wpOT, wpT, fin, getS, optK, intK.eq_1, boolK.eq_1, truK.eq_1, truK.eq_2, truK.eq_3, truK.eq_4, truK.eq_5, seqK.eq_1, seqK.eq_2, op2, op1, b1K.eq_1, b1K.eq_2, b1K.eq_3, b1K.eq_4, b1K.eq_5, b1K.eq_6, b1K.eq_7, b1K.eq_8, b1K.eq_9, b1K.eq_10, b1K.eq_11, b1K.eq_12, b1K.eq_13, b1K.eq_14, b1K.eq_15, itK, tgFlat, asOk, wpTg.eq_1, wpTg.eq_2, wpTgs.eq_1, wpTgs.eq_2, wipeS, List.set, sl0, List.map, List.replicate, List.length_cons, List.length_nil, Nat.sub_self, Nat.reduceSub, Nat.reduceAdd, List.cons_append, List.nil_append, if_true]
    refine ix_nD ns p.1 (hb p hp).1 ?_ (.inl rfl)
    exact ix_nD ns p.2 (hb p hp).2 k (.inl rfl)
  · rw [List.nil_append, fm_some (fun p : Nat × Nat => prD (ns.getD p.1 0, ns.getD p.2 0))]
    have e : (g.es.map fun p => prD (ns.getD p.1 0, ns.getD p.2 0)) = (g.es.map fun p => (ns.getD p.1 0, ns.getD p.2 0)).map prD := by rw [List.map_map]; rfl
    rw [e]
    refine h38 _ _ ⟨g.n, _, rfl, by rw [List.length_map]; exact hl, fun es h1 h2 => ⟨?_, q es h1 fun p => (h2 p).trans ?_⟩⟩
    · rw [flat_grD]; rfl
    · constructor
      · rintro ⟨x, hx, rfl⟩
        obtain ⟨y, hy, rfl⟩ := List.mem_map.mp hx
        exact ⟨y, hy, rfl⟩
      · rintro ⟨x, hx, rfl⟩
        exact ⟨_, List.mem_map.mpr ⟨x, hx, rfl⟩, rfl⟩
end
end W3
namespace W3
open PySem
def sp43 : List D → Nat → Kc → Prop := fun ds g Q => ds = [] ∧ g + 40 < 2 ^ 40 ∧ ∀ dr : List Nat, dr.length = 40 → Q (.list (dr.map nD)) (g + 40)
section
variable {Φ : Fam}
theorem w43 (h35 : HasP Φ 35 spPick) {ds : List D} {g : Nat} {Q : Kc} (h : sp43 ds g Q) : wpB Φ [] b43 (none :: sl0 N43.tail ds) g { nx := fun _ g' => Q .none g', rt := Q } := by
  obtain ⟨rfl, hg, q⟩ := h
  simp only [b43, N43, List.tail_cons, wpB, wpS, wpE, wpL, wpO, wpOT, wpT, fin, getS, optK, intK.eq_1, boolK.eq_1, truK.eq_1, truK.eq_2, truK.eq_3, truK.eq_4, truK.eq_5, seqK.eq_1, seqK.eq_2, op2, op1, b1K.eq_1, b1K.eq_2, b1K.eq_3, b1K.eq_4, b1K.eq_5, b1K.eq_6, b1K.eq_7, b1K.eq_8, b1K.eq_9, b1K.eq_10, b1K.eq_11, b1K.eq_12, b1K.eq_13, b1K.eq_14, b1K.eq_15, itK, tgFlat, asOk, wpTg.eq_1, wpTg.eq_2, wpTgs.eq_1, wpTgs.eq_2, wipeS, List.set, sl0, List.map, List.replicate, List.length_cons, List.length_nil, Nat.sub_self, Nat.reduceSub, Nat.reduceAdd, List.cons_append, List.nil_append, if_true]
  refine rng1 40 (by omega) ?_
  refine lcW_inv nD (fun i acc g' => ∃ dr : List Nat, acc = dr.map nD ∧ dr.length = i ∧ g' = g + i) (List.range 40) 0 ⟨[], rfl, rfl, rfl⟩ ?_ ?_
  · rintro j x acc g' K' hx ⟨dr, rfl, hd, rfl⟩ hk
    obtain ⟨hj, _⟩ := List.getElem?_eq_some_iff.mp hx
    rw [List.length_range] at hj
    refine h35 _ _ _ ⟨4096, rfl, by omega, by omega, fun r hr => hk _ _ ⟨dr ++ [r], by simp [nD], by simp; omega, by omega⟩⟩
  · rintro acc g' ⟨dr, rfl, hd, rfl⟩
    rw [List.length_range] at hd
    refine ⟨?_, ?_⟩
    · have : (flats (dr.map nD)) = true := flats_map _ flat_nD _
      show (false || ((dr.map nD).all fun d => flat d || frs _ d) || false) = true
      rw [flats_all] at this
      have h2 : ((dr.map nD).all fun d => flat d || frs (.callP 35 [.cst (.int 4096)]) d) = true := List.all_eq_true.mpr fun d hd => by
        rw [List.all_eq_true.mp this d hd]; rfl
      rw [h2]; rfl
    · rw [List.length_range]
      exact q dr (by omega)
theorem emod_ok (x m : Int) (h : 0 < m) : 0 ≤ x % m ∧ x % m < m := ⟨Int.emod_nonneg x (by omega), Int.emod_lt_of_pos x h⟩
theorem w33 {ds : List D} {Q : D → Prop} (h : spDraws ds Q) : wpB Φ [2] b33 (sl0 N33 ds) 0 { nx := fun _ _ => Q .none, rt := fun d _ => Q d } := by
  obtain ⟨c, n, rfl, hn, q⟩ := h
  simp only [b33, N33, wpB, wpS, wpE, wpL, wpO, wpOT, wpT, fin, getS, optK, intK.eq_1, boolK.eq_1, truK.eq_1, truK.eq_2, truK.eq_3, truK.eq_4, truK.eq_5, seqK.eq_1, seqK.eq_2, op2, op1, b1K.eq_1, b1K.eq_2, b1K.eq_3, b1K.eq_4, b1K.eq_5, b1K.eq_6, b1K.eq_7, b1K.eq_8, b1K.eq_9, b1K.eq_10, b1K.eq_11, b1K.eq_12, b1K.eq_13, b1K.eq_14, b1K.eq_15, itK, tgFlat, asOk, wpTg.eq_1, wpTg.eq_2, wpTgs.eq_1, wpTgs.eq_2, wipeS, List.set, sl0, List.map, List.replicate, List.length_cons, List.length_nil, Nat.sub_self, Nat.reduceSub, Nat.reduceAdd, List.cons_append, List.nil_append, if_true]
  refine ⟨rfl, rfl, rfl, ?_⟩
  refine rng1 n (by omega) ?_
  refine forW_map nD (fun i Γ g => ∃ (rows : List Int) (left : Int) (o4 o5 : Option D), Γ = [some (.int c), some (.int (n : Int)), some (.list (rows.map .int)), some (.int left), o4, o5] ∧ g = 0 ∧ rows.length = i ∧ ∀ x ∈ rows, 0 ≤ x) _ 0 ⟨[], c, none, none, rfl, rfl, rfl, fun _ h => nomatch h⟩ ?_ ?_
  · rintro j k Γ g nx hx ⟨rows, left, o4, o5, rfl, rfl, h1, h2⟩ hk
    rw [Nat.zero_add] at h1 hk
    obtain ⟨hj, ha⟩ := List.getElem?_eq_some_iff.mp hx
    rw [List.length_range] at hj
    rw [List.getElem_range] at ha
    subst ha
    have hb : (rows.map PyData.int).length < big := by rw [List.length_map]; show _ < 16000000; omega
    have app : ∀ (y : Int) (left' : Int) (o5' : Option D), 0 ≤ y → nx [some (.int c), some (.int (n : Int)), some (.list (rows.map .int ++ [.int y])), some (.int left'), some (.int (j : Int)), o5'] 0 := fun y left' o5' hy =>
      hk _ _ ⟨rows ++ [y], left', _, _, by rw [List.map_append]; rfl, rfl, by simp; omega, fun x hx => (List.mem_append.mp hx).elim (h2 x) fun h => by simp at h; omega⟩
    simp only [nD, lstK, wpB, wpS, wpE, wpL, wpO, wpOT, wpT, fin, getS, optK, intK.eq_1, boolK.eq_1, truK.eq_1, truK.eq_2, truK.eq_3, truK.eq_4, truK.eq_5, seqK.eq_1, seqK.eq_2, op2, op1, b1K.eq_1, b1K.eq_2, b1K.eq_3, b1K.eq_4, b1K.eq_5, b1K.eq_6, b1K.eq_7, b1K.eq_8, b1K.eq_9, b1K.eq_10, b1K.eq_11, b1K.eq_12, b1K.eq_13, b1K.eq_14, b1K.eq_15, itK, tgFlat, asOk, wpTg.eq_1, wpTg.eq_2, wpTgs.eq_1, wpTgs.eq_2, wipeS, List.set, sl0, List.map, List.replicate, List.length_cons, List.length_nil, Nat.sub_self, Nat.reduceSub, Nat.reduceAdd, List.cons_append, List.nil_append, if_true]
    refine ⟨⟨by decide, by decide, by decide, by decide⟩, ?_⟩
    cases hd : decide ((10 : Int) ^ Int.toNat 18 ≤ c) with
    | true =>
      refine ifT rfl ?_
      cases hd2 : decide (0 < left) with
      | true =>
        refine ifT rfl ?_
        exact ⟨rfl, by decide, ⟨rfl, hb⟩, ⟨by decide, by decide⟩, rfl, app _ _ _ (emod_ok _ _ (by decide)).1⟩
      | false =>
        refine ifF rfl ?_
        refine ⟨.inr ⟨by decide, by decide⟩, .inr ⟨by decide, by decide⟩, by decide, rfl, ?_⟩
        have e1 := emod_ok (c * 48271 + ((j : Int) + 1) * 69621) 2147483647 (by decide)
        generalize (c * 48271 + ((j : Int) + 1) * 69621) % 2147483647 = b1 at e1 ⊢
        refine ⟨.inl ⟨by omega, by omega⟩, .inr ⟨by decide, by decide⟩, .inr ⟨by decide, by decide⟩, by decide, rfl, ?_⟩
        have e2 := emod_ok (b1 * b1 + b1 * 16807 + (j : Int) * 7919) 2147483629 (by decide)
        generalize (b1 * b1 + b1 * 16807 + (j : Int) * 7919) % 2147483629 = b2 at e2 ⊢
        refine ⟨.inl ⟨by omega, by omega⟩, .inl ⟨by decide, by decide⟩, by decide, rfl, ?_⟩
        generalize (b2 * b2 + c + 13 * (j : Int)) % 2147483587 = b3
        exact ⟨rfl, ⟨by decide, by decide⟩, by decide, ⟨rfl, hb⟩, app _ _ _ (emod_ok _ _ (by decide)).1⟩
    | false =>
      refine ifF rfl ?_
      refine ⟨.inr ⟨by decide, by decide⟩, .inr ⟨by decide, by decide⟩, by decide, rfl, ?_⟩
      have e1 := emod_ok (c * 48271 + ((j : Int) + 1) * 69621) 2147483647 (by decide)
      generalize (c * 48271 + ((j : Int) + 1) * 69621) % 2147483647 = b1 at e1 ⊢
      refine ⟨.inl ⟨by omega, by omega⟩, .inr ⟨by decide, by decide⟩, .inr ⟨by decide, by decide⟩, by decide, rfl, ?_⟩
      have e2 := emod_ok (b1 * b1 + b1 * 16807 + (j : Int) * 7919) 2147483629 (by decide)
      generalize (b1 * b1 + b1 * 16807 + (j : Int) * 7919) % 2147483629 = b2 at e2 ⊢
      refine ⟨.inl ⟨by omega, by omega⟩, .inl ⟨by decide, by decide⟩, by decide, rfl, ?_⟩
      generalize (b2 * b2 + c + 13 * (j : Int)) % 2147483587 = b3
      exact ⟨rfl, ⟨by decide, by decide⟩, by decide, ⟨rfl, hb⟩, app _ _ _ (emod_ok _ _ (by decide)).1⟩
  · rintro Γ g ⟨rows, left, o4, o5, rfl, rfl, h1, h2⟩
    rw [Nat.zero_add, List.length_range] at h1
    simp only [wpB, wpS, wpE, wpL, wpO, wpOT, wpT, fin, getS, optK, intK.eq_1, boolK.eq_1, truK.eq_1, truK.eq_2, truK.eq_3, truK.eq_4, truK.eq_5, seqK.eq_1, seqK.eq_2, op2, op1, b1K.eq_1, b1K.eq_2, b1K.eq_3, b1K.eq_4, b1K.eq_5, b1K.eq_6, b1K.eq_7, b1K.eq_8, b1K.eq_9, b1K.eq_10, b1K.eq_11, b1K.eq_12, b1K.eq_13, b1K.eq_14, b1K.eq_15, itK, tgFlat, asOk, wpTg.eq_1, wpTg.eq_2, wpTgs.eq_1, wpTgs.eq_2, wipeS, List.set, sl0, List.map, List.replicate, List.length_cons, List.length_nil, Nat.sub_self, Nat.reduceSub, Nat.reduceAdd, List.cons_append, List.nil_append, if_true]
    exact ⟨by simp, q rows h1 h2⟩
end
end W3
namespace W3
open PySem
theorem erase_map {α β : Type} (f : α → β) : ∀ (l : List α) (k : Nat), (l.eraseIdx k).map f = (l.map f).eraseIdx k
  | [], _ => rfl
  | x :: l, 0 => rfl
  | x :: l, k + 1 => by
    show f x :: (l.eraseIdx k).map f = f x :: (l.map f).eraseIdx k
    rw [erase_map f l k]
theorem erase_perm {α : Type} : ∀ (l : List α) (k : Nat) (h : k < l.length), (l[k] :: l.eraseIdx k).Perm l
  | x :: l, 0, h => .refl _
  | x :: l, k + 1, h => by
    have := erase_perm l k (by simpa using h)
    exact (List.Perm.swap x _ _).trans (this.cons x)
section
variable {Φ : Fam}
theorem w44 {ds : List D} {Q : D → Prop} (h : sp44 ds Q) : wpB Φ [3, 4] b44 (sl0 N44 ds) 0 { nx := fun _ _ => Q .none, rt := fun d _ => Q d } := by
  obtain ⟨dr, a, n, rfl, hdr, hn, q⟩ := h
  have hdl : 0 < dr.length := List.length_pos_iff.mpr hdr
  simp only [b44, N44, wpB, wpS, wpE, wpL, wpO, wpOT, wpT, fin, getS, optK, intK.eq_1, boolK.eq_1, truK.eq_1, truK.eq_2, truK.eq_3, truK.eq_4, truK.eq_5, seqK.eq_1, seqK.eq_2, op2, op1, b1K.eq_1, b1K.eq_2, b1K.eq_3, b1K.eq_4, b1K.eq_5, b1K.eq_6, b1K.eq_7, b1K.eq_8, b1K.eq_9, b1K.eq_10, b1K.eq_11, b1K.eq_12, b1K.eq_13, b1K.eq_14, b1K.eq_15, itK, tgFlat, asOk, wpTg.eq_1, wpTg.eq_2, wpTgs.eq_1, wpTgs.eq_2, wipeS, List.set, sl0, List.map, List.replicate, List.length_cons, List.length_nil, Nat.sub_self, Nat.reduceSub, Nat.reduceAdd, List.cons_append, List.nil_append, if_true]
  refine rng1 n (by omega) ?_
  simp only [Bool.false_eq_true, if_false, wpB, wpS, wpE, wpL, wpO, wpOT, wpT, fin, getS, optK, intK.eq_1, boolK.eq_1, truK.eq_1, truK.eq_2, truK.eq_3, truK.eq_4, truK.eq_5, seqK.eq_1, seqK.eq_2, op2, op1, b1K.eq_1, b1K.eq_2, b1K.eq_3, b1K.eq_4, b1K.eq_5, b1K.eq_6, b1K.eq_7, b1K.eq_8, b1K.eq_9, b1K.eq_10, b1K.eq_11, b1K.eq_12, b1K.eq_13, b1K.eq_14, b1K.eq_15, itK, tgFlat, asOk, wpTg.eq_1, wpTg.eq_2, wpTgs.eq_1, wpTgs.eq_2, wipeS, List.set, sl0, List.map, List.replicate, List.length_cons, List.length_nil, Nat.sub_self, Nat.reduceSub, Nat.reduceAdd, List.cons_append, List.nil_append, if_true]
  refine ⟨by rfl, rfl, rfl, rng1 n (by omega) ?_⟩
  refine forW_map nD (fun i Γ g => ∃ (left found : List Nat) (o5 : Option D), Γ = [some (.list (dr.map nD)), some (nD a), some (nD n), some (.list (left.map nD)), some (.tuple (found.map nD)), o5] ∧ g = 0 ∧ found.length = i ∧ left.length + i = n ∧ (found ++ left).Nodup ∧ ∀ x ∈ found ++ left, x < n) _ 0
    ⟨List.range n, [], none, rfl, rfl, rfl, by simp, by simpa using List.nodup_range, by simp⟩ ?_ ?_
  · rintro j k Γ g nx hx ⟨left, found, o5, rfl, rfl, h1, h2, h3, h4⟩ hk
    rw [Nat.zero_add] at h1 h2 hk
    obtain ⟨hj, ha⟩ := List.getElem?_eq_some_iff.mp hx
    rw [List.length_range] at hj
    rw [List.getElem_range] at ha
    subst ha
    have hb : big = 16000000 := rfl
    simp only [nD, lstK, wpB, wpS, wpE, wpL, wpO, wpOT, wpT, fin, getS, optK, intK.eq_1, boolK.eq_1, truK.eq_1, truK.eq_2, truK.eq_3, truK.eq_4, truK.eq_5, seqK.eq_1, seqK.eq_2, op2, op1, b1K.eq_1, b1K.eq_2, b1K.eq_3, b1K.eq_4, b1K.eq_5, b1K.eq_6, b1K.eq_7, b1K.eq_8, b1K.eq_9, b1K.eq_10, b1K.eq_11, b1K.eq_12, b1K.eq_13, b1K.eq_14, b1K.eq_15, itK, tgFlat, asOk, wpTg.eq_1, wpTg.eq_2, wpTgs.eq_1, wpTgs.eq_2, wipeS, List.set, sl0, List.map, List.replicate, List.length_cons, List.length_nil, Nat.sub_self, Nat.reduceSub, Nat.reduceAdd, List.cons_append, List.nil_append, if_true]
    refine ⟨⟨rfl, by decide⟩, ⟨flats_map _ flat_nD _, by rw [List.length_map]; omega⟩, by rw [List.length_map]; omega, ?_⟩
    have e1 := emod_ok ((a : Int) + (j : Int)) (((dr.map nD).length : Nat) : Int) (by rw [List.length_map]; omega)
    generalize ((a : Int) + (j : Int)) % (((dr.map nD).length : Nat) : Int) = i1 at e1 ⊢
    rw [List.length_map] at e1
    obtain ⟨m1, rfl⟩ := Int.eq_ofNat_of_zero_le e1.1
    refine ix_nD dr m1 (by omega) ?_ (.inr rfl)
    simp only [nD, wpB, wpS, wpE, wpL, wpO, wpOT, wpT, fin, getS, optK, intK.eq_1, boolK.eq_1, truK.eq_1, truK.eq_2, truK.eq_3, truK.eq_4, truK.eq_5, seqK.eq_1, seqK.eq_2, op2, op1, b1K.eq_1, b1K.eq_2, b1K.eq_3, b1K.eq_4, b1K.eq_5, b1K.eq_6, b1K.eq_7, b1K.eq_8, b1K.eq_9, b1K.eq_10, b1K.eq_11, b1K.eq_12, b1K.eq_13, b1K.eq_14, b1K.eq_15, itK, tgFlat, asOk, wpTg.eq_1, wpTg.eq_2, wpTgs.eq_1, wpTgs.eq_2, wipeS, List.set, sl0, List.map, List.replicate, List.length_cons, List.length_nil, Nat.sub_self, Nat.reduceSub, Nat.reduceAdd, List.cons_append, List.nil_append, if_true]
    refine ⟨by rw [List.length_map]; omega, ?_⟩
    have e2 := emod_ok ((dr.getD m1 0 : Nat) : Int) (((left.map nD).length : Nat) : Int) (by rw [List.length_map]; omega)
    generalize ((dr.getD m1 0 : Nat) : Int) % (((left.map nD).length : Nat) : Int) = i2 at e2 ⊢
    rw [List.length_map] at e2
    obtain ⟨m2, rfl⟩ := Int.eq_ofNat_of_zero_le e2.1
    have hm2 : m2 < left.length := by omega
    have et : ((m2 : Int)).toNat = m2 := by omega
    refine ⟨⟨by omega, by rw [List.length_map]; omega⟩, nD left[m2], ?_, ⟨flats_map _ flat_nD _, by rw [List.length_map]; omega⟩, ?_⟩
    · rw [et, List.getElem?_map, List.getElem?_eq_getElem hm2]; rfl
    · rw [et]
      refine hk _ _ ⟨left.eraseIdx m2, found ++ [left[m2]], some (nD j), ?_, rfl, by simp; omega, ?_, ?_, ?_⟩
      · rw [List.map_append]
        have : (left.eraseIdx m2).map nD = (left.map nD).eraseIdx m2 := erase_map nD left m2
        rw [this]
        rfl
      · rw [List.length_eraseIdx_of_lt hm2]; omega
      · have hp : (found ++ [left[m2]] ++ left.eraseIdx m2).Perm (found ++ left) := by
          rw [List.append_assoc]
          refine List.Perm.append_left found ?_
          exact erase_perm left m2 hm2
        exact hp.nodup_iff.mpr h3
      · have hp : (found ++ [left[m2]] ++ left.eraseIdx m2).Perm (found ++ left) := by
          rw [List.append_assoc]
          refine List.Perm.append_left found ?_
          exact erase_perm left m2 hm2
        exact fun x hx => h4 x (hp.mem_iff.mp hx)
  · rintro Γ g ⟨left, found, o5, rfl, rfl, h1, h2, h3, h4⟩
    rw [Nat.zero_add, List.length_range] at h1
    simp only [wpB, wpS, wpE, wpL, wpO, wpOT, wpT, fin, getS, optK, intK.eq_1, boolK.eq_1, truK.eq_1, truK.eq_2, truK.eq_3, truK.eq_4, truK.eq_5, seqK.eq_1, seqK.eq_2, op2, op1, b1K.eq_1, b1K.eq_2, b1K.eq_3, b1K.eq_4, b1K.eq_5, b1K.eq_6, b1K.eq_7, b1K.eq_8, b1K.eq_9, b1K.eq_10, b1K.eq_11, b1K.eq_12, b1K.eq_13, b1K.eq_14, b1K.eq_15, itK, tgFlat, asOk, wpTg.eq_1, wpTg.eq_2, wpTgs.eq_1, wpTgs.eq_2, wipeS, List.set, sl0, List.map, List.replicate, List.length_cons, List.length_nil, Nat.sub_self, Nat.reduceSub, Nat.reduceAdd, List.cons_append, List.nil_append, if_true]
    refine ⟨?_, q found (List.nodup_append.mp h3).1 h1 fun x hx => h4 x (List.mem_append_left _ hx)⟩
    show (flats (found.map nD) || _ || _) = true
    rw [flats_map _ flat_nD]; rfl
end
end W3
namespace W3
open PySem
/-- pairs of two different numbers below n, not too many -/
structure PO (n L : Nat) (ps : List (Nat × Nat)) : Prop where
  rng : ∀ p ∈ ps, p.1 ≠ p.2 ∧ p.1 < n ∧ p.2 < n
  len : ps.length ≤ L
def sp40 : List D → Nat → Kc → Prop := fun ds g Q => ∃ low most : Nat, ds = [nD low, nD most] ∧ low ≤ most ∧ most ≤ 10 ∧ g + 2000 < 2 ^ 40 ∧ ∀ G : Gr, Ok G → low ≤ G.n → G.n ≤ most → ∀ g', g' ≤ g + 2000 → Q (grD G) g'
section
variable {Φ : Fam}
theorem wpB_seq (M : Φ.Mono) {O : Own} {s : Sc} {ss : List Sc} {Γ : Sl} {g : Nat} {K : Ke} (I : Sl → Nat → Prop) (h : wpS Φ O s Γ g { K with nx := I }) (k : ∀ Γ g, I Γ g → wpB Φ O ss Γ g K) : wpB Φ O (s :: ss) Γ g K :=
  wpS_mono M (K := { K with nx := I }) ⟨k, fun _ _ z => z, fun _ _ z => z, fun _ _ z => z⟩ h
/-- the slots of _law_drawn from the third row on -/
def slW (low most n way share : Nat) (ps : List (Nat × Nat)) (o : List (Option D)) : Sl := none :: some (nD low) :: some (nD most) :: some (nD n) :: some (nD way) :: some (nD share) :: some (.list (ps.map prD)) :: o
/-- what holds between the ways -/
def ID (low most n way share L c : Nat) (Γ : Sl) (g : Nat) : Prop := ∃ (ps : List (Nat × Nat)) (o7 o8 o9 o10 o11 o12 o13 o14 : Option D), Γ = slW low most n way share ps [o7, o8, o9, o10, o11, o12, o13, o14] ∧ PO n L ps ∧ g ≤ c
theorem eq_nD {way k : Nat} : PyData.eqv (nD way) (.int (k : Int)) = decide (way = k) := eqv_nD way k
theorem frs_lc {α : Type} (e : α → D) (he : ∀ x, flat (e x) = true) {own : List Nat} {tg : Tg} {rg : Bool} {es : List Ex} {t : Option Ex} {c : Ex} (l : List α) : frs (.lc own tg rg es t c) (.list (l.map e)) = true := by
  show ((l.map e).all fun d => flat d || frs c d) = true
  refine List.all_eq_true.mpr fun d hd => ?_
  obtain ⟨x, _, rfl⟩ := List.mem_map.mp hd
  rw [he]; rfl
theorem rng1n (n : Nat) (hn : n ≤ 1000000) {Q : List D → Prop} (q : Q (((List.range (n - 1)).map fun k => 1 + k).map nD)) : rngK [.int 1, .int (n : Int)] Q := by
  have := rng2 0 n (by omega) hn (Q := Q) (by simpa using q)
  simpa using this
theorem PO.nil (n L : Nat) : PO n L [] := ⟨fun _ h => (nomatch h), by simp⟩
theorem PO.mono {n L L' : Nat} {ps : List (Nat × Nat)} (h : PO n L ps) (hl : L ≤ L') : PO n L' ps := ⟨h.rng, Nat.le_trans h.len hl⟩
theorem get_mid {α : Type} {l : List α} {j : Nat} {x : α} (h : l[j]? = some x) : x ∈ l := List.mem_of_getElem? h
theorem d_way0 (h35 : HasP Φ 35 spPick) {low most n way share c : Nat} {ps : List (Nat × Nat)} {o7 o8 o9 o10 o11 o12 o13 o14 : Option D} {g : Nat} {R : Kc} (hn : n ≤ 10) (hp : PO n 100 ps) (hg : g ≤ c) (hc : c + 100 < 2 ^ 40) :
    wpS Φ [6] (.ite (.op .eq (.slot 4) (.cst (.int 0))) [.set (.nm 6) (.lc [7] (.nm 7) true [(.cst (.int 1)), (.slot 3)] none (.tup [(.slot 7), (.callP 35 [(.slot 7)])]))] []) (slW low most n way share ps [o7, o8, o9, o10, o11, o12, o13, o14]) g { nx := ID low most n way share 100 (c + 100), rt := R } := by
  simp only [slW, wpB, wpS, wpE, wpL, wpO, wpOT, wpT, fin, getS, optK, intK.eq_1, boolK.eq_1, truK.eq_1, truK.eq_2, truK.eq_3, truK.eq_4, truK.eq_5, seqK.eq_1, seqK.eq_2, op2, op1, b1K.eq_1, b1K.eq_2, b1K.eq_3, b1K.eq_4, b1K.eq_5, b1K.eq_6, b1K.eq_7, b1K.eq_8, b1K.eq_9, b1K.eq_10, b1K.eq_11, b1K.eq_12, b1K.eq_13, b1K.eq_14, b1K.eq_15, itK, tgFlat, asOk, wpTg.eq_1, wpTg.eq_2, wpTgs.eq_1, wpTgs.eq_2, wipeS, List.set, sl0, List.map, List.replicate, List.length_cons, List.length_nil, Nat.sub_self, Nat.reduceSub, Nat.reduceAdd, List.cons_append, List.nil_append, if_true]
  refine ⟨shp_nD way, ?_⟩
  have e0 : PyData.eqv (nD way) (.int 0) = decide (way = 0) := eqv_nD way 0
  cases hw : PyData.eqv (nD way) (.int 0) with
  | false => exact ifF rfl ⟨ps, o7, o8, o9, o10, o11, o12, o13, o14, rfl, hp, by omega⟩
  | true =>
    refine ifT rfl ?_
    simp only [nD]
    refine rng1n n (by omega) ?_
    refine lcW_inv nD (fun i acc g' => ∃ qs : List (Nat × Nat), acc = qs.map prD ∧ (∀ p ∈ qs, p.1 ≠ p.2 ∧ p.1 < n ∧ p.2 < n) ∧ qs.length ≤ i ∧ g' ≤ c + i) _ 0 ⟨[], rfl, (fun _ h => nomatch h), Nat.le_refl _, hg⟩ ?_ ?_
    · rintro j a acc g' K' hx ⟨qs, rfl, h1, h2, h3⟩ hk
      rw [Nat.zero_add] at h2 h3 hk
      have ha : 1 ≤ a ∧ a < n := by
        obtain ⟨y, hy, rfl⟩ := List.mem_map.mp (get_mid hx)
        rw [List.mem_range] at hy
        omega
      have hj : j < n := by
        have := (List.getElem?_eq_some_iff.mp hx).1
        simp at this
        omega
      refine h35 _ _ _ ⟨a, rfl, by omega, by omega, fun r hr => hk _ _ ⟨qs ++ [(a, r)], by rw [List.map_append]; rfl, fun p hp => ?_, by simp; omega, by omega⟩⟩
      rcases List.mem_append.mp hp with z | z
      · exact h1 p z
      · rw [List.mem_singleton] at z
        subst z
        exact ⟨by show a ≠ r; omega, ha.2, by show r < n; omega⟩
    · rintro acc g' ⟨qs, rfl, h1, h2, h3⟩
      simp only [List.length_map, List.length_range, Nat.zero_add] at h2 h3
      refine ⟨?_, qs, o7, o8, o9, o10, o11, o12, o13, o14, ?_, ⟨h1, by omega⟩, by omega⟩
      · rw [frs_lc prD flat_prD]; exact Bool.or_true _
      · rfl
theorem d_way1 (h35 : HasP Φ 35 spPick) {low most n way share c : Nat} {ps : List (Nat × Nat)} {o7 o8 o9 o10 o11 o12 o13 o14 : Option D} {g : Nat} {R : Kc} (hn : n ≤ 10) (hp : PO n 100 ps) (hg : g ≤ c) (hc : c + 100 < 2 ^ 40) :
    wpS Φ [6] (.ite (.op .eq (.slot 4) (.cst (.int 1))) [.set (.nm 6) (.op .add (.lc [7] (.nm 7) true [(.slot 3)] (some (.op .gt (.slot 3) (.cst (.int 2)))) (.tup [(.slot 7), (.op .mod (.op .add (.slot 7) (.cst (.int 1))) (.slot 3))])) (.lc [13] (.nm 13) false [(.slot 6)] (some (.op .eq (.callP 35 [(.cst (.int 6))]) (.cst (.int 0)))) (.slot 13)))] [])
      (slW low most n way share ps [o7, o8, o9, o10, o11, o12, o13, o14]) g { nx := ID low most n way share 110 (c + 100), rt := R } := by
  have hl := hp.len
  simp only [slW, wpB, wpS, wpE, wpL, wpO, wpOT, wpT, fin, getS, optK, intK.eq_1, boolK.eq_1, truK.eq_1, truK.eq_2, truK.eq_3, truK.eq_4, truK.eq_5, seqK.eq_1, seqK.eq_2, op2, op1, b1K.eq_1, b1K.eq_2, b1K.eq_3, b1K.eq_4, b1K.eq_5, b1K.eq_6, b1K.eq_7, b1K.eq_8, b1K.eq_9, b1K.eq_10, b1K.eq_11, b1K.eq_12, b1K.eq_13, b1K.eq_14, b1K.eq_15, itK, tgFlat, asOk, wpTg.eq_1, wpTg.eq_2, wpTgs.eq_1, wpTgs.eq_2, wipeS, List.set, sl0, List.map, List.replicate, List.length_cons, List.length_nil, Nat.sub_self, Nat.reduceSub, Nat.reduceAdd, List.cons_append, List.nil_append, if_true]
  refine ⟨shp_nD way, ?_⟩
  cases hw : PyData.eqv (nD way) (.int 1) with
  | false => exact ifF rfl ⟨ps, o7, o8, o9, o10, o11, o12, o13, o14, rfl, hp.mono (by omega), by omega⟩
  | true =>
    refine ifT rfl ?_
    refine rng1 n (by omega) ?_
    refine lcW_map nD (fun a => if decide (2 < n) = true then some (prD (a, (a + 1) % n)) else none) _ (fun a ha K' k => ?_) ?_
    · simp only [nD, wpB, wpS, wpE, wpL, wpO, wpOT, wpT, fin, getS, optK, intK.eq_1, boolK.eq_1, truK.eq_1, truK.eq_2, truK.eq_3, truK.eq_4, truK.eq_5, seqK.eq_1, seqK.eq_2, op2, op1, b1K.eq_1, b1K.eq_2, b1K.eq_3, b1K.eq_4, b1K.eq_5, b1K.eq_6, b1K.eq_7, b1K.eq_8, b1K.eq_9, b1K.eq_10, b1K.eq_11, b1K.eq_12, b1K.eq_13, b1K.eq_14, b1K.eq_15, itK, tgFlat, asOk, wpTg.eq_1, wpTg.eq_2, wpTgs.eq_1, wpTgs.eq_2, wipeS, List.set, sl0, List.map, List.replicate, List.length_cons, List.length_nil, Nat.sub_self, Nat.reduceSub, Nat.reduceAdd, List.cons_append, List.nil_append, if_true]
      have ha := List.mem_range.mp ha
      have e2 : decide ((2 : Int) < (n : Int)) = decide (2 < n) := lt_nD 2 n
      cases hd : decide (2 < n) with
      | false =>
        rw [hd] at k e2
        exact ifF e2 k
      | true =>
        rw [hd] at k e2
        refine ifT e2 ⟨by omega, ?_⟩
        have : ((a : Int) + 1) % (n : Int) = (((a + 1) % n : Nat) : Int) := by first | rfl | simp | (rw [Int.natCast_mod]; rfl)
        rw [this]
        exact k
    · have e1 : (List.range n).filterMap (fun a => if decide (2 < n) = true then some (prD (a, (a + 1) % n)) else none) = (((List.range n).map fun a => (a, (a + 1) % n)).filter fun _ => decide (2 < n)).map prD := fm_filter (fun _ => decide (2 < n)) (List.range n) fun a => (a, (a + 1) % n)
      rw [List.nil_append, e1]
      have r1 : ∀ p ∈ ((List.range n).map fun a => (a, (a + 1) % n)).filter fun _ => decide (2 < n), p.1 ≠ p.2 ∧ p.1 < n ∧ p.2 < n := by
        intro p hp
        obtain ⟨h1, h2⟩ := List.mem_filter.mp hp
        obtain ⟨a, ha, rfl⟩ := List.mem_map.mp h1
        have ha := List.mem_range.mp ha
        have h2 : 2 < n := of_decide_eq_true h2
        show a ≠ (a + 1) % n ∧ a < n ∧ (a + 1) % n < n
        refine ⟨?_, ha, Nat.mod_lt _ (by omega)⟩
        rcases Nat.lt_or_ge (a + 1) n with z | z
        · rw [Nat.mod_eq_of_lt z]; omega
        · have : a + 1 = n := by omega
          rw [this, Nat.mod_self]; omega
      have l1 : (((List.range n).map fun a => (a, (a + 1) % n)).filter fun _ => decide (2 < n)).length ≤ 10 := by
        refine Nat.le_trans (List.length_filter_le _ _) ?_
        simpa using hn
      generalize ((List.range n).map fun a => (a, (a + 1) % n)).filter (fun _ => decide (2 < n)) = rs at r1 l1 ⊢
      refine lcW_inv prD (fun i acc g' => ∃ qs : List (Nat × Nat), acc = qs.map prD ∧ (∀ p ∈ qs, p ∈ ps) ∧ qs.length ≤ i ∧ g' ≤ c + i) ps 0 ⟨[], rfl, (fun _ h => nomatch h), Nat.le_refl _, hg⟩ ?_ ?_
      · rintro j p acc g' K' hx ⟨qs, rfl, h1, h2, h3⟩ hk
        rw [Nat.zero_add] at h2 h3 hk
        have hj : j < ps.length := (List.getElem?_eq_some_iff.mp hx).1
        refine h35 _ _ _ ⟨6, rfl, by omega, by omega, fun r hr => ?_⟩
        refine ⟨shp_nD r, ?_⟩
        cases hr0 : PyData.eqv (.int (r : Int)) (.int 0) with
        | false => exact ifF rfl (hk none _ ⟨qs, rfl, h1, by omega, by omega⟩)
        | true => exact ifT rfl (hk (some (prD p)) _ ⟨qs ++ [p], by rw [List.map_append]; rfl, fun x hx' => (List.mem_append.mp hx').elim (h1 x) (fun h => by rw [List.mem_singleton] at h; rw [h]; exact get_mid hx), by simp; omega, by omega⟩)
      · rintro acc g' ⟨qs, rfl, h1, h2, h3⟩
        rw [Nat.zero_add] at h2 h3
        have hb : big = 16000000 := rfl
        refine ⟨by rw [List.length_map, List.length_map]; omega, ?_, rs ++ qs, o7, o8, o9, o10, o11, o12, o13, o14, by rw [← List.map_append]; rfl, ⟨fun p hp' => (List.mem_append.mp hp').elim (r1 p) fun z => hp.rng p (h1 p z), by simp; omega⟩, by omega⟩
        rw [← List.map_append]
        show (false || flats (List.map prD _)) = true
        rw [flats_map _ flat_prD]; rfl
/-- a row of numbers drawn in a comprehension -/
theorem lc_picks (h35 : HasP Φ 35 spPick) {α : Type} (e : α → D) (a : Nat) (ha : 0 < a) {f : D → Nat → (Option D → Nat → Prop) → Prop} (hf : ∀ x g K', Φ.spP 35 [.int (a : Int)] g (fun z g' => K' (some z) g') → f (e x) g K') (l : List α) {g c : Nat} (hg : g ≤ c) (hc : c + l.length < 2 ^ 40) {K : List D → Nat → Prop}
    (q : ∀ (rs : List Nat) g', rs.length = l.length → (∀ x ∈ rs, x < a) → g' ≤ c + l.length → K (rs.map nD) g') : lcW f (l.map e) [] g K := by
  refine lcW_inv e (fun i acc g' => ∃ rs : List Nat, acc = rs.map nD ∧ rs.length = i ∧ (∀ x ∈ rs, x < a) ∧ g' ≤ c + i) l 0 ⟨[], rfl, rfl, (fun _ h => nomatch h), hg⟩ ?_ ?_
  · rintro j x acc g' K' hx ⟨rs, rfl, h1, h2, h3⟩ hk
    rw [Nat.zero_add] at h1 h3 hk
    have hj : j < l.length := (List.getElem?_eq_some_iff.mp hx).1
    refine hf x g' K' (h35 _ _ _ ⟨a, rfl, ha, by omega, fun r hr => hk (some (nD r)) _ ⟨rs ++ [r], by rw [List.map_append]; rfl, by simp; omega, fun y hy => ?_, by omega⟩⟩)
    rcases List.mem_append.mp hy with z | z
    · exact h2 y z
    · rw [List.mem_singleton] at z; omega
  · rintro acc g' ⟨rs, rfl, h1, h2, h3⟩
    rw [Nat.zero_add] at h1 h3
    exact q rs g' h1 h2 h3
end
end W3
namespace W3
open PySem
section
variable {Φ : Fam}
theorem fm_sub (t : Nat × Nat → Bool) (l : List (Nat × Nat)) : l.filterMap (fun x => if t x = true then some (prD x) else none) = (l.filter t).map prD := by
  have := fm_filter t l id
  simpa using this
theorem PO.sub {n L L' : Nat} {ps : List (Nat × Nat)} (h : PO n L ps) (t : Nat × Nat → Bool) (hl : L ≤ L') : PO n L' (ps.filter t) := ⟨fun p hp => h.rng p (List.mem_filter.mp hp).1, Nat.le_trans (List.length_filter_le _ _) (Nat.le_trans h.len hl)⟩
theorem PO.all (n : Nat) (hn : n ≤ 10) : PO n 100 (allp n) := by
  refine ⟨fun p hp => ?_, ?_⟩
  · have := mem_allp.mp hp
    omega
  · have := flen (l := List.range n) (f := ups n) (c := 10) fun a _ => Nat.le_trans (ups_len n a) hn
    rw [List.length_range] at this
    exact Nat.le_trans this (by omega)
theorem d_way3 (h35 : HasP Φ 35 spPick) {low most n way share c : Nat} {ps : List (Nat × Nat)} {o7 o8 o9 o10 o11 o12 o13 o14 : Option D} {g : Nat} {R : Kc} (hn : n ≤ 10) (hp : PO n 110 ps) (hg : g ≤ c) (hc : c + 100 < 2 ^ 40) :
    wpS Φ [6] (.ite (.op .eq (.slot 4) (.cst (.int 3))) [.set (.nm 11) (.lc [7] (.nm 7) true [(.slot 3)] none (.callP 35 [(.cst (.int 2))])), .set (.nm 6) (.lc [7, 8] (.tp [(.nm 7), (.nm 8)]) false [(.slot 6)] (some (.op .ne (.ix (.slot 11) (.slot 7)) (.ix (.slot 11) (.slot 8)))) (.tup [(.slot 7), (.slot 8)]))] [])
      (slW low most n way share ps [o7, o8, o9, o10, o11, o12, o13, o14]) g { nx := ID low most n way share 110 (c + 100), rt := R } := by
  simp only [slW, wpB, wpS, wpE, wpL, wpO, wpOT, wpT, fin, getS, optK, intK.eq_1, boolK.eq_1, truK.eq_1, truK.eq_2, truK.eq_3, truK.eq_4, truK.eq_5, seqK.eq_1, seqK.eq_2, op2, op1, b1K.eq_1, b1K.eq_2, b1K.eq_3, b1K.eq_4, b1K.eq_5, b1K.eq_6, b1K.eq_7, b1K.eq_8, b1K.eq_9, b1K.eq_10, b1K.eq_11, b1K.eq_12, b1K.eq_13, b1K.eq_14, b1K.eq_15, itK, tgFlat, asOk, wpTg.eq_1, wpTg.eq_2, wpTgs.eq_1, wpTgs.eq_2, wipeS, List.set, sl0, List.map, List.replicate, List.length_cons, List.length_nil, Nat.sub_self, Nat.reduceSub, Nat.reduceAdd, List.cons_append, List.nil_append, if_true]
  refine ⟨shp_nD way, ?_⟩
  cases hw : PyData.eqv (nD way) (.int 3) with
  | false => exact ifF rfl ⟨ps, o7, o8, o9, o10, o11, o12, o13, o14, rfl, hp, by omega⟩
  | true =>
    refine ifT rfl ?_
    refine rng1 n (by omega) ?_
    refine lc_picks h35 nD 2 (by omega) (fun x g K' h => h) (List.range n) hg (by rw [List.length_range]; omega) fun rs g' h1 h2 h3 => ?_
    rw [List.length_range] at h1 h3
    refine ⟨by rw [frs_lc nD flat_nD]; exact Bool.or_true _, ?_⟩
    refine lcW_map prD (fun p => if decide (¬ rs.getD p.1 0 = rs.getD p.2 0) = true then some (prD p) else none) ps (fun p hpp K' k => ?_) ?_
    · simp only [prD, nD, wpB, wpS, wpE, wpL, wpO, wpOT, wpT, fin, getS, optK, intK.eq_1, boolK.eq_1, truK.eq_1, truK.eq_2, truK.eq_3, truK.eq_4, truK.eq_5, seqK.eq_1, seqK.eq_2, op2, op1, b1K.eq_1, b1K.eq_2, b1K.eq_3, b1K.eq_4, b1K.eq_5, b1K.eq_6, b1K.eq_7, b1K.eq_8, b1K.eq_9, b1K.eq_10, b1K.eq_11, b1K.eq_12, b1K.eq_13, b1K.eq_14, b1K.eq_15, itK, tgFlat, asOk, wpTg.eq_1, wpTg.eq_2, wpTgs.eq_1, wpTgs.eq_2, wipeS, List.set, sl0, List.map, List.replicate, List.length_cons, List.length_nil, Nat.sub_self, Nat.reduceSub, Nat.reduceAdd, List.cons_append, List.nil_append, if_true]
      have := hp.rng p hpp
      refine ix_nD rs p.1 (by omega) ?_ (.inr rfl)
      refine ix_nD rs p.2 (by omega) ⟨shp_nD _, ?_⟩ (.inr rfl)
      have e2 : (!PyData.eqv (nD (rs.getD p.1 0)) (nD (rs.getD p.2 0))) = decide (¬ rs.getD p.1 0 = rs.getD p.2 0) := by
        rw [eqv_nD]; simp
      cases hd : decide (¬ rs.getD p.1 0 = rs.getD p.2 0) with
      | false =>
        rw [hd] at k e2
        exact ifF e2 k
      | true =>
        rw [hd] at k e2
        exact ifT e2 k
    · rw [List.nil_append, fm_sub]
      refine ⟨by rw [frs_lc prD flat_prD]; exact Bool.or_true _, _, o7, o8, o9, o10, _, o12, o13, o14, rfl, hp.sub _ (by omega), by omega⟩
theorem d_way4 (h35 : HasP Φ 35 spPick) (h41 : Has Φ 41 sp41) {low most n way share c : Nat} {ps : List (Nat × Nat)} {o7 o8 o9 o10 o11 o12 o13 o14 : Option D} {g : Nat} {R : Kc} (hn : n ≤ 10) (hp : PO n 110 ps) (hg : g ≤ c) (hc : c + 100 < 2 ^ 40) :
    wpS Φ [6] (.ite (.op .eq (.slot 4) (.cst (.int 4))) [.set (.nm 11) (.lc [7] (.nm 7) true [(.slot 3)] none (.callP 35 [(.cst (.int 3))])), .set (.nm 6) (.lc [7, 8] (.tp [(.nm 7), (.nm 8)]) false [(.call 41 [(.slot 3)])] (some (.op .gt (.ix (.slot 11) (.mx2 (.slot 7) (.slot 8))) (.cst (.int 0)))) (.tup [(.slot 7), (.slot 8)]))] [])
      (slW low most n way share ps [o7, o8, o9, o10, o11, o12, o13, o14]) g { nx := ID low most n way share 110 (c + 100), rt := R } := by
  simp only [slW, wpB, wpS, wpE, wpL, wpO, wpOT, wpT, fin, getS, optK, intK.eq_1, boolK.eq_1, truK.eq_1, truK.eq_2, truK.eq_3, truK.eq_4, truK.eq_5, seqK.eq_1, seqK.eq_2, op2, op1, b1K.eq_1, b1K.eq_2, b1K.eq_3, b1K.eq_4, b1K.eq_5, b1K.eq_6, b1K.eq_7, b1K.eq_8, b1K.eq_9, b1K.eq_10, b1K.eq_11, b1K.eq_12, b1K.eq_13, b1K.eq_14, b1K.eq_15, itK, tgFlat, asOk, wpTg.eq_1, wpTg.eq_2, wpTgs.eq_1, wpTgs.eq_2, wipeS, List.set, sl0, List.map, List.replicate, List.length_cons, List.length_nil, Nat.sub_self, Nat.reduceSub, Nat.reduceAdd, List.cons_append, List.nil_append, if_true]
  refine ⟨shp_nD way, ?_⟩
  cases hw : PyData.eqv (nD way) (.int 4) with
  | false => exact ifF rfl ⟨ps, o7, o8, o9, o10, o11, o12, o13, o14, rfl, hp, by omega⟩
  | true =>
    refine ifT rfl ?_
    refine rng1 n (by omega) ?_
    refine lc_picks h35 nD 3 (by omega) (fun x g K' h => h) (List.range n) hg (by rw [List.length_range]; omega) fun rs g' h1 h2 h3 => ?_
    rw [List.length_range] at h1 h3
    refine ⟨by rw [frs_lc nD flat_nD]; exact Bool.or_true _, ?_⟩
    refine h41 _ _ ⟨n, rfl, by omega, ?_⟩
    refine lcW_map prD (fun p => if decide (0 < rs.getD p.2 0) = true then some (prD p) else none) (allp n) (fun p hpp K' k => ?_) ?_
    · simp only [prD, nD, wpB, wpS, wpE, wpL, wpO, wpOT, wpT, fin, getS, optK, intK.eq_1, boolK.eq_1, truK.eq_1, truK.eq_2, truK.eq_3, truK.eq_4, truK.eq_5, seqK.eq_1, seqK.eq_2, op2, op1, b1K.eq_1, b1K.eq_2, b1K.eq_3, b1K.eq_4, b1K.eq_5, b1K.eq_6, b1K.eq_7, b1K.eq_8, b1K.eq_9, b1K.eq_10, b1K.eq_11, b1K.eq_12, b1K.eq_13, b1K.eq_14, b1K.eq_15, itK, tgFlat, asOk, wpTg.eq_1, wpTg.eq_2, wpTgs.eq_1, wpTgs.eq_2, wipeS, List.set, sl0, List.map, List.replicate, List.length_cons, List.length_nil, Nat.sub_self, Nat.reduceSub, Nat.reduceAdd, List.cons_append, List.nil_append, if_true]
      have := mem_allp.mp hpp
      have em : (if (p.2 : Int) > (p.1 : Int) then (p.2 : Int) else (p.1 : Int)) = (p.2 : Int) := if_pos (by omega)
      rw [em]
      refine ix_nD rs p.2 (by omega) ?_ (.inr rfl)
      simp only [nD, wpB, wpS, wpE, wpL, wpO, wpOT, wpT, fin, getS, optK, intK.eq_1, boolK.eq_1, truK.eq_1, truK.eq_2, truK.eq_3, truK.eq_4, truK.eq_5, seqK.eq_1, seqK.eq_2, op2, op1, b1K.eq_1, b1K.eq_2, b1K.eq_3, b1K.eq_4, b1K.eq_5, b1K.eq_6, b1K.eq_7, b1K.eq_8, b1K.eq_9, b1K.eq_10, b1K.eq_11, b1K.eq_12, b1K.eq_13, b1K.eq_14, b1K.eq_15, itK, tgFlat, asOk, wpTg.eq_1, wpTg.eq_2, wpTgs.eq_1, wpTgs.eq_2, wipeS, List.set, sl0, List.map, List.replicate, List.length_cons, List.length_nil, Nat.sub_self, Nat.reduceSub, Nat.reduceAdd, List.cons_append, List.nil_append, if_true]
      have e2 : decide ((0 : Int) < ((rs.getD p.2 0 : Nat) : Int)) = decide (0 < rs.getD p.2 0) := lt_nD 0 _
      cases hd : decide (0 < rs.getD p.2 0) with
      | false =>
        rw [hd] at k e2
        exact ifF e2 k
      | true =>
        rw [hd] at k e2
        exact ifT e2 k
    · rw [List.nil_append, fm_sub]
      refine ⟨by rw [frs_lc prD flat_prD]; exact Bool.or_true _, _, o7, o8, o9, o10, _, o12, o13, o14, rfl, (PO.all n hn).sub _ (by omega), by omega⟩
theorem d_way2 (h35 : HasP Φ 35 spPick) (h41 : Has Φ 41 sp41) {low most n way share c : Nat} {ps : List (Nat × Nat)} {o7 o8 o9 o10 o11 o12 o13 o14 : Option D} {g : Nat} {R : Kc} (hn : n ≤ 10) (hp : PO n 110 ps) (hg : g ≤ c) (hc : c + 100 < 2 ^ 40) :
    wpS Φ [6] (.ite (.op .eq (.slot 4) (.cst (.int 2))) [.set (.nm 9) (.lc [7] (.nm 7) true [(.slot 3)] none (.callP 35 [(.cst (.int 9))])), .set (.nm 10) (.lc [14] (.nm 14) false [(.slot 9)] none (.op .add (.slot 14) (.callP 35 [(.cst (.int 5))]))), .set (.nm 6) (.lc [7, 8] (.tp [(.nm 7), (.nm 8)]) false [(.call 41 [(.slot 3)])] (some (.and (.op .le (.ix (.slot 9) (.slot 7)) (.ix (.slot 10) (.slot 8))) (.op .le (.ix (.slot 9) (.slot 8)) (.ix (.slot 10) (.slot 7))))) (.tup [(.slot 7), (.slot 8)]))] [])
      (slW low most n way share ps [o7, o8, o9, o10, o11, o12, o13, o14]) g { nx := ID low most n way share 110 (c + 100), rt := R } := by
  simp only [slW, wpB, wpS, wpE, wpL, wpO, wpOT, wpT, fin, getS, optK, intK.eq_1, boolK.eq_1, truK.eq_1, truK.eq_2, truK.eq_3, truK.eq_4, truK.eq_5, seqK.eq_1, seqK.eq_2, op2, op1, b1K.eq_1, b1K.eq_2, b1K.eq_3, b1K.eq_4, b1K.eq_5, b1K.eq_6, b1K.eq_7, b1K.eq_8, b1K.eq_9, b1K.eq_10, b1K.eq_11, b1K.eq_12, b1K.eq_13, b1K.eq_14, b1K.eq_15, itK, tgFlat, asOk, wpTg.eq_1, wpTg.eq_2, wpTgs.eq_1, wpTgs.eq_2, wipeS, List.set, sl0, List.map, List.replicate, List.length_cons, List.length_nil, Nat.sub_self, Nat.reduceSub, Nat.reduceAdd, List.cons_append, List.nil_append, if_true]
  refine ⟨shp_nD way, ?_⟩
  cases hw : PyData.eqv (nD way) (.int 2) with
  | false => exact ifF rfl ⟨ps, o7, o8, o9, o10, o11, o12, o13, o14, rfl, hp, by omega⟩
  | true =>
    refine ifT rfl ?_
    refine rng1 n (by omega) ?_
    refine lc_picks h35 nD 9 (by omega) (fun x g K' h => h) (List.range n) hg (by rw [List.length_range]; omega) fun rs g1 h1 h2 h3 => ?_
    rw [List.length_range] at h1 h3
    refine ⟨by rw [frs_lc nD flat_nD]; exact Bool.or_true _, ?_⟩
    refine lcW_inv nD (fun i acc g' => ∃ ss : List Nat, acc = ss.map nD ∧ ss.length = i ∧ g' ≤ c + n + i) rs 0 ⟨[], rfl, rfl, h3⟩ ?_ ?_
    · rintro j x acc g' K' hx ⟨ss, rfl, k1, k3⟩ hk
      rw [Nat.zero_add] at k1 k3 hk
      have hj : j < rs.length := (List.getElem?_eq_some_iff.mp hx).1
      refine h35 _ _ _ ⟨5, rfl, by omega, by omega, fun r hr => ?_⟩
      simp only [nD, wpB, wpS, wpE, wpL, wpO, wpOT, wpT, fin, getS, optK, intK.eq_1, boolK.eq_1, truK.eq_1, truK.eq_2, truK.eq_3, truK.eq_4, truK.eq_5, seqK.eq_1, seqK.eq_2, op2, op1, b1K.eq_1, b1K.eq_2, b1K.eq_3, b1K.eq_4, b1K.eq_5, b1K.eq_6, b1K.eq_7, b1K.eq_8, b1K.eq_9, b1K.eq_10, b1K.eq_11, b1K.eq_12, b1K.eq_13, b1K.eq_14, b1K.eq_15, itK, tgFlat, asOk, wpTg.eq_1, wpTg.eq_2, wpTgs.eq_1, wpTgs.eq_2, wipeS, List.set, sl0, List.map, List.replicate, List.length_cons, List.length_nil, Nat.sub_self, Nat.reduceSub, Nat.reduceAdd, List.cons_append, List.nil_append, if_true]
      exact hk (some (nD (x + r))) _ ⟨ss ++ [x + r], by rw [List.map_append]; rfl, by simp; omega, by omega⟩
    · rintro acc g' ⟨ss, rfl, k1, k3⟩
      rw [Nat.zero_add] at k1 k3
      refine ⟨by rw [frs_lc nD flat_nD]; exact Bool.or_true _, ?_⟩
      refine h41 _ _ ⟨n, rfl, by omega, ?_⟩
      refine lcW_map prD (fun p => if (decide (rs.getD p.1 0 ≤ ss.getD p.2 0) && decide (rs.getD p.2 0 ≤ ss.getD p.1 0)) = true then some (prD p) else none) (allp n) (fun p hpp K' k => ?_) ?_
      · simp only [prD, nD, wpB, wpS, wpE, wpL, wpO, wpOT, wpT, fin, getS, optK, intK.eq_1, boolK.eq_1, truK.eq_1, truK.eq_2, truK.eq_3, truK.eq_4, truK.eq_5, seqK.eq_1, seqK.eq_2, op2, op1, b1K.eq_1, b1K.eq_2, b1K.eq_3, b1K.eq_4, b1K.eq_5, b1K.eq_6, b1K.eq_7, b1K.eq_8, b1K.eq_9, b1K.eq_10, b1K.eq_11, b1K.eq_12, b1K.eq_13, b1K.eq_14, b1K.eq_15, itK, tgFlat, asOk, wpTg.eq_1, wpTg.eq_2, wpTgs.eq_1, wpTgs.eq_2, wipeS, List.set, sl0, List.map, List.replicate, List.length_cons, List.length_nil, Nat.sub_self, Nat.reduceSub, Nat.reduceAdd, List.cons_append, List.nil_append, if_true]
        have := mem_allp.mp hpp
        have le_nD : ∀ a b : Nat, decide ((a : Int) ≤ (b : Int)) = decide (a ≤ b) := fun a b => by
          by_cases h : a ≤ b
          · simp [h, show (a : Int) ≤ b by omega]
          · simp [h, show ¬ (a : Int) ≤ b by omega]
        refine ix_nD rs p.1 (by omega) ?_ (.inr rfl)
        refine ix_nD ss p.2 (by omega) ?_ (.inr rfl)
        simp only [nD, wpB, wpS, wpE, wpL, wpO, wpOT, wpT, fin, getS, optK, intK.eq_1, boolK.eq_1, truK.eq_1, truK.eq_2, truK.eq_3, truK.eq_4, truK.eq_5, seqK.eq_1, seqK.eq_2, op2, op1, b1K.eq_1, b1K.eq_2, b1K.eq_3, b1K.eq_4, b1K.eq_5, b1K.eq_6, b1K.eq_7, b1K.eq_8, b1K.eq_9, b1K.eq_10, b1K.eq_11, b1K.eq_12, b1K.eq_13, b1K.eq_14, b1K.eq_15, itK, tgFlat, asOk, wpTg.eq_1, wpTg.eq_2, wpTgs.eq_1, wpTgs.eq_2, wipeS, List.set, sl0, List.map, List.replicate, List.length_cons, List.length_nil, Nat.sub_self, Nat.reduceSub, Nat.reduceAdd, List.cons_append, List.nil_append, if_true]
        cases hd : decide (rs.getD p.1 0 ≤ ss.getD p.2 0) with
        | false =>
          rw [hd] at k
          exact ifF ((le_nD _ _).trans hd) k
        | true =>
          rw [hd] at k
          refine ifT ((le_nD _ _).trans hd) ?_
          refine ix_nD rs p.2 (by omega) ?_ (.inr rfl)
          refine ix_nD ss p.1 (by omega) ?_ (.inr rfl)
          simp only [nD, wpB, wpS, wpE, wpL, wpO, wpOT, wpT, fin, getS, optK, intK.eq_1, boolK.eq_1, truK.eq_1, truK.eq_2, truK.eq_3, truK.eq_4, truK.eq_5, seqK.eq_1, seqK.eq_2, op2, op1, b1K.eq_1, b1K.eq_2, b1K.eq_3, b1K.eq_4, b1K.eq_5, b1K.eq_6, b1K.eq_7, b1K.eq_8, b1K.eq_9, b1K.eq_10, b1K.eq_11, b1K.eq_12, b1K.eq_13, b1K.eq_14, b1K.eq_15, itK, tgFlat, asOk, wpTg.eq_1, wpTg.eq_2, wpTgs.eq_1, wpTgs.eq_2, wipeS, List.set, sl0, List.map, List.replicate, List.length_cons, List.length_nil, Nat.sub_self, Nat.reduceSub, Nat.reduceAdd, List.cons_append, List.nil_append, if_true]
          cases hd2 : decide (rs.getD p.2 0 ≤ ss.getD p.1 0) with
          | false =>
            rw [hd2] at k
            exact ifF ((le_nD _ _).trans hd2) k
          | true =>
            rw [hd2] at k
            exact ifT ((le_nD _ _).trans hd2) k
      · rw [List.nil_append, fm_sub]
        refine ⟨by rw [frs_lc prD flat_prD]; exact Bool.or_true _, _, o7, o8, _, _, o11, o12, o13, o14, rfl, (PO.all n hn).sub _ (by omega), by omega⟩
theorem d_pairs (h35 : HasP Φ 35 spPick) {low most n way share c : Nat} {g : Nat} {R : Kc} (hn : n ≤ 10) (hg : g ≤ c) (hc : c + 200 < 2 ^ 40) :
    wpS Φ [6] (.for_ (.nm 7) true [(.slot 3)] [.for_ (.nm 8) true [(.slot 7)] [.ite (.op .lt (.callP 35 [(.cst (.int 10))]) (.slot 5)) [.app 6 (.tup [(.slot 7), (.slot 8)])] []]])
      (slW low most n way share [] [none, none, none, none, none, none, none, none]) g { nx := ID low most n way share 100 (c + 100), rt := R } := by
  simp only [slW, wpB, wpS, wpE, wpL, wpO, wpOT, wpT, fin, getS, optK, intK.eq_1, boolK.eq_1, truK.eq_1, truK.eq_2, truK.eq_3, truK.eq_4, truK.eq_5, seqK.eq_1, seqK.eq_2, op2, op1, b1K.eq_1, b1K.eq_2, b1K.eq_3, b1K.eq_4, b1K.eq_5, b1K.eq_6, b1K.eq_7, b1K.eq_8, b1K.eq_9, b1K.eq_10, b1K.eq_11, b1K.eq_12, b1K.eq_13, b1K.eq_14, b1K.eq_15, itK, tgFlat, asOk, wpTg.eq_1, wpTg.eq_2, wpTgs.eq_1, wpTgs.eq_2, wipeS, List.set, sl0, List.map, List.replicate, List.length_cons, List.length_nil, Nat.sub_self, Nat.reduceSub, Nat.reduceAdd, List.cons_append, List.nil_append, if_true]
  refine ⟨rfl, rng1 n (by omega) ?_⟩
  refine forW_map nD (fun i Γ g' => ∃ (ps : List (Nat × Nat)) (o7 o8 : Option D), Γ = slW low most n way share ps [o7, o8, none, none, none, none, none, none] ∧ (∀ p ∈ ps, p.1 ≠ p.2 ∧ p.1 < n ∧ p.2 < n) ∧ ps.length ≤ 10 * i ∧ g' ≤ c + 10 * i) _ 0 ⟨[], none, none, rfl, (fun _ h => nomatch h), by simp, by omega⟩ ?_ ?_
  · rintro i a Γ g' nx hx ⟨ps, o7, o8, rfl, h1, h2, h3⟩ hk
    rw [Nat.zero_add] at h2 h3 hk
    obtain ⟨hi, ha⟩ := List.getElem?_eq_some_iff.mp hx
    rw [List.length_range] at hi
    rw [List.getElem_range] at ha
    subst ha
    simp only [slW, wpB, wpS, wpE, wpL, wpO, wpOT, wpT, fin, getS, optK, intK.eq_1, boolK.eq_1, truK.eq_1, truK.eq_2, truK.eq_3, truK.eq_4, truK.eq_5, seqK.eq_1, seqK.eq_2, op2, op1, b1K.eq_1, b1K.eq_2, b1K.eq_3, b1K.eq_4, b1K.eq_5, b1K.eq_6, b1K.eq_7, b1K.eq_8, b1K.eq_9, b1K.eq_10, b1K.eq_11, b1K.eq_12, b1K.eq_13, b1K.eq_14, b1K.eq_15, itK, tgFlat, asOk, wpTg.eq_1, wpTg.eq_2, wpTgs.eq_1, wpTgs.eq_2, wipeS, List.set, sl0, List.map, List.replicate, List.length_cons, List.length_nil, Nat.sub_self, Nat.reduceSub, Nat.reduceAdd, List.cons_append, List.nil_append, if_true]
    refine ⟨rfl, rng1 i (by omega) ?_⟩
    refine forW_map nD (fun j Γ g' => ∃ (ps : List (Nat × Nat)) (o8 : Option D), Γ = slW low most n way share ps [some (nD i), o8, none, none, none, none, none, none] ∧ (∀ p ∈ ps, p.1 ≠ p.2 ∧ p.1 < n ∧ p.2 < n) ∧ ps.length ≤ 10 * i + j ∧ g' ≤ c + 10 * i + j) _ 0 ⟨ps, o8, rfl, h1, h2, h3⟩ ?_ ?_
    · rintro j b Γ g' nx2 hx2 ⟨ps, o8, rfl, h1, h2, h3⟩ hk2
      rw [Nat.zero_add] at h2 h3 hk2
      obtain ⟨hj, hb⟩ := List.getElem?_eq_some_iff.mp hx2
      rw [List.length_range] at hj
      rw [List.getElem_range] at hb
      subst hb
      simp only [slW, nD, lstK, wpB, wpS, wpE, wpL, wpO, wpOT, wpT, fin, getS, optK, intK.eq_1, boolK.eq_1, truK.eq_1, truK.eq_2, truK.eq_3, truK.eq_4, truK.eq_5, seqK.eq_1, seqK.eq_2, op2, op1, b1K.eq_1, b1K.eq_2, b1K.eq_3, b1K.eq_4, b1K.eq_5, b1K.eq_6, b1K.eq_7, b1K.eq_8, b1K.eq_9, b1K.eq_10, b1K.eq_11, b1K.eq_12, b1K.eq_13, b1K.eq_14, b1K.eq_15, itK, tgFlat, asOk, wpTg.eq_1, wpTg.eq_2, wpTgs.eq_1, wpTgs.eq_2, wipeS, List.set, sl0, List.map, List.replicate, List.length_cons, List.length_nil, Nat.sub_self, Nat.reduceSub, Nat.reduceAdd, List.cons_append, List.nil_append, if_true]
      refine h35 _ _ _ ⟨10, rfl, by omega, by omega, fun r hr => ?_⟩
      simp only [wpB, wpS, wpE, wpL, wpO, wpOT, wpT, fin, getS, optK, intK.eq_1, boolK.eq_1, truK.eq_1, truK.eq_2, truK.eq_3, truK.eq_4, truK.eq_5, seqK.eq_1, seqK.eq_2, op2, op1, b1K.eq_1, b1K.eq_2, b1K.eq_3, b1K.eq_4, b1K.eq_5, b1K.eq_6, b1K.eq_7, b1K.eq_8, b1K.eq_9, b1K.eq_10, b1K.eq_11, b1K.eq_12, b1K.eq_13, b1K.eq_14, b1K.eq_15, itK, tgFlat, asOk, wpTg.eq_1, wpTg.eq_2, wpTgs.eq_1, wpTgs.eq_2, wipeS, List.set, sl0, List.map, List.replicate, List.length_cons, List.length_nil, Nat.sub_self, Nat.reduceSub, Nat.reduceAdd, List.cons_append, List.nil_append, if_true]
      have hbig : big = 16000000 := rfl
      cases hd : decide ((r : Int) < (share : Int)) with
      | false => exact ifF rfl (hk2 _ _ ⟨ps, some (nD j), rfl, h1, by omega, by omega⟩)
      | true =>
        refine ifT rfl ⟨rfl, ⟨rfl, by rw [List.length_map]; omega⟩, hk2 _ _ ⟨ps ++ [(i, j)], some (nD j), ?_, fun p hp => ?_, by simp; omega, by omega⟩⟩
        · unfold slW
          rw [List.map_append]
          rfl
        · rcases List.mem_append.mp hp with z | z
          · exact h1 p z
          · rw [List.mem_singleton] at z
            subst z
            exact ⟨by show i ≠ j; omega, hi, by show j < n; omega⟩
    · rintro Γ g' ⟨ps, o8, rfl, h1, h2, h3⟩
      rw [Nat.zero_add, List.length_range] at h2 h3
      exact hk _ _ ⟨ps, some (nD i), o8, rfl, h1, by omega, by omega⟩
  · rintro Γ g' ⟨ps, o7, o8, rfl, h1, h2, h3⟩
    rw [Nat.zero_add, List.length_range] at h2 h3
    exact ⟨ps, o7, o8, none, none, none, none, none, none, rfl, ⟨h1, by omega⟩, by omega⟩
end
end W3
namespace W3
open PySem
theorem pr_ok {a b n : Nat} (h : a ≠ b) (ha : a < n) (hb : b < n) : (pr a b).1 < (pr a b).2 ∧ (pr a b).2 < n := by
  unfold pr
  split
  · exact ⟨by show a < b; omega, by show b < n; omega⟩
  · exact ⟨by show b < a; omega, by show a < n; omega⟩
theorem ok_made {n : Nat} {ps es : List (Nat × Nat)} (h : ∀ p ∈ ps, p.1 ≠ p.2 ∧ p.1 < n ∧ p.2 < n) (h1 : es.Pairwise (ltO ple)) (h2 : ∀ p, p ∈ es ↔ ∃ q ∈ ps, pr q.1 q.2 = p) : Ok ⟨n, es⟩ := ⟨h1, fun p hp => by
  obtain ⟨q, hq, rfl⟩ := (h2 p).mp hp
  have := h q hq
  exact pr_ok this.1 this.2.1 this.2.2⟩
theorem ok_other (g : Gr) : Ok ⟨g.n, (allp g.n).filter fun p => decide (p ∉ g.es)⟩ := ⟨(allp_srt g.n).filter _, fun p hp => mem_allp.mp (List.mem_filter.mp hp).1⟩
theorem ok_len {g : Gr} (h : Ok g) : g.es.length ≤ g.n * g.n := by
  have h1 : g.es.length ≤ (allp g.n).length := nodup_len (lt_nodup h.srt) fun p hp => mem_allp.mpr (h.rng p hp)
  have h2 := flen (l := List.range g.n) (f := ups g.n) (c := g.n) fun a _ => ups_len g.n a
  rw [List.length_range] at h2
  exact Nat.le_trans h1 h2
section
variable {Φ : Fam}
theorem w40 (M : Φ.Mono) (h35 : HasP Φ 35 spPick) (h38 : Has Φ 38 sp38) (h39 : Has Φ 39 sp39) (h41 : Has Φ 41 sp41) (h42 : Has Φ 42 sp42) (h43 : HasP Φ 43 sp43) (h44 : Has Φ 44 sp44) {ds : List D} {g : Nat} {Q : Kc} (h : sp40 ds g Q) :
    wpB Φ [6] b40 (none :: sl0 N40.tail ds) g { nx := fun _ g' => Q .none g', rt := Q } := by
  obtain ⟨low, most, rfl, hlm, hm, hg, q⟩ := h
  unfold b40
  refine wpB_seq M (fun Γ g1 => ∃ n, Γ = [none, some (nD low), some (nD most), some (nD n), none, none, none, none, none, none, none, none, none, none, none] ∧ low ≤ n ∧ n ≤ most ∧ g1 = g + 1) ?_ ?_
  · simp only [N40, List.tail_cons, nD, wpB, wpS, wpE, wpL, wpO, wpOT, wpT, fin, getS, optK, intK.eq_1, boolK.eq_1, truK.eq_1, truK.eq_2, truK.eq_3, truK.eq_4, truK.eq_5, seqK.eq_1, seqK.eq_2, op2, op1, b1K.eq_1, b1K.eq_2, b1K.eq_3, b1K.eq_4, b1K.eq_5, b1K.eq_6, b1K.eq_7, b1K.eq_8, b1K.eq_9, b1K.eq_10, b1K.eq_11, b1K.eq_12, b1K.eq_13, b1K.eq_14, b1K.eq_15, itK, tgFlat, asOk, wpTg.eq_1, wpTg.eq_2, wpTgs.eq_1, wpTgs.eq_2, wipeS, List.set, sl0, List.map, List.replicate, List.length_cons, List.length_nil, Nat.sub_self, Nat.reduceSub, Nat.reduceAdd, List.cons_append, List.nil_append, if_true]
    have e : (most : Int) - (low : Int) + 1 = ((most - low + 1 : Nat) : Int) := by omega
    rw [e]
    refine h35 _ _ _ ⟨_, rfl, by omega, by omega, fun r hr => ?_⟩
    simp only [wpB, wpS, wpE, wpL, wpO, wpOT, wpT, fin, getS, optK, intK.eq_1, boolK.eq_1, truK.eq_1, truK.eq_2, truK.eq_3, truK.eq_4, truK.eq_5, seqK.eq_1, seqK.eq_2, op2, op1, b1K.eq_1, b1K.eq_2, b1K.eq_3, b1K.eq_4, b1K.eq_5, b1K.eq_6, b1K.eq_7, b1K.eq_8, b1K.eq_9, b1K.eq_10, b1K.eq_11, b1K.eq_12, b1K.eq_13, b1K.eq_14, b1K.eq_15, itK, tgFlat, asOk, wpTg.eq_1, wpTg.eq_2, wpTgs.eq_1, wpTgs.eq_2, wipeS, List.set, sl0, List.map, List.replicate, List.length_cons, List.length_nil, Nat.sub_self, Nat.reduceSub, Nat.reduceAdd, List.cons_append, List.nil_append, if_true]
    exact ⟨rfl, low + r, by first | rfl | trivial, by omega, by omega, by first | rfl | trivial⟩
  rintro Γ g1 ⟨n, rfl, hn1, hn2, rfl⟩
  refine wpB_seq M (fun Γ g1 => ∃ way, Γ = [none, some (nD low), some (nD most), some (nD n), some (nD way), none, none, none, none, none, none, none, none, none, none] ∧ g1 = g + 2) ?_ ?_
  · simp only [wpB, wpS, wpE, wpL, wpO, wpOT, wpT, fin, getS, optK, intK.eq_1, boolK.eq_1, truK.eq_1, truK.eq_2, truK.eq_3, truK.eq_4, truK.eq_5, seqK.eq_1, seqK.eq_2, op2, op1, b1K.eq_1, b1K.eq_2, b1K.eq_3, b1K.eq_4, b1K.eq_5, b1K.eq_6, b1K.eq_7, b1K.eq_8, b1K.eq_9, b1K.eq_10, b1K.eq_11, b1K.eq_12, b1K.eq_13, b1K.eq_14, b1K.eq_15, itK, tgFlat, asOk, wpTg.eq_1, wpTg.eq_2, wpTgs.eq_1, wpTgs.eq_2, wipeS, List.set, sl0, List.map, List.replicate, List.length_cons, List.length_nil, Nat.sub_self, Nat.reduceSub, Nat.reduceAdd, List.cons_append, List.nil_append, if_true]
    exact h35 _ _ _ ⟨8, rfl, by omega, by omega, fun r hr => ⟨rfl, r, by first | rfl | trivial, by first | rfl | trivial⟩⟩
  rintro Γ g1 ⟨way, rfl, rfl⟩
  refine wpB_seq M (fun Γ g1 => ∃ share, Γ = [none, some (nD low), some (nD most), some (nD n), some (nD way), some (nD share), none, none, none, none, none, none, none, none, none] ∧ g1 = g + 3) ?_ ?_
  · simp only [wpB, wpS, wpE, wpL, wpO, wpOT, wpT, fin, getS, optK, intK.eq_1, boolK.eq_1, truK.eq_1, truK.eq_2, truK.eq_3, truK.eq_4, truK.eq_5, seqK.eq_1, seqK.eq_2, op2, op1, b1K.eq_1, b1K.eq_2, b1K.eq_3, b1K.eq_4, b1K.eq_5, b1K.eq_6, b1K.eq_7, b1K.eq_8, b1K.eq_9, b1K.eq_10, b1K.eq_11, b1K.eq_12, b1K.eq_13, b1K.eq_14, b1K.eq_15, itK, tgFlat, asOk, wpTg.eq_1, wpTg.eq_2, wpTgs.eq_1, wpTgs.eq_2, wipeS, List.set, sl0, List.map, List.replicate, List.length_cons, List.length_nil, Nat.sub_self, Nat.reduceSub, Nat.reduceAdd, List.cons_append, List.nil_append, if_true]
    exact h35 _ _ _ ⟨7, rfl, by omega, by omega, fun r hr => ⟨rfl, 2 + r, by first | rfl | trivial, by first | rfl | trivial⟩⟩
  rintro Γ g1 ⟨share, rfl, rfl⟩
  refine wpB_seq M (fun Γ g1 => Γ = slW low most n way share [] [none, none, none, none, none, none, none, none] ∧ g1 = g + 3) ?_ ?_
  · simp only [wpB, wpS, wpE, wpL, wpO, wpOT, wpT, fin, getS, optK, intK.eq_1, boolK.eq_1, truK.eq_1, truK.eq_2, truK.eq_3, truK.eq_4, truK.eq_5, seqK.eq_1, seqK.eq_2, op2, op1, b1K.eq_1, b1K.eq_2, b1K.eq_3, b1K.eq_4, b1K.eq_5, b1K.eq_6, b1K.eq_7, b1K.eq_8, b1K.eq_9, b1K.eq_10, b1K.eq_11, b1K.eq_12, b1K.eq_13, b1K.eq_14, b1K.eq_15, itK, tgFlat, asOk, wpTg.eq_1, wpTg.eq_2, wpTgs.eq_1, wpTgs.eq_2, wipeS, List.set, sl0, List.map, List.replicate, List.length_cons, List.length_nil, Nat.sub_self, Nat.reduceSub, Nat.reduceAdd, List.cons_append, List.nil_append, if_true]
    exact ⟨rfl, by first | rfl | trivial, by first | rfl | trivial⟩
  rintro Γ g1 ⟨rfl, rfl⟩
  refine wpB_seq M (ID low most n way share 100 (g + 103)) (d_pairs h35 (by omega) (by omega) (by omega)) ?_
  rintro Γ g1 ⟨ps, o7, o8, o9, o10, o11, o12, o13, o14, rfl, hp, hg1⟩
  refine wpB_seq M (ID low most n way share 100 (g + 203)) (d_way0 h35 (by omega) hp hg1 (by omega)) ?_
  rintro Γ g1 ⟨ps, o7, o8, o9, o10, o11, o12, o13, o14, rfl, hp, hg1⟩
  refine wpB_seq M (ID low most n way share 110 (g + 303)) (d_way1 h35 (by omega) hp hg1 (by omega)) ?_
  rintro Γ g1 ⟨ps, o7, o8, o9, o10, o11, o12, o13, o14, rfl, hp, hg1⟩
  refine wpB_seq M (ID low most n way share 110 (g + 403)) (d_way2 h35 h41 (by omega) hp hg1 (by omega)) ?_
  rintro Γ g1 ⟨ps, o7, o8, o9, o10, o11, o12, o13, o14, rfl, hp, hg1⟩
  refine wpB_seq M (ID low most n way share 110 (g + 503)) (d_way3 h35 (by omega) hp hg1 (by omega)) ?_
  rintro Γ g1 ⟨ps, o7, o8, o9, o10, o11, o12, o13, o14, rfl, hp, hg1⟩
  refine wpB_seq M (ID low most n way share 110 (g + 603)) (d_way4 h35 h41 (by omega) hp hg1 (by omega)) ?_
  rintro Γ g1 ⟨ps, o7, o8, o9, o10, o11, o12, o13, o14, rfl, hp, hg1⟩
  refine wpB_seq M (fun Γ g1 => ∃ (G : Gr), G.n = n ∧ Ok G ∧ Γ = slW low most n way share ps [o7, o8, o9, o10, o11, some (grD G), o13, o14] ∧ g1 ≤ g + 603) ?_ ?_
  · simp only [slW, wpB, wpS, wpE, wpL, wpO, wpOT, wpT, fin, getS, optK, intK.eq_1, boolK.eq_1, truK.eq_1, truK.eq_2, truK.eq_3, truK.eq_4, truK.eq_5, seqK.eq_1, seqK.eq_2, op2, op1, b1K.eq_1, b1K.eq_2, b1K.eq_3, b1K.eq_4, b1K.eq_5, b1K.eq_6, b1K.eq_7, b1K.eq_8, b1K.eq_9, b1K.eq_10, b1K.eq_11, b1K.eq_12, b1K.eq_13, b1K.eq_14, b1K.eq_15, itK, tgFlat, asOk, wpTg.eq_1, wpTg.eq_2, wpTgs.eq_1, wpTgs.eq_2, wipeS, List.set, sl0, List.map, List.replicate, List.length_cons, List.length_nil, Nat.sub_self, Nat.reduceSub, Nat.reduceAdd, List.cons_append, List.nil_append, if_true]
    refine h38 _ _ ⟨n, ps, rfl, by have := hp.len; omega, fun es h1 h2 => ⟨?_, ⟨n, es⟩, rfl, ok_made hp.rng h1 h2, rfl, hg1⟩⟩
    rw [flat_grD]; rfl
  rintro Γ g1 ⟨G, hGn, hG, rfl, hg1⟩
  refine wpB_seq M (fun Γ g1 => ∃ (G : Gr), G.n = n ∧ Ok G ∧ Γ = slW low most n way share ps [o7, o8, o9, o10, o11, some (grD G), o13, o14] ∧ g1 ≤ g + 604) ?_ ?_
  · simp only [slW, wpB, wpS, wpE, wpL, wpO, wpOT, wpT, fin, getS, optK, intK.eq_1, boolK.eq_1, truK.eq_1, truK.eq_2, truK.eq_3, truK.eq_4, truK.eq_5, seqK.eq_1, seqK.eq_2, op2, op1, b1K.eq_1, b1K.eq_2, b1K.eq_3, b1K.eq_4, b1K.eq_5, b1K.eq_6, b1K.eq_7, b1K.eq_8, b1K.eq_9, b1K.eq_10, b1K.eq_11, b1K.eq_12, b1K.eq_13, b1K.eq_14, b1K.eq_15, itK, tgFlat, asOk, wpTg.eq_1, wpTg.eq_2, wpTgs.eq_1, wpTgs.eq_2, wipeS, List.set, sl0, List.map, List.replicate, List.length_cons, List.length_nil, Nat.sub_self, Nat.reduceSub, Nat.reduceAdd, List.cons_append, List.nil_append, if_true]
    refine h35 _ _ _ ⟨5, rfl, by omega, by omega, fun r hr => ⟨shp_nD r, ?_⟩⟩
    cases hr0 : PyData.eqv (.int (r : Int)) (.int 0) with
    | false => exact ifF rfl ⟨G, hGn, hG, rfl, by omega⟩
    | true =>
      refine ifT rfl (h39 _ _ ⟨G, rfl, by omega, ?_, ⟨G.n, (allp G.n).filter fun p => decide (p ∉ G.es)⟩, hGn, ok_other G, rfl, by omega⟩)
      rw [flat_grD]; rfl
  rintro Γ g1 ⟨G, hGn, hG, rfl, hg1⟩
  simp only [slW, wpB, wpS, wpE, wpL, wpO, wpOT, wpT, fin, getS, optK, intK.eq_1, boolK.eq_1, truK.eq_1, truK.eq_2, truK.eq_3, truK.eq_4, truK.eq_5, seqK.eq_1, seqK.eq_2, op2, op1, b1K.eq_1, b1K.eq_2, b1K.eq_3, b1K.eq_4, b1K.eq_5, b1K.eq_6, b1K.eq_7, b1K.eq_8, b1K.eq_9, b1K.eq_10, b1K.eq_11, b1K.eq_12, b1K.eq_13, b1K.eq_14, b1K.eq_15, itK, tgFlat, asOk, wpTg.eq_1, wpTg.eq_2, wpTgs.eq_1, wpTgs.eq_2, wipeS, List.set, sl0, List.map, List.replicate, List.length_cons, List.length_nil, Nat.sub_self, Nat.reduceSub, Nat.reduceAdd, List.cons_append, List.nil_append, if_true]
  refine h43 _ _ _ ⟨rfl, by omega, fun dr hdr => ?_⟩
  refine h44 _ _ ⟨dr, 0, n, rfl, (fun e => by rw [e] at hdr; simp at hdr), by omega, fun ns k1 k2 k3 => ?_⟩
  have hl := ok_len hG
  have hnn : G.n * G.n ≤ 10 * 10 := Nat.mul_le_mul (by omega) (by omega)
  refine h42 _ _ ⟨G, ns, rfl, by omega, fun p hp => ?_, fun es h1 h2 => ⟨?_, ?_⟩⟩
  · have := hG.rng p hp
    omega
  · rw [flat_grD]; rfl
  · refine q ⟨G.n, es⟩ ⟨h1, fun p hp => ?_⟩ (by show low ≤ G.n; omega) (by show G.n ≤ most; omega) _ (by omega)
    obtain ⟨e, he, rfl⟩ := (h2 p).mp hp
    have hr := hG.rng e he
    have i1 : e.1 < ns.length := by omega
    have i2 : e.2 < ns.length := by omega
    have g1 : ns.getD e.1 0 = ns[e.1] := by rw [List.getD_eq_getElem?_getD, List.getElem?_eq_getElem i1]; rfl
    have g2 : ns.getD e.2 0 = ns[e.2] := by rw [List.getD_eq_getElem?_getD, List.getElem?_eq_getElem i2]; rfl
    rw [g1, g2]
    refine pr_ok (fun z => ?_) (by show _ < G.n; have := k3 _ (List.getElem_mem i1); omega) (by show _ < G.n; have := k3 _ (List.getElem_mem i2); omega)
    have := (List.getElem_inj k1).mp z
    omega
end
end W3
namespace W3
open PySem
/-- a graph whose edges are these pairs -/
structure Made (n : Nat) (ps : List (Nat × Nat)) (g : Gr) : Prop where
  n : g.n = n
  srt : g.es.Pairwise (ltO ple)
  mem : ∀ p, p ∈ g.es ↔ ∃ q ∈ ps, pr q.1 q.2 = p
  len : g.es.length ≤ ps.length
theorem Made.ok {n : Nat} {ps : List (Nat × Nat)} {g : Gr} (h : Made n ps g) (hp : ∀ p ∈ ps, p.1 ≠ p.2 ∧ p.1 < n ∧ p.2 < n) : Ok g := ⟨h.srt, fun p hpp => by
  obtain ⟨q, hq, rfl⟩ := (h.mem p).mp hpp
  have := hp q hq
  rw [h.n]
  exact pr_ok this.1 this.2.1 this.2.2⟩
def ringP (n : Nat) : List (Nat × Nat) := (List.range n).map fun a => (a, (a + 1) % n)
def shiftP (n : Nat) (es : List (Nat × Nat)) : List (Nat × Nat) := es.map fun p => (p.1 + n, p.2 + n)
def sp83 : List D → (D → Prop) → Prop := fun ds Q => ∃ n : Nat, ds = [nD n] ∧ 0 < n ∧ n < 64 ∧ ∀ g, Made n (ringP n) g → Q (grD g)
def sp12 : List D → (D → Prop) → Prop := fun ds Q => ∃ a b : Gr, ds = [grD a, grD b] ∧ a.n + b.n ≤ 8 ∧ Ok a ∧ Ok b ∧ a.es.length + b.es.length < 64 ∧ ∀ g, Made (a.n + b.n) (a.es ++ shiftP a.n b.es) g → Q (grD g)
section
variable {Φ : Fam}
theorem mod_nat (a n : Nat) : ((a : Int) + 1) % (n : Int) = (((a + 1) % n : Nat) : Int) := by first | rfl | simp | (rw [Int.natCast_mod]; rfl)
theorem w83 (h9 : Has Φ 9 sp9) {ds : List D} {Q : D → Prop} (h : sp83 ds Q) : wpB Φ [] b83 (sl0 N83 ds) 0 { nx := fun _ _ => Q .none, rt := fun d _ => Q d } := by
  obtain ⟨n, rfl, h0, hn, q⟩ := h
  simp only [b83, N83, wpB, wpS, wpE, wpL, wpO, wpOT, wpT, fin, getS, optK, intK.eq_1, boolK.eq_1, truK.eq_1, truK.eq_2, truK.eq_3, truK.eq_4, truK.eq_5, seqK.eq_1, seqK.eq_2, op2, op1, b1K.eq_1, b1K.eq_2, b1K.eq_3, b1K.eq_4, b1K.eq_5, b1K.eq_6, b1K.eq_7, b1K.eq_8, b1K.eq_9, b1K.eq_10, b1K.eq_11, b1K.eq_12, b1K.eq_13, b1K.eq_14, b1K.eq_15, itK, tgFlat, asOk, wpTg.eq_1, wpTg.eq_2, wpTgs.eq_1, wpTgs.eq_2, wipeS, List.set, sl0, List.map, List.replicate, List.length_cons, List.length_nil, Nat.sub_self, Nat.reduceSub, Nat.reduceAdd, List.cons_append, List.nil_append, if_true]
  refine rng1 n (by omega) ?_
  refine lcW_map nD (fun a => some (prD (a, (a + 1) % n))) _ (fun a ha K' k => ?_) ?_
  · simp only [nD, wpB, wpS, wpE, wpL, wpO, wpOT, wpT, fin, getS, optK, intK.eq_1, boolK.eq_1, truK.eq_1, truK.eq_2, truK.eq_3, truK.eq_4, truK.eq_5, seqK.eq_1, seqK.eq_2, op2, op1, b1K.eq_1, b1K.eq_2, b1K.eq_3, b1K.eq_4, b1K.eq_5, b1K.eq_6, b1K.eq_7, b1K.eq_8, b1K.eq_9, b1K.eq_10, b1K.eq_11, b1K.eq_12, b1K.eq_13, b1K.eq_14, b1K.eq_15, itK, tgFlat, asOk, wpTg.eq_1, wpTg.eq_2, wpTgs.eq_1, wpTgs.eq_2, wipeS, List.set, sl0, List.map, List.replicate, List.length_cons, List.length_nil, Nat.sub_self, Nat.reduceSub, Nat.reduceAdd, List.cons_append, List.nil_append, if_true]
    refine ⟨by omega, ?_⟩
    rw [mod_nat]
    exact k
  · rw [List.nil_append, fm_some (fun a => prD (a, (a + 1) % n))]
    have e : ((List.range n).map fun a => prD (a, (a + 1) % n)) = (ringP n).map prD := by unfold ringP; rw [List.map_map]; rfl
    rw [e]
    refine h9 _ _ ⟨n, ringP n, _, rfl, .inl rfl, by simp [ringP]; omega, fun p hp => ?_, fun es h1 h2 h3 => ⟨?_, q ⟨n, es⟩ ⟨rfl, h1, h2, h3⟩⟩⟩
    · obtain ⟨a, ha, rfl⟩ := List.mem_map.mp hp
      have ha := List.mem_range.mp ha
      have := Nat.mod_lt (a + 1) h0
      exact ⟨by show a < 64; omega, by show (a + 1) % n < 64; omega⟩
    · rw [flat_grD]; rfl
theorem w12 (h9 : Has Φ 9 sp9) {ds : List D} {Q : D → Prop} (h : sp12 ds Q) : wpB Φ [] b12 (sl0 N12 ds) 0 { nx := fun _ _ => Q .none, rt := fun d _ => Q d } := by
  obtain ⟨a, b, rfl, hn, ha, hb, hl, q⟩ := h
  simp only [b12, N12, gd, wpB, wpS, wpE, wpL, wpO, wpOT, wpT, fin, getS, optK, intK.eq_1, boolK.eq_1, truK.eq_1, truK.eq_2, truK.eq_3, truK.eq_4, truK.eq_5, seqK.eq_1, seqK.eq_2, op2, op1, b1K.eq_1, b1K.eq_2, b1K.eq_3, b1K.eq_4, b1K.eq_5, b1K.eq_6, b1K.eq_7, b1K.eq_8, b1K.eq_9, b1K.eq_10, b1K.eq_11, b1K.eq_12, b1K.eq_13, b1K.eq_14, b1K.eq_15, itK, tgFlat, asOk, wpTg.eq_1, wpTg.eq_2, wpTgs.eq_1, wpTgs.eq_2, wipeS, List.set, sl0, List.map, List.replicate, List.length_cons, List.length_nil, Nat.sub_self, Nat.reduceSub, Nat.reduceAdd, List.cons_append, List.nil_append, if_true]
  refine ix0 a ⟨rfl, ?_⟩
  refine ix0 b ?_
  simp only [nD, wpB, wpS, wpE, wpL, wpO, wpOT, wpT, fin, getS, optK, intK.eq_1, boolK.eq_1, truK.eq_1, truK.eq_2, truK.eq_3, truK.eq_4, truK.eq_5, seqK.eq_1, seqK.eq_2, op2, op1, b1K.eq_1, b1K.eq_2, b1K.eq_3, b1K.eq_4, b1K.eq_5, b1K.eq_6, b1K.eq_7, b1K.eq_8, b1K.eq_9, b1K.eq_10, b1K.eq_11, b1K.eq_12, b1K.eq_13, b1K.eq_14, b1K.eq_15, itK, tgFlat, asOk, wpTg.eq_1, wpTg.eq_2, wpTgs.eq_1, wpTgs.eq_2, wipeS, List.set, sl0, List.map, List.replicate, List.length_cons, List.length_nil, Nat.sub_self, Nat.reduceSub, Nat.reduceAdd, List.cons_append, List.nil_append, if_true]
  refine ifF (by simp; omega) ?_
  refine ix0 b ?_
  simp only [nD, wpB, wpS, wpE, wpL, wpO, wpOT, wpT, fin, getS, optK, intK.eq_1, boolK.eq_1, truK.eq_1, truK.eq_2, truK.eq_3, truK.eq_4, truK.eq_5, seqK.eq_1, seqK.eq_2, op2, op1, b1K.eq_1, b1K.eq_2, b1K.eq_3, b1K.eq_4, b1K.eq_5, b1K.eq_6, b1K.eq_7, b1K.eq_8, b1K.eq_9, b1K.eq_10, b1K.eq_11, b1K.eq_12, b1K.eq_13, b1K.eq_14, b1K.eq_15, itK, tgFlat, asOk, wpTg.eq_1, wpTg.eq_2, wpTgs.eq_1, wpTgs.eq_2, wipeS, List.set, sl0, List.map, List.replicate, List.length_cons, List.length_nil, Nat.sub_self, Nat.reduceSub, Nat.reduceAdd, List.cons_append, List.nil_append, if_true]
  refine ix1 a ?_
  refine ix1 b ?_
  simp only [wpB, wpS, wpE, wpL, wpO, wpOT, wpT, fin, getS, optK, intK.eq_1, boolK.eq_1, truK.eq_1, truK.eq_2, truK.eq_3, truK.eq_4, truK.eq_5, seqK.eq_1, seqK.eq_2, op2, op1, b1K.eq_1, b1K.eq_2, b1K.eq_3, b1K.eq_4, b1K.eq_5, b1K.eq_6, b1K.eq_7, b1K.eq_8, b1K.eq_9, b1K.eq_10, b1K.eq_11, b1K.eq_12, b1K.eq_13, b1K.eq_14, b1K.eq_15, itK, tgFlat, asOk, wpTg.eq_1, wpTg.eq_2, wpTgs.eq_1, wpTgs.eq_2, wipeS, List.set, sl0, List.map, List.replicate, List.length_cons, List.length_nil, Nat.sub_self, Nat.reduceSub, Nat.reduceAdd, List.cons_append, List.nil_append, if_true]
  refine lcW_map prD (fun p => some (prD (p.1 + a.n, p.2 + a.n))) b.es (fun p hp K' k => ?_) ?_
  · simp only [prD, nD, wpB, wpS, wpE, wpL, wpO, wpOT, wpT, fin, getS, optK, intK.eq_1, boolK.eq_1, truK.eq_1, truK.eq_2, truK.eq_3, truK.eq_4, truK.eq_5, seqK.eq_1, seqK.eq_2, op2, op1, b1K.eq_1, b1K.eq_2, b1K.eq_3, b1K.eq_4, b1K.eq_5, b1K.eq_6, b1K.eq_7, b1K.eq_8, b1K.eq_9, b1K.eq_10, b1K.eq_11, b1K.eq_12, b1K.eq_13, b1K.eq_14, b1K.eq_15, itK, tgFlat, asOk, wpTg.eq_1, wpTg.eq_2, wpTgs.eq_1, wpTgs.eq_2, wipeS, List.set, sl0, List.map, List.replicate, List.length_cons, List.length_nil, Nat.sub_self, Nat.reduceSub, Nat.reduceAdd, List.cons_append, List.nil_append, if_true]
    exact k
  · rw [List.nil_append, fm_some (fun p : Nat × Nat => prD (p.1 + a.n, p.2 + a.n))]
    have e : (b.es.map fun p => prD (p.1 + a.n, p.2 + a.n)) = (shiftP a.n b.es).map prD := by unfold shiftP; rw [List.map_map]; rfl
    rw [e]
    have l2 : (shiftP a.n b.es).length = b.es.length := by unfold shiftP; rw [List.length_map]
    have hbig : big = 16000000 := rfl
    refine ⟨by rw [List.length_map, List.length_map, l2]; omega, ?_⟩
    rw [← List.map_append]
    refine h9 _ _ ⟨a.n + b.n, a.es ++ shiftP a.n b.es, _, rfl, .inr rfl, by rw [List.length_append, l2]; omega, fun p hp => ?_, fun es h1 h2 h3 => ⟨?_, q ⟨a.n + b.n, es⟩ ⟨rfl, h1, h2, h3⟩⟩⟩
    · rcases List.mem_append.mp hp with z | z
      · have := ha.rng p z; omega
      · obtain ⟨y, hy, rfl⟩ := List.mem_map.mp z
        have := hb.rng y hy
        exact ⟨by show y.1 + a.n < 64; omega, by show y.2 + a.n < 64; omega⟩
    · rw [flat_grD]; rfl
end
end W3
namespace W3
open PySem
def crossP (n m : Nat) : List (Nat × Nat) := (List.range n).flatMap fun a => (List.range (m - n)).map fun k => (a, n + k)
theorem mem_cross {n m : Nat} {p : Nat × Nat} : p ∈ crossP n m ↔ p.1 < n ∧ n ≤ p.2 ∧ p.2 < m := by
  unfold crossP
  rw [List.mem_flatMap]
  constructor
  · rintro ⟨a, ha, hp⟩
    obtain ⟨k, hk, rfl⟩ := List.mem_map.mp hp
    rw [List.mem_range] at ha hk
    show a < n ∧ n ≤ n + k ∧ n + k < m
    omega
  · rintro ⟨h1, h2, h3⟩
    exact ⟨p.1, List.mem_range.mpr h1, List.mem_map.mpr ⟨p.2 - n, List.mem_range.mpr (by omega), Prod.ext rfl (show n + (p.2 - n) = p.2 by omega)⟩⟩
theorem cross_len (n m : Nat) : (crossP n m).length ≤ n * (m - n) := by
  have := flen (l := List.range n) (f := fun a => (List.range (m - n)).map fun k => (a, n + k)) (c := m - n) fun a _ => by simp
  rw [List.length_range] at this
  exact this
def sp13 : List D → (D → Prop) → Prop := fun ds Q => ∃ a b : Gr, ds = [grD a, grD b] ∧ a.n + b.n ≤ 8 ∧ Ok a ∧ Ok b ∧ a.es.length + b.es.length + a.n * b.n < 64 ∧
  ∀ g, Made (a.n + b.n) (a.es ++ shiftP a.n b.es ++ crossP a.n (a.n + b.n)) g → Q (grD g)
def sp109 : List D → (D → Prop) → Prop := fun ds Q => ∃ a b : Nat, ds = [nD a, nD b] ∧ a + b ≤ 8 ∧ ∀ g, Made (a + b) (crossP a (a + b)) g → Q (grD g)
section
variable {Φ : Fam}
theorem rng2c (a n : Nat) (ha : a ≤ 1000000) (hn : n ≤ 1000000) {Q : List D → Prop} (q : Q (((List.range (n - a)).map fun k => a + k).map nD)) : rngK [.int (a : Int), .int (n : Int)] Q := by
  refine ⟨⟨⟨by omega, by omega⟩, by omega, by omega⟩, ?_⟩
  have : ((n : Int) - (a : Int)).toNat = n - a := by omega
  rw [this]
  rw [List.map_map] at q
  exact q
theorem pr_id {p : Nat × Nat} (h : p.1 < p.2) : pr p.1 p.2 = p := by
  unfold pr
  rw [if_pos h]
theorem w13 (h9 : Has Φ 9 sp9) (h12 : Has Φ 12 sp12) {ds : List D} {Q : D → Prop} (h : sp13 ds Q) : wpB Φ [] b13 (sl0 N13 ds) 0 { nx := fun _ _ => Q .none, rt := fun d _ => Q d } := by
  obtain ⟨a, b, rfl, hn, ha, hb, hl, q⟩ := h
  simp only [b13, N13, wpB, wpS, wpE, wpL, wpO, wpOT, wpT, fin, getS, optK, intK.eq_1, boolK.eq_1, truK.eq_1, truK.eq_2, truK.eq_3, truK.eq_4, truK.eq_5, seqK.eq_1, seqK.eq_2, op2, op1, b1K.eq_1, b1K.eq_2, b1K.eq_3, b1K.eq_4, b1K.eq_5, b1K.eq_6, b1K.eq_7, b1K.eq_8, b1K.eq_9, b1K.eq_10, b1K.eq_11, b1K.eq_12, b1K.eq_13, b1K.eq_14, b1K.eq_15, itK, tgFlat, asOk, wpTg.eq_1, wpTg.eq_2, wpTgs.eq_1, wpTgs.eq_2, wipeS, List.set, sl0, List.map, List.replicate, List.length_cons, List.length_nil, Nat.sub_self, Nat.reduceSub, Nat.reduceAdd, List.cons_append, List.nil_append, if_true]
  refine ix0 a ⟨rfl, ?_⟩
  refine h12 _ _ ⟨a, b, rfl, hn, ha, hb, by omega, fun g0 hg => ⟨by rw [flat_grD]; rfl, ?_⟩⟩
  refine ix0 g0 (ix1 g0 ?_)
  simp only [nD]
  refine rng1 a.n (by omega) ?_
  refine lc2W_map 1000 nD (fun x => ((List.range (g0.n - a.n)).map fun k => (x, a.n + k)).map prD) (List.range a.n) (fun x hx acc K' hB k => ?_) ?_ ?_
  · refine ix0 g0 ?_
    refine rng2c a.n g0.n (by omega) (by have := hg.n; omega) ?_
    have e : ((List.range (g0.n - a.n)).map fun k => a.n + k).flatMap (fun y => [prD (x, y)]) = ((List.range (g0.n - a.n)).map fun k => (x, a.n + k)).map prD := by
      rw [List.map_map, List.flatMap_map]
      induction (List.range (g0.n - a.n)) with
      | nil => rfl
      | cons x l ih => rw [List.flatMap_cons, ih]; rfl
    refine lc2W_map 1000 nD (fun y => [prD (x, y)]) _ (fun y hy acc K' hB k => ?_) (by rw [e]; exact hB) (by rw [e]; exact k)
    simp only [nD, wpB, wpS, wpE, wpL, wpO, wpOT, wpT, fin, getS, optK, intK.eq_1, boolK.eq_1, truK.eq_1, truK.eq_2, truK.eq_3, truK.eq_4, truK.eq_5, seqK.eq_1, seqK.eq_2, op2, op1, b1K.eq_1, b1K.eq_2, b1K.eq_3, b1K.eq_4, b1K.eq_5, b1K.eq_6, b1K.eq_7, b1K.eq_8, b1K.eq_9, b1K.eq_10, b1K.eq_11, b1K.eq_12, b1K.eq_13, b1K.eq_14, b1K.eq_15, itK, tgFlat, asOk, wpTg.eq_1, wpTg.eq_2, wpTgs.eq_1, wpTgs.eq_2, wipeS, List.set, sl0, List.map, List.replicate, List.length_cons, List.length_nil, Nat.sub_self, Nat.reduceSub, Nat.reduceAdd, List.cons_append, List.nil_append, if_true]
    have : big = 16000000 := rfl
    simp at hB
    exact ⟨by omega, k⟩
  · have e : ((List.range a.n).flatMap fun x => ((List.range (g0.n - a.n)).map fun k => (x, a.n + k)).map prD) = (crossP a.n g0.n).map prD := by
      unfold crossP
      rw [List.map_flatMap]
    rw [e, List.length_map]
    have := cross_len a.n g0.n
    have h8 : a.n * (g0.n - a.n) ≤ 8 * 8 := Nat.mul_le_mul (by omega) (by have := hg.n; omega)
    simp only [List.length_nil]
    omega
  · have e : ((List.range a.n).flatMap fun x => ((List.range (g0.n - a.n)).map fun k => (x, a.n + k)).map prD) = (crossP a.n g0.n).map prD := by
      unfold crossP
      rw [List.map_flatMap]
    rw [List.nil_append, e]
    have hc := cross_len a.n g0.n
    have hn0 := hg.n
    have e3 : g0.n - a.n = b.n := by omega
    rw [e3] at hc
    have l0 := hg.len
    rw [List.length_append] at l0
    have l2 : (shiftP a.n b.es).length = b.es.length := by unfold shiftP; rw [List.length_map]
    have hbig : big = 16000000 := rfl
    refine ⟨by rw [List.length_map, List.length_map]; omega, ?_⟩
    rw [← List.map_append]
    have up : ∀ q ∈ a.es ++ shiftP a.n b.es, q.1 < q.2 ∧ q.2 < a.n + b.n := by
      intro q hq
      rcases List.mem_append.mp hq with z | z
      · have := ha.rng q z; omega
      · obtain ⟨y, hy, rfl⟩ := List.mem_map.mp z
        have := hb.rng y hy
        show y.1 + a.n < y.2 + a.n ∧ y.2 + a.n < a.n + b.n
        omega
    have hm : ∀ p, p ∈ g0.es ↔ p ∈ a.es ++ shiftP a.n b.es := fun p => by
      rw [hg.mem]
      constructor
      · rintro ⟨q, hq, rfl⟩
        rw [pr_id (up q hq).1]; exact hq
      · intro hp
        exact ⟨p, hp, pr_id (up p hp).1⟩
    refine h9 _ _ ⟨g0.n, g0.es ++ crossP a.n g0.n, _, rfl, .inr rfl, by rw [List.length_append]; omega, fun p hp => ?_, fun es h1 h2 h3 => ⟨?_, q ⟨g0.n, es⟩ ⟨hn0, h1, fun p => (h2 p).trans ?_, ?_⟩⟩⟩
    · rcases List.mem_append.mp hp with z | z
      · have := up p ((hm p).mp z); omega
      · have := mem_cross.mp z; omega
    · rw [flat_grD]; rfl
    · rw [← hn0]
      constructor
      · rintro ⟨q, hq, rfl⟩
        refine ⟨q, ?_, rfl⟩
        rcases List.mem_append.mp hq with z | z
        · exact List.mem_append_left _ ((hm q).mp z)
        · exact List.mem_append_right _ z
      · rintro ⟨q, hq, rfl⟩
        refine ⟨q, ?_, rfl⟩
        rcases List.mem_append.mp hq with z | z
        · exact List.mem_append_left _ ((hm q).mpr z)
        · exact List.mem_append_right _ z
    · rw [List.length_append] at h3
      rw [List.length_append, List.length_append, ← hn0]
      show es.length ≤ _
      omega
theorem ok_empty (n : Nat) : Ok ⟨n, []⟩ := ⟨.nil, fun _ h => nomatch h⟩
theorem w109 (h13 : Has Φ 13 sp13) (h107 : Has Φ 107 sp107) {ds : List D} {Q : D → Prop} (h : sp109 ds Q) : wpB Φ [] b109 (sl0 N109 ds) 0 { nx := fun _ _ => Q .none, rt := fun d _ => Q d } := by
  obtain ⟨a, b, rfl, hn, q⟩ := h
  simp only [b109, N109, wpB, wpS, wpE, wpL, wpO, wpOT, wpT, fin, getS, optK, intK.eq_1, boolK.eq_1, truK.eq_1, truK.eq_2, truK.eq_3, truK.eq_4, truK.eq_5, seqK.eq_1, seqK.eq_2, op2, op1, b1K.eq_1, b1K.eq_2, b1K.eq_3, b1K.eq_4, b1K.eq_5, b1K.eq_6, b1K.eq_7, b1K.eq_8, b1K.eq_9, b1K.eq_10, b1K.eq_11, b1K.eq_12, b1K.eq_13, b1K.eq_14, b1K.eq_15, itK, tgFlat, asOk, wpTg.eq_1, wpTg.eq_2, wpTgs.eq_1, wpTgs.eq_2, wipeS, List.set, sl0, List.map, List.replicate, List.length_cons, List.length_nil, Nat.sub_self, Nat.reduceSub, Nat.reduceAdd, List.cons_append, List.nil_append, if_true]
  refine h107 _ _ ⟨a, rfl, h107 _ _ ⟨b, rfl, ?_⟩⟩
  have h8 : a * b ≤ 56 := by
    have : a ≤ 8 := by omega
    rcases Nat.lt_or_ge a 8 with z | z
    · exact Nat.le_trans (Nat.mul_le_mul (show a ≤ 7 by omega) (show b ≤ 8 by omega)) (by decide)
    · have : b = 0 := by omega
      subst this; simp
  refine h13 _ _ ⟨⟨a, []⟩, ⟨b, []⟩, rfl, hn, ok_empty a, ok_empty b, by simp; omega, fun g hg => ⟨by rw [flat_grD]; rfl, q g ?_⟩⟩
  have : ([] : List (Nat × Nat)) ++ shiftP a [] ++ crossP a (a + b) = crossP a (a + b) := rfl
  exact this ▸ hg
end
end W3
namespace W3
open PySem
def share (e f : Nat × Nat) : Bool := decide (e.1 = f.1 ∨ e.1 = f.2) || decide (e.2 = f.1 ∨ e.2 = f.2)
/-- the pairs of places whose edges meet -/
def meetP (es : List (Nat × Nat)) : List (Nat × Nat) := (allp es.length).filter fun p => share (es.getD p.1 (0, 0)) (es.getD p.2 (0, 0))
def sp110 : List D → (D → Prop) → Prop := fun ds Q => ∃ a : Gr, ds = [grD a] ∧ a.es.length ≤ 8 ∧ ∀ g, Made a.es.length (meetP a.es) g → Q (grD g)
theorem ix_prD (es : List (Nat × Nat)) (i : Nat) (h : i < es.length) {Q : D → Prop} (q : Q (prD (es.getD i (0, 0)))) : ixK (.tuple (es.map prD)) (.int (i : Int)) Q := by
  show (-(((es.map prD).length : Nat) : Int) ≤ i ∧ (i : Int) < (((es.map prD).length : Nat) : Int)) ∧ ∃ d, (es.map prD)[atN (es.map prD).length i]? = some d ∧ Q d
  rw [List.length_map]
  refine ⟨⟨by omega, by omega⟩, prD (es.getD i (0, 0)), ?_, q⟩
  unfold atN
  rw [if_neg (by omega), List.getElem?_map, show ((i : Int)).toNat = i by omega, List.getElem?_eq_getElem h, List.getD_eq_getElem?_getD, List.getElem?_eq_getElem h]
  rfl
theorem pr0 (p : Nat × Nat) {Q : D → Prop} (q : Q (nD p.1)) : ixK (prD p) (.int 0) Q := ⟨⟨by simp, by simp⟩, _, rfl, q⟩
theorem pr1 (p : Nat × Nat) {Q : D → Prop} (q : Q (nD p.2)) : ixK (prD p) (.int 1) Q := ⟨⟨by simp, by simp⟩, _, rfl, q⟩
theorem in_pr (x : Nat) (p : Nat × Nat) : inD (nD x) [nD p.1, nD p.2] = decide (x = p.1 ∨ x = p.2) := by
  have := inD_map nD eqv_nD x [p.1, p.2]
  show inD (nD x) ([p.1, p.2].map nD) = _
  rw [this]
  simp
section
variable {Φ : Fam}
theorem w110 (h9 : Has Φ 9 sp9) {ds : List D} {Q : D → Prop} (h : sp110 ds Q) : wpB Φ [2] b110 (sl0 N110 ds) 0 { nx := fun _ _ => Q .none, rt := fun d _ => Q d } := by
  obtain ⟨a, rfl, hl, q⟩ := h
  simp only [b110, N110, gd, wpB, wpS, wpE, wpL, wpO, wpOT, wpT, fin, getS, optK, intK.eq_1, boolK.eq_1, truK.eq_1, truK.eq_2, truK.eq_3, truK.eq_4, truK.eq_5, seqK.eq_1, seqK.eq_2, op2, op1, b1K.eq_1, b1K.eq_2, b1K.eq_3, b1K.eq_4, b1K.eq_5, b1K.eq_6, b1K.eq_7, b1K.eq_8, b1K.eq_9, b1K.eq_10, b1K.eq_11, b1K.eq_12, b1K.eq_13, b1K.eq_14, b1K.eq_15, itK, tgFlat, asOk, wpTg.eq_1, wpTg.eq_2, wpTgs.eq_1, wpTgs.eq_2, wipeS, List.set, sl0, List.map, List.replicate, List.length_cons, List.length_nil, Nat.sub_self, Nat.reduceSub, Nat.reduceAdd, List.cons_append, List.nil_append, if_true]
  refine ix1 a ⟨?_, ?_⟩
  · show (flats (a.es.map prD) || _) = true
    rw [flats_map _ flat_prD]; rfl
  simp only [wpB, wpS, wpE, wpL, wpO, wpOT, wpT, fin, getS, optK, intK.eq_1, boolK.eq_1, truK.eq_1, truK.eq_2, truK.eq_3, truK.eq_4, truK.eq_5, seqK.eq_1, seqK.eq_2, op2, op1, b1K.eq_1, b1K.eq_2, b1K.eq_3, b1K.eq_4, b1K.eq_5, b1K.eq_6, b1K.eq_7, b1K.eq_8, b1K.eq_9, b1K.eq_10, b1K.eq_11, b1K.eq_12, b1K.eq_13, b1K.eq_14, b1K.eq_15, itK, tgFlat, asOk, wpTg.eq_1, wpTg.eq_2, wpTgs.eq_1, wpTgs.eq_2, wipeS, List.set, sl0, List.map, List.replicate, List.length_cons, List.length_nil, Nat.sub_self, Nat.reduceSub, Nat.reduceAdd, List.cons_append, List.nil_append, if_true]
  refine ifF (by simp; omega) ⟨rfl, ?_⟩
  rw [List.length_map]
  refine ⟨rfl, rng1 a.es.length (by omega) ?_⟩
  let t : Nat × Nat → Bool := fun p => share (a.es.getD p.1 (0, 0)) (a.es.getD p.2 (0, 0))
  refine forW_map nD (fun i Γ g => ∃ (o3 o4 : Option D), Γ = [some (grD a), some (.tuple (a.es.map prD)), some (.list ((((List.range a.es.length).take i).flatMap fun x => (ups a.es.length x).filter t).map prD)), o3, o4] ∧ g = 0) _ 0 ⟨none, none, rfl, rfl⟩ ?_ ?_
  · rintro j x Γ g nx hx ⟨o3, o4, rfl, rfl⟩ hk
    rw [Nat.zero_add] at hk ⊢
    obtain ⟨hj, ha⟩ := List.getElem?_eq_some_iff.mp hx
    rw [List.length_range] at hj
    rw [List.getElem_range] at ha
    subst ha
    simp only [nD, wpB, wpS, wpE, wpL, wpO, wpOT, wpT, fin, getS, optK, intK.eq_1, boolK.eq_1, truK.eq_1, truK.eq_2, truK.eq_3, truK.eq_4, truK.eq_5, seqK.eq_1, seqK.eq_2, op2, op1, b1K.eq_1, b1K.eq_2, b1K.eq_3, b1K.eq_4, b1K.eq_5, b1K.eq_6, b1K.eq_7, b1K.eq_8, b1K.eq_9, b1K.eq_10, b1K.eq_11, b1K.eq_12, b1K.eq_13, b1K.eq_14, b1K.eq_15, itK, tgFlat, asOk, wpTg.eq_1, wpTg.eq_2, wpTgs.eq_1, wpTgs.eq_2, wipeS, List.set, sl0, List.map, List.replicate, List.length_cons, List.length_nil, Nat.sub_self, Nat.reduceSub, Nat.reduceAdd, List.cons_append, List.nil_append, if_true]
    rw [List.length_map]
    refine ⟨rfl, rng2 j a.es.length (by omega) (by omega) ?_⟩
    have eu : ups a.es.length j = ((List.range (a.es.length - (j + 1))).map fun k => j + 1 + k).map fun y => (j, y) := by
      unfold ups
      rw [List.map_map]; rfl
    have hb1 : ∀ y ∈ (List.range (a.es.length - (j + 1))).map (fun k => j + 1 + k), y < a.es.length := fun y hy => by
      obtain ⟨k, hk, rfl⟩ := List.mem_map.mp hy
      have := List.mem_range.mp hk
      omega
    have hl2 : ((List.range (a.es.length - (j + 1))).map fun k => j + 1 + k).length ≤ 8 := by simp; omega
    have h28 : ∀ n, n ≤ 8 → (allp n).length < 64 := by decide
    have hpre : (((List.range a.es.length).take j).flatMap fun x => (ups a.es.length x).filter t).length ≤ 1000 := by
      have := take_len a.es.length j (by omega) (fun x => (ups a.es.length x).filter t) 8 fun x => Nat.le_trans (List.length_filter_le _ _) (Nat.le_trans (ups_len _ _) hl)
      omega
    have etk := take_flat a.es.length j hj fun x => (ups a.es.length x).filter t
    rw [etk, eu] at hk
    generalize (((List.range a.es.length).take j).flatMap fun x => (ups a.es.length x).filter t) = pre at hpre hk ⊢
    generalize (List.range (a.es.length - (j + 1))).map (fun k => j + 1 + k) = l at hb1 hl2 hk ⊢
    refine forW_map nD (fun i Γ g => ∃ (o4 : Option D), Γ = [some (grD a), some (.tuple (a.es.map prD)), some (.list ((pre ++ ((l.take i).map fun y => (j, y)).filter t).map prD)), some (nD j), o4] ∧ g = 0) _ 0 ⟨o4, by simp; rfl, rfl⟩ ?_ ?_
    · rintro i y Γ g nx2 hy ⟨o4, rfl, rfl⟩ hk2
      rw [Nat.zero_add] at hk2 ⊢
      have hyl := hb1 y (get_mid hy)
      have hi : i < l.length := (List.getElem?_eq_some_iff.mp hy).1
      have htk : l.take (i + 1) = l.take i ++ [y] := by rw [List.take_succ, hy]; rfl
      have e5 : pre ++ ((l.take (i + 1)).map fun y => (j, y)).filter t = (pre ++ ((l.take i).map fun y => (j, y)).filter t) ++ (if t (j, y) = true then [(j, y)] else []) := by
        rw [htk, List.map_append, List.filter_append, List.append_assoc]
        cases hh : t (j, y) <;> simp [hh]
      rw [e5] at hk2
      have hbig : big = 16000000 := rfl
      have hlen : (pre ++ ((l.take i).map fun y => (j, y)).filter t).length ≤ 2000 := by
        rw [List.length_append]
        have := List.length_filter_le t ((l.take i).map fun y => (j, y))
        rw [List.length_map, List.length_take] at this
        omega
      simp only [nD, lstK, wpB, wpS, wpE, wpL, wpO, wpOT, wpT, fin, getS, optK, intK.eq_1, boolK.eq_1, truK.eq_1, truK.eq_2, truK.eq_3, truK.eq_4, truK.eq_5, seqK.eq_1, seqK.eq_2, op2, op1, b1K.eq_1, b1K.eq_2, b1K.eq_3, b1K.eq_4, b1K.eq_5, b1K.eq_6, b1K.eq_7, b1K.eq_8, b1K.eq_9, b1K.eq_10, b1K.eq_11, b1K.eq_12, b1K.eq_13, b1K.eq_14, b1K.eq_15, itK, tgFlat, asOk, wpTg.eq_1, wpTg.eq_2, wpTgs.eq_1, wpTgs.eq_2, wipeS, List.set, sl0, List.map, List.replicate, List.length_cons, List.length_nil, Nat.sub_self, Nat.reduceSub, Nat.reduceAdd, List.cons_append, List.nil_append, if_true]
      generalize pre ++ ((l.take i).map fun y => (j, y)).filter t = cur at hk2 hlen ⊢
      refine ix_prD a.es j hj (pr0 _ (ix_prD a.es y hyl ?_))
      have yes : t (j, y) = true → nx2 [some (grD a), some (.tuple (a.es.map prD)), some (.list (cur.map prD ++ [.tuple [.int (j : Int), .int (y : Int)]])), some (.int (j : Int)), some (.int (y : Int))] 0 := fun ht => by
        refine hk2 _ _ ⟨some (nD y), ?_, rfl⟩
        rw [if_pos ht, List.map_append]
        rfl
      have no : t (j, y) = false → nx2 [some (grD a), some (.tuple (a.es.map prD)), some (.list (cur.map prD)), some (.int (j : Int)), some (.int (y : Int))] 0 := fun ht => by
        refine hk2 _ _ ⟨some (nD y), ?_, rfl⟩
        rw [if_neg (by rw [ht]; exact Bool.false_ne_true), List.append_nil]
        rfl
      have et : t (j, y) = share (a.es.getD j (0, 0)) (a.es.getD y (0, 0)) := rfl
      rw [et] at yes no
      have hcl : (cur.map prD).length < big := by rw [List.length_map]; omega
      refine ⟨shp_nD _, ?_⟩
      show if inD (nD (a.es.getD j (0, 0)).1) [nD (a.es.getD y (0, 0)).1, nD (a.es.getD y (0, 0)).2] = true then _ else _
      unfold share at yes no
      rw [← in_pr, ← in_pr] at yes no
      cases h1 : inD (nD (a.es.getD j (0, 0)).1) [nD (a.es.getD y (0, 0)).1, nD (a.es.getD y (0, 0)).2] with
      | true =>
        rw [h1] at yes
        exact ifT rfl (ifT rfl ⟨rfl, ⟨rfl, hcl⟩, yes rfl⟩)
      | false =>
        rw [h1] at yes no
        refine ifF rfl ?_
        refine ix_prD a.es j hj (pr1 _ (ix_prD a.es y hyl ⟨shp_nD _, ?_⟩))
        show if inD (nD (a.es.getD j (0, 0)).2) [nD (a.es.getD y (0, 0)).1, nD (a.es.getD y (0, 0)).2] = true then _ else _
        cases h2 : inD (nD (a.es.getD j (0, 0)).2) [nD (a.es.getD y (0, 0)).1, nD (a.es.getD y (0, 0)).2] with
        | true =>
          rw [h2] at yes
          exact ifT rfl ⟨rfl, ⟨rfl, hcl⟩, yes rfl⟩
        | false =>
          rw [h2] at no
          exact ifF rfl (no rfl)
    · rintro Γ g ⟨o4, rfl, rfl⟩
      rw [Nat.zero_add, List.take_length]
      exact hk _ _ ⟨some (nD j), o4, rfl, rfl⟩
  · rintro Γ g ⟨o3, o4, rfl, rfl⟩
    rw [Nat.zero_add, List.take_length]
    simp only [wpB, wpS, wpE, wpL, wpO, wpOT, wpT, fin, getS, optK, intK.eq_1, boolK.eq_1, truK.eq_1, truK.eq_2, truK.eq_3, truK.eq_4, truK.eq_5, seqK.eq_1, seqK.eq_2, op2, op1, b1K.eq_1, b1K.eq_2, b1K.eq_3, b1K.eq_4, b1K.eq_5, b1K.eq_6, b1K.eq_7, b1K.eq_8, b1K.eq_9, b1K.eq_10, b1K.eq_11, b1K.eq_12, b1K.eq_13, b1K.eq_14, b1K.eq_15, itK, tgFlat, asOk, wpTg.eq_1, wpTg.eq_2, wpTgs.eq_1, wpTgs.eq_2, wipeS, List.set, sl0, List.map, List.replicate, List.length_cons, List.length_nil, Nat.sub_self, Nat.reduceSub, Nat.reduceAdd, List.cons_append, List.nil_append, if_true]
    rw [List.length_map]
    have e : ((List.range a.es.length).flatMap fun x => (ups a.es.length x).filter t) = meetP a.es := by
      unfold meetP allp
      rw [List.filter_flatMap]
    rw [e]
    have hm : ∀ p ∈ meetP a.es, p.1 < p.2 ∧ p.2 < a.es.length := fun p hp => mem_allp.mp (List.mem_filter.mp hp).1
    have h28 : ∀ n, n ≤ 8 → (allp n).length < 64 := by decide
    have hlen : (meetP a.es).length < 64 := Nat.lt_of_le_of_lt (List.length_filter_le _ _) (h28 _ hl)
    refine h9 _ _ ⟨a.es.length, meetP a.es, _, rfl, .inl rfl, hlen, fun p hp => ?_, fun es h1 h2 h3 => ⟨by rw [flat_grD]; rfl, q ⟨a.es.length, es⟩ ⟨rfl, h1, h2, h3⟩⟩⟩
    have := hm p hp
    omega
end
end W3
namespace W3
open PySem
open PySem.W (alike dataLt AllAlike Sortable dataLe AlikeAll minD maxD)
def opD : Option Nat → D
  | none => .none
  | some k => nD k
/-- all the same: what; else none -/
def same : List Nat → Option Nat
  | [] => none
  | x :: l => if l.all (fun y => decide (y = x)) = true then some x else none
def sp208 : List D → (D → Prop) → Prop := fun ds Q => ∃ g : Gr, ds = [grD g] ∧ 0 < g.n ∧ g.n ≤ 1000 ∧ Q (opD (same ((List.range g.n).map (deg g))))
theorem minD_nat : ∀ (l : List Nat) (x : Nat), ∃ m, minD (nD x) (l.map nD) = nD m ∧ (m = x ∨ m ∈ l) ∧ m ≤ x ∧ ∀ y ∈ l, m ≤ y
  | [], x => ⟨x, rfl, .inl rfl, Nat.le_refl _, fun _ h => nomatch h⟩
  | y :: l, x => by
    have e : dataLt (nD y) (nD x) = decide (y < x) := (PySem.W.dataLt_int _ _).trans (lt_nD y x)
    have step : minD (nD x) ((y :: l).map nD) = minD (if dataLt (nD y) (nD x) = true then nD y else nD x) (l.map nD) := rfl
    rw [step, e]
    by_cases h : y < x
    · rw [if_pos (by simpa using h)]
      obtain ⟨m, h1, h2, h3, h4⟩ := minD_nat l y
      exact ⟨m, h1, .inr (h2.elim (fun z => by rw [z]; exact List.mem_cons_self) fun z => List.mem_cons_of_mem _ z), by omega, fun z hz => (List.mem_cons.mp hz).elim (fun z => by rw [z]; exact h3) (h4 z)⟩
    · rw [if_neg (by simpa using h)]
      obtain ⟨m, h1, h2, h3, h4⟩ := minD_nat l x
      exact ⟨m, h1, h2.elim .inl fun z => .inr (List.mem_cons_of_mem _ z), h3, fun z hz => (List.mem_cons.mp hz).elim (fun z => by rw [z]; omega) (h4 z)⟩
theorem maxD_nat : ∀ (l : List Nat) (x : Nat), ∃ m, maxD (nD x) (l.map nD) = nD m ∧ (m = x ∨ m ∈ l) ∧ x ≤ m ∧ ∀ y ∈ l, y ≤ m
  | [], x => ⟨x, rfl, .inl rfl, Nat.le_refl _, fun _ h => nomatch h⟩
  | y :: l, x => by
    have e : dataLt (nD x) (nD y) = decide (x < y) := (PySem.W.dataLt_int _ _).trans (lt_nD x y)
    have step : maxD (nD x) ((y :: l).map nD) = maxD (if dataLt (nD x) (nD y) = true then nD y else nD x) (l.map nD) := rfl
    rw [step, e]
    by_cases h : x < y
    · rw [if_pos (by simpa using h)]
      obtain ⟨m, h1, h2, h3, h4⟩ := maxD_nat l y
      exact ⟨m, h1, .inr (h2.elim (fun z => by rw [z]; exact List.mem_cons_self) fun z => List.mem_cons_of_mem _ z), by omega, fun z hz => (List.mem_cons.mp hz).elim (fun z => by rw [z]; exact h3) (h4 z)⟩
    · rw [if_neg (by simpa using h)]
      obtain ⟨m, h1, h2, h3, h4⟩ := maxD_nat l x
      exact ⟨m, h1, h2.elim .inl fun z => .inr (List.mem_cons_of_mem _ z), h3, fun z hz => (List.mem_cons.mp hz).elim (fun z => by rw [z]; omega) (h4 z)⟩
theorem alike_nats (l : List Nat) : AlikeAll (l.map nD) ∧ ∀ d ∈ l.map nD, shp d := by
  refine ⟨⟨fun x hx y hy => ?_, fun x hx => ?_⟩, fun d hd => ?_⟩
  · obtain ⟨a, _, rfl⟩ := List.mem_map.mp hx
    obtain ⟨b, _, rfl⟩ := List.mem_map.mp hy
    rfl
  · obtain ⟨a, _, rfl⟩ := List.mem_map.mp hx
    exact fun h => by cases h
  · obtain ⟨a, _, rfl⟩ := List.mem_map.mp hd
    exact shp_nD a
section
variable {Φ : Fam}
theorem w208 (h8 : Has Φ 8 sp8) {ds : List D} {Q : D → Prop} (h : sp208 ds Q) : wpB Φ [] b208 (sl0 N208 ds) 0 { nx := fun _ _ => Q .none, rt := fun d _ => Q d } := by
  obtain ⟨g, rfl, h0, hn, q⟩ := h
  have e : ((List.range g.n).map fun a => nD (deg g a)) = ((List.range g.n).map (deg g)).map nD := by rw [List.map_map]; rfl
  simp only [b208, N208, wpB, wpS, wpE, wpL, wpO, wpOT, wpT, fin, getS, optK, intK.eq_1, boolK.eq_1, truK.eq_1, truK.eq_2, truK.eq_3, truK.eq_4, truK.eq_5, seqK.eq_1, seqK.eq_2, op2, op1, b1K.eq_1, b1K.eq_2, b1K.eq_3, b1K.eq_4, b1K.eq_5, b1K.eq_6, b1K.eq_7, b1K.eq_8, b1K.eq_9, b1K.eq_10, b1K.eq_11, b1K.eq_12, b1K.eq_13, b1K.eq_14, b1K.eq_15, itK, tgFlat, asOk, wpTg.eq_1, wpTg.eq_2, wpTgs.eq_1, wpTgs.eq_2, wipeS, List.set, sl0, List.map, List.replicate, List.length_cons, List.length_nil, Nat.sub_self, Nat.reduceSub, Nat.reduceAdd, List.cons_append, List.nil_append, if_true]
  refine h8 _ _ ⟨g, rfl, hn, ?_⟩
  rw [e]
  have hne : (List.range g.n).map (deg g) ≠ [] := by
    intro z
    have := congrArg List.length z
    simp at this
    omega
  have hl : ((List.range g.n).map (deg g)).length ≤ 1000 := by simpa using hn
  generalize (List.range g.n).map (deg g) = l at hne hl q ⊢
  refine ⟨by show (flats (l.map nD) || _) = true; rw [flats_map _ flat_nD]; rfl, ?_⟩
  cases l with
  | nil => exact absurd rfl hne
  | cons x l =>
    obtain ⟨m, m1, m2, m3, m4⟩ := minD_nat l x
    obtain ⟨M, M1, M2, M3, M4⟩ := maxD_nat l x
    have al := alike_nats (x :: l)
    simp only [seqK.eq_2, List.map_cons]
    refine ⟨al, al, ?_⟩
    rw [m1, M1]
    refine ⟨shp_nD m, ?_⟩
    rw [eqv_nD]
    by_cases hm : m = M
    · refine ifT (decide_eq_true hm) ?_
      have hall : l.all (fun y => decide (y = x)) = true := List.all_eq_true.mpr fun y hy => by
        have := m4 y hy
        have := M4 y hy
        simp; omega
      have es : same (x :: l) = some x := if_pos hall
      rw [es] at q
      exact ⟨⟨by simp; omega, by simp⟩, nD x, rfl, rfl, q⟩
    · refine ifF (decide_eq_false hm) ?_
      have hall : ¬ l.all (fun y => decide (y = x)) = true := fun z => by
        have all := List.all_eq_true.mp z
        have e1 : m = x := m2.elim id fun h => by simpa using all m h
        have e2 : M = x := M2.elim id fun h => by simpa using all M h
        exact hm (e1.trans e2.symm)
      have es : same (x :: l) = none := if_neg hall
      rw [es] at q
      exact ⟨rfl, q⟩
end
end W3
namespace W3
open PySem
/-- the numbers of walks of length k from a to each vertex -/
def wk (g : Gr) (a : Nat) : Nat → List Nat
  | 0 => (List.range g.n).map fun v => if v = a then 1 else 0
  | k + 1 => (List.range g.n).map fun v => ((nbs g v).map fun c => (wk g a k).getD c 0).sum
theorem wk_len (g : Gr) (a k : Nat) : (wk g a k).length = g.n := by cases k <;> simp [wk]
def sp199 : List D → (D → Prop) → Prop := fun ds Q => ∃ (g : Gr) (a b k : Nat), ds = [grD g, nD a, nD b, nD k] ∧ g.n ≤ 1000 ∧ k ≤ 1000 ∧ b < g.n ∧ Q (nD ((wk g a k).getD b 0))
theorem intsK_nat {Q : List Int → Prop} : ∀ (l : List Nat), Q (l.map fun k : Nat => (k : Int)) → intsK (l.map nD) Q
  | [], q => q
  | x :: l, q => intsK_nat (Q := fun is => Q ((x : Int) :: is)) l q
theorem sum_nat : ∀ l : List Nat, (l.map fun k : Nat => (k : Int)).sum = ((l.sum : Nat) : Int)
  | [] => rfl
  | x :: l => by
    rw [List.map_cons, List.sum_cons, List.sum_cons, sum_nat l]
    omega
theorem nbs_lt {g : Gr} {v c : Nat} (h : c ∈ nbs g v) : c < g.n := List.mem_range.mp (List.mem_filter.mp h).1
section
variable {Φ : Fam}
theorem w199 (h6 : Has Φ 6 sp6) {ds : List D} {Q : D → Prop} (h : sp199 ds Q) : wpB Φ [] b199 (sl0 N199 ds) 0 { nx := fun _ _ => Q .none, rt := fun d _ => Q d } := by
  obtain ⟨g, a, b, k, rfl, hn, hk1, hb, q⟩ := h
  simp only [b199, N199, wpB, wpS, wpE, wpL, wpO, wpOT, wpT, fin, getS, optK, intK.eq_1, boolK.eq_1, truK.eq_1, truK.eq_2, truK.eq_3, truK.eq_4, truK.eq_5, seqK.eq_1, seqK.eq_2, op2, op1, b1K.eq_1, b1K.eq_2, b1K.eq_3, b1K.eq_4, b1K.eq_5, b1K.eq_6, b1K.eq_7, b1K.eq_8, b1K.eq_9, b1K.eq_10, b1K.eq_11, b1K.eq_12, b1K.eq_13, b1K.eq_14, b1K.eq_15, itK, tgFlat, asOk, wpTg.eq_1, wpTg.eq_2, wpTgs.eq_1, wpTgs.eq_2, wipeS, List.set, sl0, List.map, List.replicate, List.length_cons, List.length_nil, Nat.sub_self, Nat.reduceSub, Nat.reduceAdd, List.cons_append, List.nil_append, if_true]
  refine ix0 g (rng1 g.n (by omega) ?_)
  refine lcW_map nD (fun v => some (nD (if v = a then 1 else 0))) _ (fun v hv K' k => ?_) ?_
  · refine ⟨shp_nD v, ?_⟩
    rw [eqv_nD]
    by_cases hva : v = a
    · simp [hva] at k ⊢
      exact k
    · simp [hva] at k ⊢
      exact k
  rw [List.nil_append, fm_some (fun v => nD (if v = a then 1 else 0))]
  have e : ((List.range g.n).map fun v => nD (if v = a then 1 else 0)) = (wk g a 0).map nD := by
    show _ = ((List.range g.n).map fun v => if v = a then 1 else 0).map nD
    rw [List.map_map]; rfl
  rw [e]
  refine ⟨by rw [frs_lc nD flat_nD]; exact Bool.or_true _, rfl, rng1 k (by omega) ?_⟩
  refine forW_map nD (fun i Γ g' => ∃ o5, Γ = [some (grD g), some (nD a), some (nD b), some (nD k), some (.list ((wk g a i).map nD)), o5, none, none] ∧ g' = 0) _ 0 ⟨none, rfl, rfl⟩ ?_ ?_
  · rintro i x Γ g' nx hx ⟨o5, rfl, rfl⟩ hk
    rw [Nat.zero_add] at hk ⊢
    simp only [wpB, wpS, wpE, wpL, wpO, wpOT, wpT, fin, getS, optK, intK.eq_1, boolK.eq_1, truK.eq_1, truK.eq_2, truK.eq_3, truK.eq_4, truK.eq_5, seqK.eq_1, seqK.eq_2, op2, op1, b1K.eq_1, b1K.eq_2, b1K.eq_3, b1K.eq_4, b1K.eq_5, b1K.eq_6, b1K.eq_7, b1K.eq_8, b1K.eq_9, b1K.eq_10, b1K.eq_11, b1K.eq_12, b1K.eq_13, b1K.eq_14, b1K.eq_15, itK, tgFlat, asOk, wpTg.eq_1, wpTg.eq_2, wpTgs.eq_1, wpTgs.eq_2, wipeS, List.set, sl0, List.map, List.replicate, List.length_cons, List.length_nil, Nat.sub_self, Nat.reduceSub, Nat.reduceAdd, List.cons_append, List.nil_append, if_true]
    refine ix0 g (rng1 g.n (by omega) ?_)
    refine lcW_map nD (fun v => some (nD ((nbs g v).map fun c => (wk g a i).getD c 0).sum)) _ (fun v hv K' k => ?_) ?_
    · refine h6 _ _ ⟨g, v, rfl, hn, ?_⟩
      simp only [wpB, wpS, wpE, wpL, wpO, wpOT, wpT, fin, getS, optK, intK.eq_1, boolK.eq_1, truK.eq_1, truK.eq_2, truK.eq_3, truK.eq_4, truK.eq_5, seqK.eq_1, seqK.eq_2, op2, op1, b1K.eq_1, b1K.eq_2, b1K.eq_3, b1K.eq_4, b1K.eq_5, b1K.eq_6, b1K.eq_7, b1K.eq_8, b1K.eq_9, b1K.eq_10, b1K.eq_11, b1K.eq_12, b1K.eq_13, b1K.eq_14, b1K.eq_15, itK, tgFlat, asOk, wpTg.eq_1, wpTg.eq_2, wpTgs.eq_1, wpTgs.eq_2, wipeS, List.set, sl0, List.map, List.replicate, List.length_cons, List.length_nil, Nat.sub_self, Nat.reduceSub, Nat.reduceAdd, List.cons_append, List.nil_append, if_true]
      refine lcW_map nD (fun c => some (nD ((wk g a i).getD c 0))) _ (fun c hc K' k => ?_) ?_
      · exact ix_nD (wk g a i) c (by rw [wk_len]; exact nbs_lt hc) k (.inr rfl)
      · rw [List.nil_append, fm_some (fun c => nD ((wk g a i).getD c 0))]
        have e2 : ((nbs g v).map fun c => nD ((wk g a i).getD c 0)) = ((nbs g v).map fun c => (wk g a i).getD c 0).map nD := by rw [List.map_map]; rfl
        rw [e2]
        refine intsK_nat _ ?_
        rw [sum_nat]
        exact k
    · rw [List.nil_append, fm_some (fun v => nD ((nbs g v).map fun c => (wk g a i).getD c 0).sum)]
      have e2 : ((List.range g.n).map fun v => nD ((nbs g v).map fun c => (wk g a i).getD c 0).sum) = (wk g a (i + 1)).map nD := by
        show _ = ((List.range g.n).map fun v => ((nbs g v).map fun c => (wk g a i).getD c 0).sum).map nD
        rw [List.map_map]; rfl
      rw [e2]
      exact ⟨by rw [frs_lc nD flat_nD]; exact Bool.or_true _, hk _ _ ⟨_, rfl, rfl⟩⟩
  · rintro Γ g' ⟨o5, rfl, rfl⟩
    rw [Nat.zero_add, List.length_range]
    simp only [nD, wpB, wpS, wpE, wpL, wpO, wpOT, wpT, fin, getS, optK, intK.eq_1, boolK.eq_1, truK.eq_1, truK.eq_2, truK.eq_3, truK.eq_4, truK.eq_5, seqK.eq_1, seqK.eq_2, op2, op1, b1K.eq_1, b1K.eq_2, b1K.eq_3, b1K.eq_4, b1K.eq_5, b1K.eq_6, b1K.eq_7, b1K.eq_8, b1K.eq_9, b1K.eq_10, b1K.eq_11, b1K.eq_12, b1K.eq_13, b1K.eq_14, b1K.eq_15, itK, tgFlat, asOk, wpTg.eq_1, wpTg.eq_2, wpTgs.eq_1, wpTgs.eq_2, wipeS, List.set, sl0, List.map, List.replicate, List.length_cons, List.length_nil, Nat.sub_self, Nat.reduceSub, Nat.reduceAdd, List.cons_append, List.nil_append, if_true]
    refine ix_nD (wk g a k) b (by rw [wk_len]; exact hb) ⟨rfl, q⟩ (.inr rfl)
end
end W3
namespace W3
open PySem
/-- the numbers of common neighbours -/
def cm (g : Gr) (a b : Nat) : Nat := ((List.range g.n).filter fun c => adj g a c && adj g b c).length
/-- the pairs downwards, in the order of two loops -/
def dnp (n : Nat) : List (Nat × Nat) := (List.range n).flatMap fun a => (List.range a).map fun b => (a, b)
def cmsOf (t : Nat × Nat → Bool) (g : Gr) (l : List (Nat × Nat)) : List Nat := (l.filter t).map fun p => cm g p.1 p.2
def isA (g : Gr) (p : Nat × Nat) : Bool := adj g p.1 p.2
def noA (g : Gr) (p : Nat × Nat) : Bool := !adj g p.1 p.2
def nearL (g : Gr) : List Nat := cmsOf (isA g) g (dnp g.n)
def farL (g : Gr) : List Nat := cmsOf (noA g) g (dnp g.n)
def sp209 : List D → (D → Prop) → Prop := fun ds Q => ∃ g : Gr, ds = [grD g] ∧ g.n ≤ 10 ∧ Q (.tuple [opD (same (nearL g)), opD (same (farL g))])
theorem rng0 (n : Nat) (h : n ≤ 1000000) {Q : List D → Prop} (q : Q ((List.range n).map nD)) : rngK [nD n] Q := rng1 n h q
theorem flat_opD (o : Option Nat) : flat (opD o) = true := by cases o <;> rfl
theorem same_cons (x : Nat) (l : List Nat) : same (x :: l) = if l.all (fun y => decide (y = x)) = true then some x else none := rfl
/-- len(set(rows)) == 1 -/
theorem same_one : ∀ (l : List Nat) (m : List Int), m.Nodup → (∀ k, k ∈ m ↔ k ∈ l.map fun k : Nat => (k : Int)) → (m.length = 1 ↔ same l ≠ none)
  | [], m, _, h => by
    have : m = [] := List.eq_nil_iff_forall_not_mem.mpr fun x hx => by simpa using (h x).mp hx
    subst this
    simp [same]
  | x :: l, m, hn, h => by
    rw [same_cons]
    by_cases ha : l.all (fun y => decide (y = x)) = true
    · rw [if_pos ha]
      simp only [ne_eq, reduceCtorEq, not_false_eq_true, iff_true]
      have hall : ∀ y ∈ m, y = (x : Int) := fun y hy => by
        obtain ⟨z, hz, rfl⟩ := List.mem_map.mp ((h y).mp hy)
        rcases List.mem_cons.mp hz with e | e
        · rw [e]
        · have := List.all_eq_true.mp ha z e
          simp at this
          rw [this]
      have hx : (x : Int) ∈ m := (h _).mpr (by simp)
      match m, hn, hall, hx with
      | [], _, _, hx => exact absurd hx (by simp)
      | [a], _, _, _ => rfl
      | a :: b :: r, hn, hall, _ =>
        have e1 := hall a (by simp)
        have e2 := hall b (by simp)
        rw [e1, e2] at hn
        simp at hn
    · rw [if_neg ha]
      simp only [ne_eq, not_true_eq_false, iff_false]
      intro h1
      refine ha (List.all_eq_true.mpr fun y hy => ?_)
      obtain ⟨z, rfl⟩ := List.length_eq_one_iff.mp h1
      have e1 := (h (x : Int)).mpr (by simp)
      have e2 := (h (y : Int)).mpr (List.mem_map.mpr ⟨y, List.mem_cons_of_mem _ hy, rfl⟩)
      simp at e1 e2
      simp
      omega
theorem same_get : ∀ {l : List Nat}, same l ≠ none → ∃ x r, l = x :: r ∧ same l = some x
  | [], h => absurd rfl h
  | x :: l, h => by
    rw [same_cons] at h ⊢
    by_cases ha : l.all (fun y => decide (y = x)) = true
    · rw [if_pos ha]; exact ⟨x, l, rfl, rfl⟩
    · rw [if_neg ha] at h; exact absurd rfl h
section
variable {Φ : Fam}
theorem cms_snoc (t : Nat × Nat → Bool) (g : Gr) (l : List (Nat × Nat)) (p : Nat × Nat) : cmsOf t g (l ++ [p]) = if t p = true then cmsOf t g l ++ [cm g p.1 p.2] else cmsOf t g l := by
  unfold cmsOf
  rw [List.filter_append, List.map_append]
  cases h : t p <;> simp [h]
theorem dnp_len (n : Nat) (h : n ≤ 10) : (dnp n).length ≤ 45 := by
  revert n; decide
theorem cms_len (t : Nat × Nat → Bool) (g : Gr) (l : List (Nat × Nat)) : (cmsOf t g l).length ≤ l.length := by
  unfold cmsOf
  rw [List.length_map]
  exact List.length_filter_le _ _
theorem len_lc (g : Gr) (a b : Nat) : ((List.range g.n).filterMap fun c => if (adj g a c && adj g b c) = true then some (nD c) else none).length = cm g a b := by
  unfold cm
  induction (List.range g.n) with
  | nil => rfl
  | cons x l ih =>
    rw [List.filterMap_cons, List.filter_cons]
    cases hx : (adj g a x && adj g b x)
    · simp only [Bool.false_eq_true, if_false]
      exact ih
    · simp only [if_true, List.length_cons]
      rw [ih]
theorem w209 (h5 : Has Φ 5 sp5) {ds : List D} {Q : D → Prop} (h : sp209 ds Q) : wpB Φ [1] b209 (sl0 N209 ds) 0 { nx := fun _ _ => Q .none, rt := fun d _ => Q d } := by
  obtain ⟨g, rfl, hn, q⟩ := h
  simp only [b209, N209, wpB, wpS, wpE, wpL, wpO, wpOT, wpT, fin, getS, optK, intK.eq_1, boolK.eq_1, truK.eq_1, truK.eq_2, truK.eq_3, truK.eq_4, truK.eq_5, seqK.eq_1, seqK.eq_2, op2, op1, b1K.eq_1, b1K.eq_2, b1K.eq_3, b1K.eq_4, b1K.eq_5, b1K.eq_6, b1K.eq_7, b1K.eq_8, b1K.eq_9, b1K.eq_10, b1K.eq_11, b1K.eq_12, b1K.eq_13, b1K.eq_14, b1K.eq_15, itK, tgFlat, asOk, wpTg.eq_1, wpTg.eq_2, wpTgs.eq_1, wpTgs.eq_2, wipeS, List.set, sl0, List.map, List.replicate, List.length_cons, List.length_nil, Nat.sub_self, Nat.reduceSub, Nat.reduceAdd, List.cons_append, List.nil_append, if_true]
  refine ⟨rfl, ix0 g ⟨rfl, rng0 g.n (by omega) ?_⟩⟩
  let st : List (Nat × Nat) → Option D → Option D → Option D → Sl := fun l o2 o3 o4 => [some (grD g), some (.tuple [.list ((cmsOf (isA g) g l).map nD), .list ((cmsOf (noA g) g l).map nD)]), o2, o3, o4, none, none]
  refine forW_map nD (fun i Γ g' => ∃ (o2 o3 o4 : Option D), Γ = st (((List.range g.n).take i).flatMap fun a => (List.range a).map fun b => (a, b)) o2 o3 o4 ∧ g' = 0) _ 0 ⟨none, none, none, rfl, rfl⟩ ?_ ?_
  · rintro j x Γ g' nx hx ⟨o2, o3, o4, rfl, rfl⟩ hk
    rw [Nat.zero_add] at hk ⊢
    obtain ⟨hj, ha⟩ := List.getElem?_eq_some_iff.mp hx
    rw [List.length_range] at hj
    rw [List.getElem_range] at ha
    subst ha
    have hpre : (((List.range g.n).take j).flatMap fun a => (List.range a).map fun b => (a, b)).length ≤ 100 := by
      have := flen (l := (List.range g.n).take j) (f := fun a => (List.range a).map fun b => (a, b)) (c := 10) fun a ha => by
        have := List.mem_range.mp (List.mem_of_mem_take ha)
        simp; omega
      have h2 : ((List.range g.n).take j).length ≤ 10 := by rw [List.length_take, List.length_range]; omega
      have h3 := Nat.mul_le_mul_right 10 h2
      omega
    have etk := take_flat g.n j hj fun a => (List.range a).map fun b => (a, b)
    rw [etk] at hk
    generalize (((List.range g.n).take j).flatMap fun a => (List.range a).map fun b => (a, b)) = pre at hpre hk ⊢
    simp only [st, wpB, wpS, wpE, wpL, wpO, wpOT, wpT, fin, getS, optK, intK.eq_1, boolK.eq_1, truK.eq_1, truK.eq_2, truK.eq_3, truK.eq_4, truK.eq_5, seqK.eq_1, seqK.eq_2, op2, op1, b1K.eq_1, b1K.eq_2, b1K.eq_3, b1K.eq_4, b1K.eq_5, b1K.eq_6, b1K.eq_7, b1K.eq_8, b1K.eq_9, b1K.eq_10, b1K.eq_11, b1K.eq_12, b1K.eq_13, b1K.eq_14, b1K.eq_15, itK, tgFlat, asOk, wpTg.eq_1, wpTg.eq_2, wpTgs.eq_1, wpTgs.eq_2, wipeS, List.set, sl0, List.map, List.replicate, List.length_cons, List.length_nil, Nat.sub_self, Nat.reduceSub, Nat.reduceAdd, List.cons_append, List.nil_append, if_true]
    refine ⟨rfl, rng0 j (by omega) ?_⟩
    refine forW_map nD (fun i Γ g' => ∃ (o3 o4 : Option D), Γ = st (pre ++ ((List.range j).take i).map fun b => (j, b)) (some (nD j)) o3 o4 ∧ g' = 0) _ 0 ⟨o3, o4, by simp [st], rfl⟩ ?_ ?_
    · rintro i y Γ g' nx2 hy ⟨o3, o4, rfl, rfl⟩ hk2
      rw [Nat.zero_add] at hk2 ⊢
      obtain ⟨hi, ha⟩ := List.getElem?_eq_some_iff.mp hy
      rw [List.length_range] at hi
      rw [List.getElem_range] at ha
      subst ha
      have htk : (List.range j).take (i + 1) = (List.range j).take i ++ [i] := by
        rw [List.take_succ, List.getElem?_range hi]; rfl
      have e5 : pre ++ ((List.range j).take (i + 1)).map (fun b => (j, b)) = (pre ++ ((List.range j).take i).map fun b => (j, b)) ++ [(j, i)] := by
        rw [htk, List.map_append, List.append_assoc]; rfl
      rw [e5] at hk2
      have hcl : (pre ++ ((List.range j).take i).map fun b => (j, b)).length ≤ 200 := by
        rw [List.length_append, List.length_map, List.length_take, List.length_range]; omega
      generalize (pre ++ ((List.range j).take i).map fun b => (j, b)) = cur at hk2 hcl ⊢
      have c1 := cms_len (isA g) g cur
      have c2 := cms_len (noA g) g cur
      have hbig : big = 16000000 := rfl
      simp only [st, wpB, wpS, wpE, wpL, wpO, wpOT, wpT, fin, getS, optK, intK.eq_1, boolK.eq_1, truK.eq_1, truK.eq_2, truK.eq_3, truK.eq_4, truK.eq_5, seqK.eq_1, seqK.eq_2, op2, op1, b1K.eq_1, b1K.eq_2, b1K.eq_3, b1K.eq_4, b1K.eq_5, b1K.eq_6, b1K.eq_7, b1K.eq_8, b1K.eq_9, b1K.eq_10, b1K.eq_11, b1K.eq_12, b1K.eq_13, b1K.eq_14, b1K.eq_15, itK, tgFlat, asOk, wpTg.eq_1, wpTg.eq_2, wpTgs.eq_1, wpTgs.eq_2, wipeS, List.set, sl0, List.map, List.replicate, List.length_cons, List.length_nil, Nat.sub_self, Nat.reduceSub, Nat.reduceAdd, List.cons_append, List.nil_append, if_true]
      refine ix0 g (rng0 g.n (by omega) ?_)
      refine lcW_map nD (fun c => if (adj g j c && adj g i c) = true then some (nD c) else none) _ (fun c hc K' k => ?_) ?_
      · refine h5 _ _ ⟨g, j, c, rfl, ?_⟩
        cases h1 : adj g j c with
        | false =>
          rw [h1] at k
          simp at k
          simp only [Bool.false_eq_true, if_false]
          exact k
        | true =>
          refine h5 _ _ ⟨g, i, c, rfl, ?_⟩
          rw [h1] at k
          cases h2 : adj g i c with
          | false =>
            rw [h2] at k
            simp at k
            exact k
          | true =>
            rw [h2] at k
            simp at k
            exact k
      · rw [List.nil_append, len_lc]
        refine ⟨rfl, rfl, ?_⟩
        refine h5 _ _ ⟨g, j, i, rfl, ?_⟩
        cases hA : adj g j i with
        | true =>
          refine ⟨⟨by decide, by decide⟩, _, rfl, ⟨rfl, by rw [List.length_map]; omega⟩, hk2 _ _ ⟨some (nD i), some (nD (cm g j i)), ?_, rfl⟩⟩
          have t1 : isA g (j, i) = true := hA
          have t2 : noA g (j, i) = false := by show (!adj g j i) = false; rw [hA]; rfl
          simp only [st]
          rw [cms_snoc, cms_snoc, if_pos t1, if_neg (by rw [t2]; exact Bool.false_ne_true), List.map_append]
          rfl
        | false =>
          refine ⟨⟨by decide, by decide⟩, _, rfl, ⟨rfl, by rw [List.length_map]; omega⟩, hk2 _ _ ⟨some (nD i), some (nD (cm g j i)), ?_, rfl⟩⟩
          have t1 : isA g (j, i) = false := hA
          have t2 : noA g (j, i) = true := by show (!adj g j i) = true; rw [hA]; rfl
          simp only [st]
          rw [cms_snoc, cms_snoc, if_pos t2, if_neg (by rw [t1]; exact Bool.false_ne_true), List.map_append]
          rfl
    · rintro Γ g' ⟨o3, o4, rfl, rfl⟩
      rw [Nat.zero_add, List.take_of_length_le (by simp)]
      exact hk _ _ ⟨some (nD j), o3, o4, rfl, rfl⟩
  · rintro Γ g' ⟨o2, o3, o4, rfl, rfl⟩
    rw [Nat.zero_add, List.take_length]
    have hd := dnp_len g.n hn
    have one : ∀ (l : List Nat) (K' : Option D → Nat → Prop), l.length ≤ 1000 → K' (some (opD (same l))) 0 →
        intsK (l.map nD) (fun is => is.length ≤ 1000 ∧ ∀ m : List Int, m.Nodup → (∀ k, k ∈ m ↔ k ∈ is) → shp (.int (m.length : Int)) ∧ if PyData.eqv (.int (m.length : Int)) (.int 1) = true then ixK (.list (l.map nD)) (.int 0) (fun z => K' (some z) 0) else K' (some .none) 0) := by
      intro l K' hl k
      refine intsK_nat l ⟨by rw [List.length_map]; exact hl, fun m h1 h2 => ⟨shp_nD m.length, ?_⟩⟩
      have ho := same_one l m h1 h2
      have e1 : PyData.eqv (.int (m.length : Int)) (.int 1) = decide (m.length = 1) := eqv_nD m.length 1
      rw [e1]
      by_cases hs : same l = none
      · rw [hs] at k ho
        exact ifF (by simpa using ho) k
      · obtain ⟨x, r, rfl, e⟩ := same_get hs
        rw [e] at k
        exact ifT (by simpa using ho.mpr hs) ⟨⟨by simp; omega, by simp⟩, nD x, rfl, k⟩
    simp only [st, wpB, wpS, wpE, wpL, wpO, wpOT, wpT, fin, getS, optK, intK.eq_1, boolK.eq_1, truK.eq_1, truK.eq_2, truK.eq_3, truK.eq_4, truK.eq_5, seqK.eq_1, seqK.eq_2, op2, op1, b1K.eq_1, b1K.eq_2, b1K.eq_3, b1K.eq_4, b1K.eq_5, b1K.eq_6, b1K.eq_7, b1K.eq_8, b1K.eq_9, b1K.eq_10, b1K.eq_11, b1K.eq_12, b1K.eq_13, b1K.eq_14, b1K.eq_15, itK, tgFlat, asOk, wpTg.eq_1, wpTg.eq_2, wpTgs.eq_1, wpTgs.eq_2, wipeS, List.set, sl0, List.map, List.replicate, List.length_cons, List.length_nil, Nat.sub_self, Nat.reduceSub, Nat.reduceAdd, List.cons_append, List.nil_append, if_true]
    refine lcW_map (fun l : List Nat => .list (l.map nD)) (fun l => some (opD (same l))) [nearL g, farL g] (fun l hl K' k => ?_) ?_
    · have hll : l.length ≤ 1000 := by
        rcases List.mem_cons.mp hl with e | e
        · rw [e]; have := cms_len (isA g) g (dnp g.n); exact Nat.le_trans this (by omega)
        · rw [List.mem_singleton] at e
          rw [e]; have := cms_len (noA g) g (dnp g.n); exact Nat.le_trans this (by omega)
      simp only [wpB, wpS, wpE, wpL, wpO, wpOT, wpT, fin, getS, optK, intK.eq_1, boolK.eq_1, truK.eq_1, truK.eq_2, truK.eq_3, truK.eq_4, truK.eq_5, seqK.eq_1, seqK.eq_2, op2, op1, b1K.eq_1, b1K.eq_2, b1K.eq_3, b1K.eq_4, b1K.eq_5, b1K.eq_6, b1K.eq_7, b1K.eq_8, b1K.eq_9, b1K.eq_10, b1K.eq_11, b1K.eq_12, b1K.eq_13, b1K.eq_14, b1K.eq_15, itK, tgFlat, asOk, wpTg.eq_1, wpTg.eq_2, wpTgs.eq_1, wpTgs.eq_2, wipeS, List.set, sl0, List.map, List.replicate, List.length_cons, List.length_nil, Nat.sub_self, Nat.reduceSub, Nat.reduceAdd, List.cons_append, List.nil_append, if_true]
      exact one l K' hll k
    · refine ⟨?_, q⟩
      show ((flat (opD (same (nearL g))) && (flat (opD (same (farL g))) && true)) || _ || _) = true
      rw [flat_opD, flat_opD]; rfl
end
end W3
namespace W3
open PySem
def Su : Nat → (Nat → Nat) → Nat
  | 0, _ => 0
  | n + 1, f => Su n f + f n
theorem su_congr {n : Nat} {f h : Nat → Nat} (e : ∀ i, i < n → f i = h i) : Su n f = Su n h := by
  induction n with
  | zero => rfl
  | succ n ih =>
    show Su n f + f n = Su n h + h n
    rw [ih fun i hi => e i (by omega), e n (by omega)]
theorem su_add (n : Nat) (f h : Nat → Nat) : Su n (fun i => f i + h i) = Su n f + Su n h := by
  induction n with
  | zero => rfl
  | succ n ih =>
    show Su n _ + (f n + h n) = Su n f + f n + (Su n h + h n)
    rw [ih]; omega
theorem su_const (n c : Nat) : Su n (fun _ => c) = n * c := by
  induction n with
  | zero => simp [Su]
  | succ n ih =>
    show Su n _ + c = _
    rw [ih, Nat.succ_mul]
theorem su_mul (n c : Nat) (f : Nat → Nat) : Su n (fun i => c * f i) = c * Su n f := by
  induction n with
  | zero => simp [Su]
  | succ n ih =>
    show Su n _ + c * f n = c * (Su n f + f n)
    rw [ih, Nat.mul_add]
theorem su_mulr (n c : Nat) (f : Nat → Nat) : Su n (fun i => f i * c) = Su n f * c := by
  rw [Nat.mul_comm, ← su_mul]
  exact su_congr fun i _ => Nat.mul_comm _ _
theorem su_zero (n : Nat) : Su n (fun _ => 0) = 0 := by rw [su_const]; simp
theorem su_swap (n m : Nat) (f : Nat → Nat → Nat) : Su n (fun i => Su m fun j => f i j) = Su m fun j => Su n fun i => f i j := by
  induction n with
  | zero => exact (su_zero m).symm
  | succ n ih =>
    show Su n (fun i => Su m fun j => f i j) + (Su m fun j => f n j) = Su m fun j => Su n (fun i => f i j) + f n j
    rw [ih, su_add]
theorem su_ind {n a : Nat} (h : a < n) (f : Nat → Nat) : Su n (fun i => if i = a then f i else 0) = f a := by
  induction n with
  | zero => omega
  | succ n ih =>
    show Su n _ + (if n = a then f n else 0) = f a
    by_cases e : n = a
    · subst e
      rw [if_pos rfl]
      have : Su n (fun i => if i = n then f i else 0) = 0 := (su_congr fun i hi => if_neg (by omega)).trans (su_zero n)
      rw [this]; omega
    · rw [if_neg e, ih (by omega)]; omega
theorem su_le {n : Nat} {f h : Nat → Nat} (e : ∀ i, i < n → f i ≤ h i) : Su n f ≤ Su n h := by
  induction n with
  | zero => exact Nat.le_refl _
  | succ n ih =>
    have := ih fun i hi => e i (by omega)
    have := e n (by omega)
    show Su n f + f n ≤ Su n h + h n
    omega
theorem cnt_su (n : Nat) (p : Nat → Bool) : ((List.range n).filter p).length = Su n fun i => if p i = true then 1 else 0 := by
  induction n with
  | zero => rfl
  | succ n ih =>
    rw [List.range_succ, List.filter_append, List.length_append, ih]
    show _ = Su n _ + (if p n = true then 1 else 0)
    cases h : p n <;> simp [h]
theorem sum_su (n : Nat) (p : Nat → Bool) (f : Nat → Nat) : (((List.range n).filter p).map f).sum = Su n fun i => if p i = true then f i else 0 := by
  induction n with
  | zero => rfl
  | succ n ih =>
    rw [List.range_succ, List.filter_append, List.map_append, List.sum_append, ih]
    show _ = Su n _ + (if p n = true then f n else 0)
    cases h : p n <;> simp [h]
/-- joined, as a number -/
def A (g : Gr) (a b : Nat) : Nat := if adj g a b = true then 1 else 0
theorem pr_comm (a b : Nat) : pr a b = pr b a := by
  unfold pr
  by_cases h : a < b
  · rw [if_pos h, if_neg (by omega)]
  · rw [if_neg h]
    by_cases h2 : b < a
    · rw [if_pos h2]
    · rw [if_neg h2, show a = b by omega]
theorem adj_symm (g : Gr) (a b : Nat) : adj g a b = adj g b a := by
  unfold adj
  rw [pr_comm a b]
  by_cases h : a = b
  · subst h; rfl
  · have h2 : ¬ b = a := fun z => h z.symm
    simp [h, h2]
theorem adj_self (g : Gr) (a : Nat) : adj g a a = false := by unfold adj; simp
theorem A_symm (g : Gr) (a b : Nat) : A g a b = A g b a := by unfold A; rw [adj_symm]
theorem A_self (g : Gr) (a : Nat) : A g a a = 0 := by unfold A; rw [adj_self]; rfl
theorem deg_su (g : Gr) (a : Nat) : deg g a = Su g.n (A g a) := cnt_su _ _
theorem cm_su (g : Gr) (a b : Nat) : cm g a b = Su g.n fun c => A g a c * A g b c := by
  unfold cm
  rw [cnt_su]
  refine su_congr fun c _ => ?_
  unfold A
  cases adj g a c <;> cases adj g b c <;> rfl
theorem cm_symm (g : Gr) (a b : Nat) : cm g a b = cm g b a := by
  rw [cm_su, cm_su]
  exact su_congr fun c _ => Nat.mul_comm _ _
theorem cm_self (g : Gr) (a : Nat) : cm g a a = deg g a := by
  rw [cm_su, deg_su]
  refine su_congr fun c _ => ?_
  unfold A
  cases adj g a c <;> rfl
/-- the other graph -/
def cpl (g : Gr) : Gr := ⟨g.n, (allp g.n).filter fun p => decide (p ∉ g.es)⟩
theorem adj_cpl {g : Gr} {a b : Nat} (ha : a < g.n) (hb : b < g.n) : adj (cpl g) a b = (decide (a ≠ b) && !adj g a b) := by
  unfold adj
  by_cases h : a = b
  · simp [h]
  · have hm : pr a b ∈ (cpl g).es ↔ pr a b ∉ g.es := by
      show pr a b ∈ (allp g.n).filter _ ↔ _
      rw [List.mem_filter, decide_eq_true_iff]
      exact ⟨fun z => z.2, fun z => ⟨mem_allp.mpr (pr_ok h ha hb), z⟩⟩
    by_cases h2 : pr a b ∈ g.es
    · have : pr a b ∉ (cpl g).es := fun z => hm.mp z h2
      simp [h, h2, this]
    · simp [h, h2, hm.mpr h2]
theorem deg_cpl {g : Gr} {a : Nat} (ha : a < g.n) : deg (cpl g) a + deg g a + 1 = g.n := by
  rw [deg_su, deg_su]
  have h1 : Su g.n (fun i => if i = a then 1 else 0) = 1 := su_ind ha fun _ => 1
  have e : Su g.n (fun i => (A (cpl g) a i + A g a i) + (if i = a then 1 else 0)) = Su g.n fun _ => 1 := su_congr fun i hi => by
    unfold A
    rw [adj_cpl ha hi]
    by_cases h : i = a
    · subst h; rw [adj_self]; simp
    · have h2 : ¬ a = i := fun z => h z.symm
      cases adj g a i <;> simp [h, h2]
  rw [su_add, su_add, h1, su_const] at e
  show Su g.n _ + _ + 1 = _
  omega
theorem cm_cpl {g : Gr} {a b : Nat} (ha : a < g.n) (hb : b < g.n) (hab : a ≠ b) : cm (cpl g) a b + deg g a + deg g b + 2 = g.n + cm g a b + 2 * A g a b := by
  rw [cm_su, cm_su, deg_su, deg_su]
  have h1 : Su g.n (fun i => if i = a then 1 else 0) = 1 := su_ind ha fun _ => 1
  have h2 : Su g.n (fun i => if i = b then 1 else 0) = 1 := su_ind hb fun _ => 1
  have h3 : Su g.n (fun i => if i = a then A g b i else 0) = A g b a := su_ind ha _
  have h4 : Su g.n (fun i => if i = b then A g a i else 0) = A g a b := su_ind hb _
  have e : Su g.n (fun i => (((A (cpl g) a i * A (cpl g) b i + A g a i) + A g b i) + (if i = a then 1 else 0)) + (if i = b then 1 else 0)) =
      Su g.n fun i => ((1 + A g a i * A g b i) + (if i = a then A g b i else 0)) + (if i = b then A g a i else 0) := su_congr fun i hi => by
    unfold A
    rw [adj_cpl ha hi, adj_cpl hb hi]
    by_cases e1 : i = a
    · subst e1
      have e2 : ¬ b = i := fun z => hab z.symm
      rw [adj_self]
      cases adj g b i <;> simp [hab, e2]
    · have f1 : ¬ a = i := fun z => e1 z.symm
      by_cases e2 : i = b
      · subst e2
        rw [adj_self]
        cases adj g a i <;> simp [e1, f1]
      · have f2 : ¬ b = i := fun z => e2 z.symm
        cases adj g a i <;> cases adj g b i <;> simp [e1, f1, e2, f2]
  simp only [su_add] at e
  rw [h1, h2, h3, h4, su_const, A_symm g b a] at e
  have : Su (cpl g).n (fun c => A (cpl g) a c * A (cpl g) b c) = Su g.n (fun c => A (cpl g) a c * A (cpl g) b c) := rfl
  rw [this]
  have c1 : Su g.n (A g a) = Su g.n (fun i => A g a i) := rfl
  have c2 : Su g.n (A g b) = Su g.n (fun i => A g b i) := rfl
  rw [c1, c2]
  omega
/-- the counting of ways of two steps -/
theorem srg {g : Gr} {k x y : Nat} (h0 : 0 < g.n) (hk : ∀ a, a < g.n → deg g a = k) (hx : ∀ a b, a < g.n → b < g.n → adj g a b = true → cm g a b = x) (hy : ∀ a b, a < g.n → b < g.n → a ≠ b → adj g a b = false → cm g a b = y) :
    ∃ r, r + k + 1 = g.n ∧ k * k = k + k * x + r * y := by
  have d0 := deg_cpl h0
  have dd0 := hk 0 h0
  refine ⟨deg (cpl g) 0, by omega, ?_⟩
  have l : Su g.n (fun c => cm g 0 c) = k * k := by
    have e1 : Su g.n (fun c => cm g 0 c) = Su g.n fun c => Su g.n fun b => A g 0 b * A g c b := su_congr fun c _ => cm_su g 0 c
    rw [e1, su_swap]
    have e2 : Su g.n (fun b => Su g.n fun c => A g 0 b * A g c b) = Su g.n fun b => A g 0 b * k := su_congr fun b hb => by
      rw [su_mul, ← hk b hb, deg_su]
      congr 1
      exact su_congr fun c _ => A_symm g c b
    rw [e2, su_mulr]
    have : Su g.n (fun b => A g 0 b) = k := by rw [← dd0, deg_su]
    rw [this]
  have r : Su g.n (fun c => cm g 0 c) = k + k * x + deg (cpl g) 0 * y := by
    have e1 : Su g.n (fun c => cm g 0 c) = Su g.n fun c => ((if c = 0 then k else 0) + A g 0 c * x) + A (cpl g) 0 c * y := su_congr fun c hc => by
      unfold A
      rw [adj_cpl h0 hc]
      by_cases e : c = 0
      · subst e
        rw [adj_self, cm_self, dd0]; simp
      · have e' : ¬ 0 = c := fun z => e z.symm
        cases ha : adj g 0 c with
        | true => rw [hx 0 c h0 hc ha]; simp [e]
        | false => rw [hy 0 c h0 hc e' ha]; simp [e, e']
    rw [e1, su_add, su_add, su_mulr, su_mulr, su_ind h0 fun _ => k, deg_su (cpl g)]
    have : Su g.n (fun c => A g 0 c) = k := by rw [← dd0, deg_su]
    rw [this]
    rfl
  rw [← l, r]
/-- ways of two steps -/
theorem getD_map (f : Nat → Nat) {n i : Nat} (h : i < n) : ((List.range n).map f).getD i 0 = f i := by
  rw [List.getD_eq_getElem?_getD, List.getElem?_map, List.getElem?_range h]; rfl
theorem wk_two {g : Gr} {a b : Nat} (ha : a < g.n) (hb : b < g.n) : (wk g a 2).getD b 0 = cm g a b := by
  have w1 : ∀ v, v < g.n → (wk g a 1).getD v 0 = A g v a := fun v hv => by
    show ((List.range g.n).map fun v => ((nbs g v).map fun c => (wk g a 0).getD c 0).sum).getD v 0 = _
    rw [getD_map _ hv]
    unfold nbs
    rw [sum_su]
    have e : Su g.n (fun i => if adj g v i = true then (wk g a 0).getD i 0 else 0) = Su g.n fun i => if i = a then A g v i else 0 := su_congr fun i hi => by
      have : (wk g a 0).getD i 0 = if i = a then 1 else 0 := getD_map _ hi
      rw [this]
      unfold A
      cases adj g v i <;> simp
    rw [e, su_ind ha]
  show ((List.range g.n).map fun v => ((nbs g v).map fun c => (wk g a 1).getD c 0).sum).getD b 0 = _
  rw [getD_map _ hb]
  unfold nbs
  rw [sum_su, cm_symm, cm_su]
  refine su_congr fun i hi => ?_
  rw [w1 i hi]
  unfold A
  rw [adj_symm g i a]
  cases adj g b i <;> cases adj g a i <;> rfl
end W3
namespace W3
open PySem
open PySem.W (alike alikeAll dataLt AllAlike Sortable dataLe AlikeAll minD maxD)
def ltD (l : List Nat) : D := .tuple (l.map nD)
theorem flat_ltD (l : List Nat) : flat (ltD l) = true := by
  show flats (l.map nD) = true
  exact flats_map _ flat_nD l
theorem depth_nDs (l : List Nat) : PyData.depthAll (l.map nD) ≤ 1 := by
  induction l with
  | nil => simp [PyData.depthAll]
  | cons a l ih =>
    simp only [List.map_cons, PyData.depthAll, nD, PyData.depth]
    omega
theorem shp_ltD (l : List Nat) : shp (ltD l) := by
  have := depth_nDs l
  unfold shp ltD
  simp only [PyData.depth]
  omega
theorem alike_nDs : ∀ a b : List Nat, alikeAll (a.map nD) (b.map nD) = true
  | [], _ => by simp [alikeAll]
  | _ :: _, [] => by simp [alikeAll]
  | a :: l, b :: m => by
    rw [List.map_cons, List.map_cons, alikeAll, alike_nDs l m]
    rfl
theorem alike_ltD (a b : List Nat) : alike (ltD a) (ltD b) = true := by
  unfold ltD
  rw [alike]
  exact alike_nDs a b
theorem eqv_nDs : ∀ a b : List Nat, PyData.eqvAll (a.map nD) (b.map nD) = decide (a = b)
  | [], [] => by simp [PyData.eqvAll]
  | [], _ :: _ => by simp [PyData.eqvAll]
  | _ :: _, [] => by simp [PyData.eqvAll]
  | a :: l, b :: m => by
    rw [List.map_cons, List.map_cons, PyData.eqvAll, eqv_nDs l m, eqv_nD]
    by_cases h : a = b <;> by_cases h2 : l = m <;> simp [h, h2]
theorem eqv_ltD (a b : List Nat) : PyData.eqv (ltD a) (ltD b) = decide (a = b) := by
  unfold ltD
  rw [PyData.eqv]
  exact eqv_nDs a b
def lotLe (a b : List Nat) : Bool := dataLe false (fun d : D => d) (ltD a) (ltD b)
theorem sort_lots (l : List (List Nat)) : sortD false (l.map ltD) = (l.mergeSort lotLe).map ltD := by
  unfold sortD
  rw [List.map_mergeSort (f := ltD) (l := l) (r := lotLe) (s := dataLe false fun d => d) fun a _ b _ => rfl]
theorem srtOk_lots (l : List (List Nat)) : srtOk (l.map ltD) := by
  refine ⟨⟨fun d hd d' hd' => ?_, .inr fun d hd => ?_⟩, fun d hd => ?_⟩
  · obtain ⟨x, _, rfl⟩ := List.mem_map.mp hd
    obtain ⟨y, _, rfl⟩ := List.mem_map.mp hd'
    exact alike_ltD x y
  · obtain ⟨x, _, rfl⟩ := List.mem_map.mp hd
    exact ⟨_, rfl⟩
  · obtain ⟨x, _, rfl⟩ := List.mem_map.mp hd
    exact shp_ltD x
theorem in_lots (x : List Nat) (l : List (List Nat)) : inD (ltD x) (l.map ltD) = decide (x ∈ l) := inD_map ltD eqv_ltD x l
theorem in_nDs (x : Nat) (l : List Nat) : inD (nD x) (l.map nD) = decide (x ∈ l) := inD_map nD eqv_nD x l
theorem flats_lots (l : List (List Nat)) : flats (l.map ltD) = true := flats_map _ flat_ltD l
def ext1 (found : List (List Nat)) (x : Nat) : List (List Nat) := found ++ found.map fun row => row ++ [x]
def sub0 (l : List Nat) : List (List Nat) := l.foldl ext1 [[]]
def subs (l : List Nat) : List (List Nat) := (sub0 l).mergeSort lotLe
theorem sub0_len (l : List Nat) : (sub0 l).length = 2 ^ l.length := by
  have key : ∀ (l : List Nat) (f : List (List Nat)), (l.foldl ext1 f).length = f.length * 2 ^ l.length := fun l => by
    induction l with
    | nil => intro f; simp
    | cons x l ih =>
      intro f
      rw [List.foldl_cons, ih, List.length_cons, Nat.pow_succ]
      unfold ext1
      rw [List.length_append, List.length_map, Nat.mul_comm (2 ^ l.length) 2, ← Nat.mul_assoc]
      congr 1
      omega
  unfold sub0
  rw [key]
  simp
theorem mem_sub0 {l x : List Nat} : x ∈ sub0 l ↔ x.Sublist l := by
  have key : ∀ (l : List Nat) (f : List (List Nat)), x ∈ l.foldl ext1 f ↔ ∃ a ∈ f, ∃ b, b.Sublist l ∧ x = a ++ b := fun l => by
    induction l with
    | nil =>
      intro f
      constructor
      · intro h
        exact ⟨x, h, [], List.Sublist.refl _, by simp⟩
      · rintro ⟨a, ha, b, hb, rfl⟩
        rw [List.sublist_nil.mp hb, List.append_nil]
        exact ha
    | cons y l ih =>
      intro f
      rw [List.foldl_cons, ih]
      constructor
      · rintro ⟨a, ha, b, hb, rfl⟩
        rcases List.mem_append.mp ha with h | h
        · exact ⟨a, h, b, hb.trans (List.sublist_cons_self _ _), rfl⟩
        · obtain ⟨c, hc, rfl⟩ := List.mem_map.mp h
          exact ⟨c, hc, y :: b, hb.cons_cons y, by simp⟩
      · rintro ⟨a, ha, b, hb, rfl⟩
        cases hb with
        | cons _ h => exact ⟨a, List.mem_append_left _ ha, b, h, rfl⟩
        | cons_cons _ h => exact ⟨a ++ [y], List.mem_append_right _ (List.mem_map.mpr ⟨a, ha, rfl⟩), _, h, by simp⟩
  unfold sub0
  rw [key]
  constructor
  · rintro ⟨a, ha, b, hb, rfl⟩
    rw [List.mem_singleton.mp ha]
    exact hb
  · intro h
    exact ⟨[], List.mem_singleton.mpr rfl, x, h, rfl⟩
theorem mem_subs {l x : List Nat} : x ∈ subs l ↔ x.Sublist l := ((List.mergeSort_perm _ _).mem_iff).trans mem_sub0
theorem subs_len (l : List Nat) : (subs l).length = 2 ^ l.length := (List.length_mergeSort _).trans (sub0_len l)
def sp4 : List D → (D → Prop) → Prop := fun ds Q => ∃ g : Gr, ds = [grD g] ∧ g.n ≤ 1000 ∧ Q (ltD (List.range g.n))
def sp0 : List D → (D → Prop) → Prop := fun ds Q => ∃ l : List Nat, ds = [ltD l] ∧ l.length ≤ 12 ∧ Q (.list ((subs l).map ltD))
section
variable {Φ : Fam}
theorem w4 {ds : List D} {Q : D → Prop} (h : sp4 ds Q) : wpB Φ [] b4 (sl0 N4 ds) 0 { nx := fun _ _ => Q .none, rt := fun d _ => Q d } := by
  obtain ⟨g, rfl, hn, q⟩ := h
  simp only [b4, N4, wpB, wpS, wpE, wpL, wpO, wpOT, wpT, fin, getS, optK, intK.eq_1, boolK.eq_1, truK.eq_1, truK.eq_2, truK.eq_3, truK.eq_4, truK.eq_5, seqK.eq_1, seqK.eq_2, op2, op1, b1K.eq_1, b1K.eq_2, b1K.eq_3, b1K.eq_4, b1K.eq_5, b1K.eq_6, b1K.eq_7, b1K.eq_8, b1K.eq_9, b1K.eq_10, b1K.eq_11, b1K.eq_12, b1K.eq_13, b1K.eq_14, b1K.eq_15, itK, tgFlat, asOk, wpTg.eq_1, wpTg.eq_2, wpTgs.eq_1, wpTgs.eq_2, wipeS, List.set, sl0, List.map, List.replicate, List.length_cons, List.length_nil, Nat.sub_self, Nat.reduceSub, Nat.reduceAdd, List.cons_append, List.nil_append, if_true]
  refine ix0 g (rng1 _ (by omega) ?_)
  refine ⟨?_, q⟩
  show (flat (ltD (List.range g.n)) || _ || _) = true
  rw [flat_ltD]; rfl
theorem pow12 {n : Nat} (h : n ≤ 12) : 2 ^ n ≤ 4096 := Nat.pow_le_pow_right (n := 2) (by decide) h
theorem w0 {ds : List D} {Q : D → Prop} (h : sp0 ds Q) : wpB Φ [1] b0 (sl0 N0 ds) 0 { nx := fun _ _ => Q .none, rt := fun d _ => Q d } := by
  obtain ⟨l, rfl, hl, q⟩ := h
  simp only [b0, N0, ltD, wpB, wpS, wpE, wpL, wpO, wpOT, wpT, fin, getS, optK, intK.eq_1, boolK.eq_1, truK.eq_1, truK.eq_2, truK.eq_3, truK.eq_4, truK.eq_5, seqK.eq_1, seqK.eq_2, op2, op1, b1K.eq_1, b1K.eq_2, b1K.eq_3, b1K.eq_4, b1K.eq_5, b1K.eq_6, b1K.eq_7, b1K.eq_8, b1K.eq_9, b1K.eq_10, b1K.eq_11, b1K.eq_12, b1K.eq_13, b1K.eq_14, b1K.eq_15, itK, tgFlat, asOk, wpTg.eq_1, wpTg.eq_2, wpTgs.eq_1, wpTgs.eq_2, wipeS, List.set, sl0, List.map, List.replicate, List.length_cons, List.length_nil, Nat.sub_self, Nat.reduceSub, Nat.reduceAdd, List.cons_append, List.nil_append, if_true]
  refine ⟨rfl, ?_, ?_⟩
  · show flats (l.map nD) = true
    exact flats_map _ flat_nD l
  refine forW_map nD (fun i Γ g => ∃ (o1 o2 : Option D), Γ = [some (ltD l), some (.list ((sub0 (l.take i)).map ltD)), o1, o2] ∧ g = 0) l 0 ⟨none, none, rfl, rfl⟩ ?_ ?_
  · rintro j x Γ g nx hx ⟨o1, o2, rfl, rfl⟩ hk
    rw [Nat.zero_add] at hk ⊢
    have hj : j < l.length := (List.getElem?_eq_some_iff.mp hx).1
    have htk : l.take (j + 1) = l.take j ++ [x] := by
      rw [List.take_succ, hx]; rfl
    have hln : (sub0 (l.take j)).length ≤ 4096 := by
      rw [sub0_len]
      exact pow12 (by rw [List.length_take]; omega)
    generalize hs : sub0 (l.take j) = s at hln
    have e2 : sub0 (l.take (j + 1)) = ext1 s x := by
      rw [htk, ← hs]
      unfold sub0
      rw [List.foldl_append]
      rfl
    simp only [lstK, wpB, wpS, wpE, wpL, wpO, wpOT, wpT, fin, getS, optK, intK.eq_1, boolK.eq_1, truK.eq_1, truK.eq_2, truK.eq_3, truK.eq_4, truK.eq_5, seqK.eq_1, seqK.eq_2, op2, op1, b1K.eq_1, b1K.eq_2, b1K.eq_3, b1K.eq_4, b1K.eq_5, b1K.eq_6, b1K.eq_7, b1K.eq_8, b1K.eq_9, b1K.eq_10, b1K.eq_11, b1K.eq_12, b1K.eq_13, b1K.eq_14, b1K.eq_15, itK, tgFlat, asOk, wpTg.eq_1, wpTg.eq_2, wpTgs.eq_1, wpTgs.eq_2, wipeS, List.set, sl0, List.map, List.replicate, List.length_cons, List.length_nil, Nat.sub_self, Nat.reduceSub, Nat.reduceAdd, List.cons_append, List.nil_append, if_true]
    refine ⟨rfl, ?_⟩
    refine lcW_map ltD (fun row => some (ltD (row ++ [x]))) s (fun row hrow K' k => ?_) ?_
    · simp only [ltD, wpB, wpS, wpE, wpL, wpO, wpOT, wpT, fin, getS, optK, intK.eq_1, boolK.eq_1, truK.eq_1, truK.eq_2, truK.eq_3, truK.eq_4, truK.eq_5, seqK.eq_1, seqK.eq_2, op2, op1, b1K.eq_1, b1K.eq_2, b1K.eq_3, b1K.eq_4, b1K.eq_5, b1K.eq_6, b1K.eq_7, b1K.eq_8, b1K.eq_9, b1K.eq_10, b1K.eq_11, b1K.eq_12, b1K.eq_13, b1K.eq_14, b1K.eq_15, itK, tgFlat, asOk, wpTg.eq_1, wpTg.eq_2, wpTgs.eq_1, wpTgs.eq_2, wipeS, List.set, sl0, List.map, List.replicate, List.length_cons, List.length_nil, Nat.sub_self, Nat.reduceSub, Nat.reduceAdd, List.cons_append, List.nil_append, if_true]
      have hr : row.length ≤ 12 := by
        rw [← hs] at hrow
        have := (mem_sub0.mp hrow).length_le
        rw [List.length_take] at this
        omega
      refine ⟨?_, ?_⟩
      · rw [List.length_map]
        show _ ≤ 16000000
        simp
        omega
      · have e : ltD (row ++ [x]) = .tuple (row.map nD ++ [nD x]) := by unfold ltD; rw [List.map_append]; rfl
        rw [e] at k
        exact k
    · have e : s.filterMap (fun row => some (ltD (row ++ [x]))) = (s.map fun row => row ++ [x]).map ltD := by
        rw [List.map_map]
        induction s with
        | nil => rfl
        | cons y s ih => rw [List.filterMap_cons]; exact congrArg (_ :: ·) (by
            have : ∀ t : List (List Nat), t.filterMap (fun row => some (ltD (row ++ [x]))) = t.map (ltD ∘ fun row => row ++ [x]) := fun t => by
              induction t with
              | nil => rfl
              | cons y t ih => rw [List.filterMap_cons, List.map_cons]; exact congrArg (_ :: ·) ih
            exact this s)
      rw [List.nil_append, e]
      refine ⟨⟨flats_lots s, flats_lots _, ?_⟩, ?_⟩
      · rw [List.length_map, List.length_map, List.length_map]
        show _ ≤ 16000000
        omega
      · refine hk _ _ ⟨some (nD x), o2, ?_, rfl⟩
        rw [e2]
        unfold ext1
        rw [List.map_append]
  · rintro Γ g ⟨o1, o2, rfl, rfl⟩
    rw [Nat.zero_add, List.take_length]
    simp only [wpB, wpS, wpE, wpL, wpO, wpOT, wpT, fin, getS, optK, intK.eq_1, boolK.eq_1, truK.eq_1, truK.eq_2, truK.eq_3, truK.eq_4, truK.eq_5, seqK.eq_1, seqK.eq_2, op2, op1, b1K.eq_1, b1K.eq_2, b1K.eq_3, b1K.eq_4, b1K.eq_5, b1K.eq_6, b1K.eq_7, b1K.eq_8, b1K.eq_9, b1K.eq_10, b1K.eq_11, b1K.eq_12, b1K.eq_13, b1K.eq_14, b1K.eq_15, itK, tgFlat, asOk, wpTg.eq_1, wpTg.eq_2, wpTgs.eq_1, wpTgs.eq_2, wipeS, List.set, sl0, List.map, List.replicate, List.length_cons, List.length_nil, Nat.sub_self, Nat.reduceSub, Nat.reduceAdd, List.cons_append, List.nil_append, if_true]
    refine ⟨srtOk_lots _, ?_⟩
    rw [sort_lots]
    refine ⟨?_, q⟩
    show (false || flats ((subs l).map ltD) || _) = true
    rw [flats_lots]; rfl
end
theorem lt_key {i j : Int} {x y : D} (h : alike x y = true) : (i < j → dataLt (.tuple [.int i, x]) (.tuple [.int j, y]) = true) ∧ (j < i → dataLt (.tuple [.int i, x]) (.tuple [.int j, y]) = false) := by
  have e := PySem.W.dataLt_pair (x := .int i) (x' := .int j) (y := x) (y' := y) rfl h
  rw [e, eqv_int, PySem.W.dataLt_int]
  constructor
  · intro hl
    rw [if_neg (by simp; omega)]
    simp [hl]
  · intro hl
    rw [if_neg (by simp; omega)]
    simp; omega
theorem best_least {α : Type} (e : α → D) (key : α → Int) (lt : D → D → Bool) (h1 : ∀ a b, key a < key b → lt (e a) (e b) = true) (h2 : ∀ a b, key b < key a → lt (e a) (e b) = false) (x : α) (l : List α) :
    ∃ y, y ∈ x :: l ∧ bestBy lt (e x) (l.map e) = e y ∧ ∀ z ∈ x :: l, key y ≤ key z := by
  unfold bestBy
  induction l generalizing x with
  | nil => exact ⟨x, List.mem_singleton.mpr rfl, rfl, fun z hz => by rw [List.mem_singleton.mp hz]; exact Int.le_refl _⟩
  | cons a l ih =>
    rw [List.map_cons, List.foldl_cons]
    cases hc : lt (e a) (e x) with
    | true =>
      have hle : key a ≤ key x := by
        by_cases z : key x < key a
        · rw [h2 a x z] at hc; cases hc
        · omega
      obtain ⟨y, y1, y2, y3⟩ := ih a
      refine ⟨y, List.mem_cons_of_mem _ y1, y2, fun z hz => ?_⟩
      rcases List.mem_cons.mp hz with rfl | hz
      · exact Int.le_trans (y3 a List.mem_cons_self) hle
      · exact y3 z hz
    | false =>
      have hle : key x ≤ key a := by
        by_cases z : key a < key x
        · rw [h1 a x z] at hc; cases hc
        · omega
      obtain ⟨y, y1, y2, y3⟩ := ih x
      refine ⟨y, ?_, y2, fun z hz => ?_⟩
      · rcases List.mem_cons.mp y1 with rfl | y1
        · exact List.mem_cons_self
        · exact List.mem_cons_of_mem _ (List.mem_cons_of_mem _ y1)
      rcases List.mem_cons.mp hz with rfl | hz
      · exact y3 z List.mem_cons_self
      · rcases List.mem_cons.mp hz with rfl | hz
        · exact Int.le_trans (y3 x List.mem_cons_self) hle
        · exact y3 z (List.mem_cons_of_mem _ hz)
end W3
namespace W3
open PySem
open PySem.W (alike alikeAll dataLt AllAlike Sortable dataLe AlikeAll minD maxD)
theorem fmf {α β : Type} (p : α → Bool) (e : α → β) (l : List α) : l.filterMap (fun x => if p x = true then some (e x) else none) = (l.filter p).map e := by
  induction l with
  | nil => rfl
  | cons x l ih => rw [List.filterMap_cons, List.filter_cons, ih]; cases p x <;> rfl
theorem fms {α β : Type} (e : α → β) (l : List α) : l.filterMap (fun x => some (e x)) = l.map e := by
  induction l with
  | nil => rfl
  | cons x l ih => rw [List.filterMap_cons, ih]; rfl
theorem fmap1 {α β : Type} (p : α → Bool) (e : α → β) (l : List α) : l.flatMap (fun x => if p x = true then [e x] else []) = (l.filter p).map e := by
  induction l with
  | nil => rfl
  | cons x l ih => rw [List.flatMap_cons, List.filter_cons, ih]; cases p x <;> rfl
theorem boolsK_map {α : Type} (f : α → Bool) : ∀ (l : List α) {Q : List Bool → Prop}, Q (l.map f) → boolsK (l.map fun x => .bool (f x)) Q
  | [], _, q => q
  | x :: l, Q, q => boolsK_map f l (Q := fun bs => Q (f x :: bs)) q
theorem all_flat (l : List (List Nat)) (f : D → Bool) : ((l.map ltD).all fun d => flat d || f d) = true := by
  rw [List.all_eq_true]
  intro d hd
  obtain ⟨x, _, rfl⟩ := List.mem_map.mp hd
  rw [flat_ltD]; rfl
def prs (l : List Nat) : List (Nat × Nat) := l.flatMap fun a => (l.filter fun b => decide (a < b)).map fun b => (a, b)
theorem mem_prs {l : List Nat} {p : Nat × Nat} : p ∈ prs l ↔ p.1 ∈ l ∧ p.2 ∈ l ∧ p.1 < p.2 := by
  unfold prs
  rw [List.mem_flatMap]
  constructor
  · rintro ⟨a, ha, h⟩
    obtain ⟨b, hb, rfl⟩ := List.mem_map.mp h
    obtain ⟨h1, h2⟩ := List.mem_filter.mp hb
    exact ⟨ha, h1, of_decide_eq_true h2⟩
  · rintro ⟨h1, h2, h3⟩
    exact ⟨p.1, h1, List.mem_map.mpr ⟨p.2, List.mem_filter.mpr ⟨h2, decide_eq_true h3⟩, rfl⟩⟩
theorem prs_len (l : List Nat) : (prs l).length ≤ l.length * l.length := flen fun a _ => by
  rw [List.length_map]
  exact List.length_filter_le _ _
def cliq (g : Gr) (l : List Nat) : Bool := (prs l).all fun p => adj g p.1 p.2
def loose (g : Gr) (l : List Nat) : Bool := !(prs l).any fun p => adj g p.1 p.2
def cnb (g : Gr) (a : Nat) : List Nat := (List.range g.n).filter fun b => decide (a = b) || adj g a b
def wat (g : Gr) (l : List Nat) : Bool := (List.range g.n).all fun a => (cnb g a).any fun b => decide (b ∈ l)
def lots (g : Gr) (p : Gr → List Nat → Bool) : List (List Nat) := (subs (List.range g.n)).filter (p g)
def sp14 : List D → (D → Prop) → Prop := fun ds Q => ∃ (g : Gr) (l : List Nat), ds = [grD g, ltD l] ∧ l.length ≤ 1000 ∧ Q (.bool (cliq g l))
def sp211 : List D → (D → Prop) → Prop := fun ds Q => ∃ (g : Gr) (l : List Nat), ds = [grD g, ltD l] ∧ l.length ≤ 1000 ∧ Q (.bool (loose g l))
def sp212 : List D → (D → Prop) → Prop := fun ds Q => ∃ (g : Gr) (a : Nat), ds = [grD g, nD a] ∧ g.n ≤ 1000 ∧ Q (ltD (cnb g a))
def sp213 : List D → (D → Prop) → Prop := fun ds Q => ∃ (g : Gr) (l : List Nat), ds = [grD g, ltD l] ∧ g.n ≤ 1000 ∧ Q (.bool (wat g l))
def lenD : D → Int
  | .tuple ds => ds.length
  | _ => 0
def kD (l : List Nat) : D := .tuple [.int (-(l.length : Int)), ltD l]
/-- the greatest clique, the first of them -/
def gcl (g : Gr) : List Nat := match lots g cliq with
  | [] => []
  | x :: r => r.foldl (fun a y => if dataLt (kD y) (kD a) = true then y else a) x
def sp21 : List D → (D → Prop) → Prop := fun ds Q => ∃ g : Gr, ds = [grD g] ∧ g.n ≤ 12 ∧ Q (ltD (gcl g))
def sp22 : List D → (D → Prop) → Prop := fun ds Q => ∃ g : Gr, ds = [grD g] ∧ g.n ≤ 12 ∧ Q (ltD (gcl (cpl g)))
def sp214 : List D → (D → Prop) → Prop := fun ds Q => ∃ g : Gr, ds = [grD g] ∧ g.n ≤ 12 ∧ ∀ l ∈ lots g wat, (∀ m ∈ lots g wat, l.length ≤ m.length) → Q (ltD l)
def sp215 : List D → (D → Prop) → Prop := fun ds Q => ∃ g : Gr, ds = [grD g] ∧ g.n ≤ 12 ∧ Q (.list (((lots g loose).filter (wat g)).map ltD))
theorem lots_sub {g : Gr} {p : Gr → List Nat → Bool} {l : List Nat} : l ∈ lots g p ↔ l.Sublist (List.range g.n) ∧ p g l = true := by
  unfold lots
  rw [List.mem_filter, mem_subs]
theorem sub_len {n : Nat} {l : List Nat} (h : l.Sublist (List.range n)) : l.length ≤ n := by
  have := h.length_le
  rwa [List.length_range] at this
theorem wat_all (g : Gr) : wat g (List.range g.n) = true := by
  unfold wat
  rw [List.all_eq_true]
  intro a ha
  rw [List.any_eq_true]
  refine ⟨a, ?_, decide_eq_true ha⟩
  unfold cnb
  rw [List.mem_filter]
  exact ⟨ha, by simp⟩
section
variable {Φ : Fam}
theorem pairs_wp (h5 : Has Φ 5 sp5) (g : Gr) (l : List Nat) (hl : l.length ≤ 1000) {K : List D → Nat → Prop} (k : K ((prs l).map fun p => .bool (adj g p.1 p.2)) 0) (Γ : Sl)
    (f : D → List D → Nat → (List D → Nat → Prop) → Prop) (hf : ∀ a ∈ l, ∀ acc K', acc.length + ((l.filter fun b => decide (a < b)).map fun b => PyData.bool (adj g a b)).length ≤ 10000000 → K' (acc ++ (l.filter fun b => decide (a < b)).map fun b => PyData.bool (adj g a b)) 0 → f (nD a) acc 0 K') : lc2W f (l.map nD) [] 0 K := by
  have e : (prs l).map (fun p => PyData.bool (adj g p.1 p.2)) = l.flatMap fun a => (l.filter fun b => decide (a < b)).map fun b => PyData.bool (adj g a b) := by
    unfold prs
    rw [List.map_flatMap]
    congr 1
    funext a
    rw [List.map_map]
    rfl
  refine lc2W_map 10000000 nD (fun a => (l.filter fun b => decide (a < b)).map fun b => PyData.bool (adj g a b)) l (fun a ha acc K' hB k => hf a ha acc K' hB k) ?_ ?_
  · rw [← e, List.length_map, List.length_nil]
    have := prs_len l
    have : l.length * l.length ≤ 1000 * 1000 := Nat.mul_le_mul hl hl
    omega
  · rw [← e, List.nil_append]
    exact k
theorem w14 (h5 : Has Φ 5 sp5) {ds : List D} {Q : D → Prop} (h : sp14 ds Q) : wpB Φ [] b14 (sl0 N14 ds) 0 { nx := fun _ _ => Q .none, rt := fun d _ => Q d } := by
  obtain ⟨g, l, rfl, hl, q⟩ := h
  simp only [b14, N14, ltD, wpB, wpS, wpE, wpL, wpO, wpOT, wpT, fin, getS, optK, intK.eq_1, boolK.eq_1, truK.eq_1, truK.eq_2, truK.eq_3, truK.eq_4, truK.eq_5, seqK.eq_1, seqK.eq_2, op2, op1, b1K.eq_1, b1K.eq_2, b1K.eq_3, b1K.eq_4, b1K.eq_5, b1K.eq_6, b1K.eq_7, b1K.eq_8, b1K.eq_9, b1K.eq_10, b1K.eq_11, b1K.eq_12, b1K.eq_13, b1K.eq_14, b1K.eq_15, itK, tgFlat, asOk, wpTg.eq_1, wpTg.eq_2, wpTgs.eq_1, wpTgs.eq_2, wipeS, List.set, sl0, List.map, List.replicate, List.length_cons, List.length_nil, Nat.sub_self, Nat.reduceSub, Nat.reduceAdd, List.cons_append, List.nil_append, if_true]
  refine pairs_wp h5 g l hl ?_ [] _ fun a ha acc K' hB k => ?_
  · refine boolsK_map (fun p : Nat × Nat => adj g p.1 p.2) _ ⟨rfl, ?_⟩
    rw [List.all_map]
    exact q
  · rw [← fmap1] at k hB
    refine lc2W_map 10000000 nD (fun b => if decide (a < b) = true then [PyData.bool (adj g a b)] else []) l (fun b hb acc K' hB k => ?_) hB k
    simp only [nD, wpB, wpS, wpE, wpL, wpO, wpOT, wpT, fin, getS, optK, intK.eq_1, boolK.eq_1, truK.eq_1, truK.eq_2, truK.eq_3, truK.eq_4, truK.eq_5, seqK.eq_1, seqK.eq_2, op2, op1, b1K.eq_1, b1K.eq_2, b1K.eq_3, b1K.eq_4, b1K.eq_5, b1K.eq_6, b1K.eq_7, b1K.eq_8, b1K.eq_9, b1K.eq_10, b1K.eq_11, b1K.eq_12, b1K.eq_13, b1K.eq_14, b1K.eq_15, itK, tgFlat, asOk, wpTg.eq_1, wpTg.eq_2, wpTgs.eq_1, wpTgs.eq_2, wipeS, List.set, sl0, List.map, List.replicate, List.length_cons, List.length_nil, Nat.sub_self, Nat.reduceSub, Nat.reduceAdd, List.cons_append, List.nil_append, if_true]
    rw [lt_nD]
    by_cases hab : a < b
    · rw [decide_eq_true hab] at k hB ⊢
      refine h5 _ _ ⟨g, a, b, rfl, ?_, k⟩
      have : big = 16000000 := rfl
      simp at hB
      omega
    · rw [decide_eq_false hab] at k hB ⊢
      simpa using k
theorem w211 (h5 : Has Φ 5 sp5) {ds : List D} {Q : D → Prop} (h : sp211 ds Q) : wpB Φ [] b211 (sl0 N211 ds) 0 { nx := fun _ _ => Q .none, rt := fun d _ => Q d } := by
  obtain ⟨g, l, rfl, hl, q⟩ := h
  simp only [b211, N211, ltD, wpB, wpS, wpE, wpL, wpO, wpOT, wpT, fin, getS, optK, intK.eq_1, boolK.eq_1, truK.eq_1, truK.eq_2, truK.eq_3, truK.eq_4, truK.eq_5, seqK.eq_1, seqK.eq_2, op2, op1, b1K.eq_1, b1K.eq_2, b1K.eq_3, b1K.eq_4, b1K.eq_5, b1K.eq_6, b1K.eq_7, b1K.eq_8, b1K.eq_9, b1K.eq_10, b1K.eq_11, b1K.eq_12, b1K.eq_13, b1K.eq_14, b1K.eq_15, itK, tgFlat, asOk, wpTg.eq_1, wpTg.eq_2, wpTgs.eq_1, wpTgs.eq_2, wipeS, List.set, sl0, List.map, List.replicate, List.length_cons, List.length_nil, Nat.sub_self, Nat.reduceSub, Nat.reduceAdd, List.cons_append, List.nil_append, if_true]
  refine pairs_wp h5 g l hl ?_ [] _ fun a ha acc K' hB k => ?_
  · refine boolsK_map (fun p : Nat × Nat => adj g p.1 p.2) _ ⟨rfl, ?_⟩
    rw [List.any_map]
    exact q
  · rw [← fmap1] at k hB
    refine lc2W_map 10000000 nD (fun b => if decide (a < b) = true then [PyData.bool (adj g a b)] else []) l (fun b hb acc K' hB k => ?_) hB k
    simp only [nD, wpB, wpS, wpE, wpL, wpO, wpOT, wpT, fin, getS, optK, intK.eq_1, boolK.eq_1, truK.eq_1, truK.eq_2, truK.eq_3, truK.eq_4, truK.eq_5, seqK.eq_1, seqK.eq_2, op2, op1, b1K.eq_1, b1K.eq_2, b1K.eq_3, b1K.eq_4, b1K.eq_5, b1K.eq_6, b1K.eq_7, b1K.eq_8, b1K.eq_9, b1K.eq_10, b1K.eq_11, b1K.eq_12, b1K.eq_13, b1K.eq_14, b1K.eq_15, itK, tgFlat, asOk, wpTg.eq_1, wpTg.eq_2, wpTgs.eq_1, wpTgs.eq_2, wipeS, List.set, sl0, List.map, List.replicate, List.length_cons, List.length_nil, Nat.sub_self, Nat.reduceSub, Nat.reduceAdd, List.cons_append, List.nil_append, if_true]
    rw [lt_nD]
    by_cases hab : a < b
    · rw [decide_eq_true hab] at k hB ⊢
      refine h5 _ _ ⟨g, a, b, rfl, ?_, k⟩
      have : big = 16000000 := rfl
      simp at hB
      omega
    · rw [decide_eq_false hab] at k hB ⊢
      simpa using k
theorem w212 (h5 : Has Φ 5 sp5) {ds : List D} {Q : D → Prop} (h : sp212 ds Q) : wpB Φ [] b212 (sl0 N212 ds) 0 { nx := fun _ _ => Q .none, rt := fun d _ => Q d } := by
  obtain ⟨g, a, rfl, hn, q⟩ := h
  simp only [b212, N212, wpB, wpS, wpE, wpL, wpO, wpOT, wpT, fin, getS, optK, intK.eq_1, boolK.eq_1, truK.eq_1, truK.eq_2, truK.eq_3, truK.eq_4, truK.eq_5, seqK.eq_1, seqK.eq_2, op2, op1, b1K.eq_1, b1K.eq_2, b1K.eq_3, b1K.eq_4, b1K.eq_5, b1K.eq_6, b1K.eq_7, b1K.eq_8, b1K.eq_9, b1K.eq_10, b1K.eq_11, b1K.eq_12, b1K.eq_13, b1K.eq_14, b1K.eq_15, itK, tgFlat, asOk, wpTg.eq_1, wpTg.eq_2, wpTgs.eq_1, wpTgs.eq_2, wipeS, List.set, sl0, List.map, List.replicate, List.length_cons, List.length_nil, Nat.sub_self, Nat.reduceSub, Nat.reduceAdd, List.cons_append, List.nil_append, if_true]
  refine ix0 g (rng1 _ (by omega) ?_)
  refine lcW_map nD (fun b => if (decide (a = b) || adj g a b) = true then some (nD b) else none) _ (fun b hb K' k => ?_) ?_
  · refine ⟨shp_nD a, ?_⟩
    rw [eqv_nD]
    by_cases hab : a = b
    · rw [decide_eq_true hab] at k ⊢
      simpa using k
    · rw [decide_eq_false hab] at k ⊢
      simp only [Bool.false_eq_true, if_false, Bool.false_or] at k ⊢
      refine h5 _ _ ⟨g, a, b, rfl, ?_⟩
      cases hx : adj g a b with
      | true => rw [hx] at k; exact k
      | false => rw [hx] at k; exact k
  · rw [fmf, List.nil_append]
    refine ⟨?_, q⟩
    show (flat (ltD (cnb g a)) || _ || _) = true
    rw [flat_ltD]; rfl
theorem w213 (h212 : Has Φ 212 sp212) {ds : List D} {Q : D → Prop} (h : sp213 ds Q) : wpB Φ [] b213 (sl0 N213 ds) 0 { nx := fun _ _ => Q .none, rt := fun d _ => Q d } := by
  obtain ⟨g, l, rfl, hn, q⟩ := h
  simp only [b213, N213, wpB, wpS, wpE, wpL, wpO, wpOT, wpT, fin, getS, optK, intK.eq_1, boolK.eq_1, truK.eq_1, truK.eq_2, truK.eq_3, truK.eq_4, truK.eq_5, seqK.eq_1, seqK.eq_2, op2, op1, b1K.eq_1, b1K.eq_2, b1K.eq_3, b1K.eq_4, b1K.eq_5, b1K.eq_6, b1K.eq_7, b1K.eq_8, b1K.eq_9, b1K.eq_10, b1K.eq_11, b1K.eq_12, b1K.eq_13, b1K.eq_14, b1K.eq_15, itK, tgFlat, asOk, wpTg.eq_1, wpTg.eq_2, wpTgs.eq_1, wpTgs.eq_2, wipeS, List.set, sl0, List.map, List.replicate, List.length_cons, List.length_nil, Nat.sub_self, Nat.reduceSub, Nat.reduceAdd, List.cons_append, List.nil_append, if_true]
  refine ix0 g (rng1 _ (by omega) ?_)
  refine lcW_map nD (fun a => some (.bool ((cnb g a).any fun b => decide (b ∈ l)))) _ (fun a ha K' k => ?_) ?_
  · refine h212 _ _ ⟨g, a, rfl, hn, ?_⟩
    simp only [ltD, wpB, wpS, wpE, wpL, wpO, wpOT, wpT, fin, getS, optK, intK.eq_1, boolK.eq_1, truK.eq_1, truK.eq_2, truK.eq_3, truK.eq_4, truK.eq_5, seqK.eq_1, seqK.eq_2, op2, op1, b1K.eq_1, b1K.eq_2, b1K.eq_3, b1K.eq_4, b1K.eq_5, b1K.eq_6, b1K.eq_7, b1K.eq_8, b1K.eq_9, b1K.eq_10, b1K.eq_11, b1K.eq_12, b1K.eq_13, b1K.eq_14, b1K.eq_15, itK, tgFlat, asOk, wpTg.eq_1, wpTg.eq_2, wpTgs.eq_1, wpTgs.eq_2, wipeS, List.set, sl0, List.map, List.replicate, List.length_cons, List.length_nil, Nat.sub_self, Nat.reduceSub, Nat.reduceAdd, List.cons_append, List.nil_append, if_true]
    refine lcW_map nD (fun b => some (.bool (decide (b ∈ l)))) _ (fun b hb K' k => ?_) ?_
    · refine ⟨shp_nD b, ?_⟩
      rw [in_nDs]
      exact k
    · rw [fms, List.nil_append]
      refine boolsK_map (fun b => decide (b ∈ l)) _ ?_
      rw [List.any_map]
      exact k
  · rw [fms, List.nil_append]
    refine boolsK_map (fun a => (cnb g a).any fun b => decide (b ∈ l)) _ ⟨rfl, ?_⟩
    rw [List.all_map]
    exact q
theorem keyOk_of (kf : List Nat → Int) (rs : List (List Nat)) (f : D → D) (hf : ∀ l ∈ rs, f (ltD l) = .tuple [.int (kf l), ltD l]) : keyOk (rs.map ltD) f := by
  refine ⟨fun d hd e he => ?_, fun d hd => ?_⟩
  · obtain ⟨x, hx, rfl⟩ := List.mem_map.mp hd
    obtain ⟨y, hy, rfl⟩ := List.mem_map.mp he
    rw [hf x hx, hf y hy]
    have := alike_ltD x y
    simp [alike, alikeAll, this]
  · obtain ⟨x, hx, rfl⟩ := List.mem_map.mp hd
    rw [hf x hx]
    refine ⟨⟨_, _, rfl⟩, ?_, ?_⟩
    · have := depth_nDs x
      unfold shp ltD
      simp only [PyData.depth, PyData.depthAll]
      omega
    · show (true && (flat (ltD x) && true)) = true
      rw [flat_ltD]; rfl
/-- the first of the least key, among lots -/
theorem key_lots (kf : List Nat → Int) (rs : List (List Nat)) (h0 : rs ≠ []) {f : D → D} (hf : ∀ l, f (ltD l) = .tuple [.int (kf l), ltD l]) {Q : D → Prop} (q : ∀ l ∈ rs, (∀ m ∈ rs, kf l ≤ kf m) → Q (ltD l)) : keyK 0 (rs.map ltD) f Q := by
  cases rs with
  | nil => exact absurd rfl h0
  | cons x rs =>
    obtain ⟨y, y1, y2, y3⟩ := best_least ltD kf (fun a b => dataLt (f a) (f b)) (fun a b h => by
      show dataLt (f (ltD a)) (f (ltD b)) = true
      rw [hf, hf]; exact (lt_key (alike_ltD a b)).1 h) (fun a b h => by
      show dataLt (f (ltD a)) (f (ltD b)) = false
      rw [hf, hf]; exact (lt_key (alike_ltD a b)).2 h) x rs
    show Q (bestBy _ (ltD x) (rs.map ltD))
    rw [y2]
    exact q y y1 y3
theorem ltD_inj {a b : List Nat} (h : ltD a = ltD b) : a = b := by
  have := eqv_ltD a b
  rw [h] at this
  have e : PyData.eqv (ltD b) (ltD b) = true := (eqv_ltD b b).trans (decide_eq_true rfl)
  rw [e] at this
  exact of_decide_eq_true this.symm
theorem best_map {α : Type} (e : α → D) (lt : D → D → Bool) : ∀ (l : List α) (x : α), bestBy lt (e x) (l.map e) = e (l.foldl (fun a y => if lt (e y) (e a) = true then y else a) x)
  | [], x => rfl
  | y :: l, x => by
    have ih := best_map e lt l (if lt (e y) (e x) = true then y else x)
    unfold bestBy at ih ⊢
    rw [List.map_cons, List.foldl_cons, List.foldl_cons, ← ih]
    congr 1
    cases lt (e y) (e x) <;> rfl
theorem gcl_ok (g : Gr) : gcl g ∈ lots g cliq ∧ ∀ m ∈ lots g cliq, m.length ≤ (gcl g).length := by
  unfold gcl
  have hne : [] ∈ lots g cliq := lots_sub.mpr ⟨List.nil_sublist _, rfl⟩
  cases h : lots g cliq with
  | nil => rw [h] at hne; cases hne
  | cons x r =>
    let lt : D → D → Bool := fun a b => dataLt (.tuple [.int (-lenD a), a]) (.tuple [.int (-lenD b), b])
    have ek : ∀ l : List Nat, kD l = .tuple [.int (-lenD (ltD l)), ltD l] := fun l => by
      show kD l = PyData.tuple [.int (-((l.map nD).length : Int)), ltD l]
      rw [List.length_map]
      rfl
    have e : (fun (a y : List Nat) => if dataLt (kD y) (kD a) = true then y else a) = fun a y => if lt (ltD y) (ltD a) = true then y else a := by
      funext a y
      rw [ek, ek]
    rw [e]
    obtain ⟨y, y1, y2, y3⟩ := best_least ltD (fun l => -(l.length : Int)) lt (fun a b h => by
      show dataLt _ _ = true
      rw [← ek, ← ek]
      exact (lt_key (alike_ltD a b)).1 h) (fun a b h => by
      show dataLt _ _ = false
      rw [← ek, ← ek]
      exact (lt_key (alike_ltD a b)).2 h) x r
    rw [best_map] at y2
    have y2 := ltD_inj y2
    show r.foldl (fun a y => if lt (ltD y) (ltD a) = true then y else a) x ∈ x :: r ∧ ∀ m ∈ x :: r, m.length ≤ (r.foldl (fun a y => if lt (ltD y) (ltD a) = true then y else a) x).length
    rw [y2]
    exact ⟨y1, fun m hm => by have := y3 m hm; omega⟩
theorem lots_wp (h0 : Has Φ 0 sp0) (h4 : Has Φ 4 sp4) (g : Gr) (hn : g.n ≤ 12) {K : D → Prop} (k : K (.list ((subs (List.range g.n)).map ltD))) : Φ.sp 4 [grD g] fun z => Φ.sp 0 [z] K :=
  h4 _ _ ⟨g, rfl, by omega, h0 _ _ ⟨_, rfl, by rw [List.length_range]; omega, k⟩⟩
theorem w21 (h0 : Has Φ 0 sp0) (h4 : Has Φ 4 sp4) (h14 : Has Φ 14 sp14) {ds : List D} {Q : D → Prop} (h : sp21 ds Q) : wpB Φ [1] b21 (sl0 N21 ds) 0 { nx := fun _ _ => Q .none, rt := fun d _ => Q d } := by
  obtain ⟨g, rfl, hn, q⟩ := h
  simp only [b21, N21, wpB, wpS, wpE, wpL, wpO, wpOT, wpT, fin, getS, optK, intK.eq_1, boolK.eq_1, truK.eq_1, truK.eq_2, truK.eq_3, truK.eq_4, truK.eq_5, seqK.eq_1, seqK.eq_2, op2, op1, b1K.eq_1, b1K.eq_2, b1K.eq_3, b1K.eq_4, b1K.eq_5, b1K.eq_6, b1K.eq_7, b1K.eq_8, b1K.eq_9, b1K.eq_10, b1K.eq_11, b1K.eq_12, b1K.eq_13, b1K.eq_14, b1K.eq_15, itK, tgFlat, asOk, wpTg.eq_1, wpTg.eq_2, wpTgs.eq_1, wpTgs.eq_2, wipeS, List.set, sl0, List.map, List.replicate, List.length_cons, List.length_nil, Nat.sub_self, Nat.reduceSub, Nat.reduceAdd, List.cons_append, List.nil_append, if_true]
  refine lots_wp h0 h4 g hn ?_
  simp only [wpB, wpS, wpE, wpL, wpO, wpOT, wpT, fin, getS, optK, intK.eq_1, boolK.eq_1, truK.eq_1, truK.eq_2, truK.eq_3, truK.eq_4, truK.eq_5, seqK.eq_1, seqK.eq_2, op2, op1, b1K.eq_1, b1K.eq_2, b1K.eq_3, b1K.eq_4, b1K.eq_5, b1K.eq_6, b1K.eq_7, b1K.eq_8, b1K.eq_9, b1K.eq_10, b1K.eq_11, b1K.eq_12, b1K.eq_13, b1K.eq_14, b1K.eq_15, itK, tgFlat, asOk, wpTg.eq_1, wpTg.eq_2, wpTgs.eq_1, wpTgs.eq_2, wipeS, List.set, sl0, List.map, List.replicate, List.length_cons, List.length_nil, Nat.sub_self, Nat.reduceSub, Nat.reduceAdd, List.cons_append, List.nil_append, if_true]
  refine lcW_map ltD (fun l => if cliq g l = true then some (ltD l) else none) _ (fun l hl K' k => ?_) ?_
  · have := sub_len (mem_subs.mp hl)
    refine h14 _ _ ⟨g, l, rfl, by omega, ?_⟩
    cases hx : cliq g l with
    | true => rw [hx] at k; exact k
    | false => rw [hx] at k; exact k
  rw [fmf, List.nil_append]
  refine ⟨?_, ?_⟩
  · exact congrArg (fun b => false || b) (all_flat _ (frs _))
  simp only [lstIt, wpB, wpS, wpE, wpL, wpO, wpOT, wpT, fin, getS, optK, intK.eq_1, boolK.eq_1, truK.eq_1, truK.eq_2, truK.eq_3, truK.eq_4, truK.eq_5, seqK.eq_1, seqK.eq_2, op2, op1, b1K.eq_1, b1K.eq_2, b1K.eq_3, b1K.eq_4, b1K.eq_5, b1K.eq_6, b1K.eq_7, b1K.eq_8, b1K.eq_9, b1K.eq_10, b1K.eq_11, b1K.eq_12, b1K.eq_13, b1K.eq_14, b1K.eq_15, itK, tgFlat, asOk, wpTg.eq_1, wpTg.eq_2, wpTgs.eq_1, wpTgs.eq_2, wipeS, List.set, sl0, List.map, List.replicate, List.length_cons, List.length_nil, Nat.sub_self, Nat.reduceSub, Nat.reduceAdd, List.cons_append, List.nil_append, if_true]
  refine ⟨flats_lots _, fun d => .tuple [.int (-lenD d), d], fun d hd => ?_, keyOk_of (fun l => -(l.length : Int)) _ _ (fun l hl => ?_), ?_⟩
  · obtain ⟨l, _, rfl⟩ := List.mem_map.mp hd
    simp only [List.headD, ltD, wpB, wpS, wpE, wpL, wpO, wpOT, wpT, fin, getS, optK, intK.eq_1, boolK.eq_1, truK.eq_1, truK.eq_2, truK.eq_3, truK.eq_4, truK.eq_5, seqK.eq_1, seqK.eq_2, op2, op1, b1K.eq_1, b1K.eq_2, b1K.eq_3, b1K.eq_4, b1K.eq_5, b1K.eq_6, b1K.eq_7, b1K.eq_8, b1K.eq_9, b1K.eq_10, b1K.eq_11, b1K.eq_12, b1K.eq_13, b1K.eq_14, b1K.eq_15, itK, tgFlat, asOk, wpTg.eq_1, wpTg.eq_2, wpTgs.eq_1, wpTgs.eq_2, wipeS, List.set, sl0, List.map, List.replicate, List.length_cons, List.length_nil, Nat.sub_self, Nat.reduceSub, Nat.reduceAdd, List.cons_append, List.nil_append, if_true]
    exact ⟨rfl, Nat.le_refl _⟩
  · show PyData.tuple [.int (-((l.map nD).length : Int)), ltD l] = _
    rw [List.length_map]
  · have hne : [] ∈ lots g cliq := lots_sub.mpr ⟨List.nil_sublist _, rfl⟩
    have fl := flat_ltD (gcl g)
    show keyK 0 ((lots g cliq).map ltD) _ _
    unfold gcl at q fl
    cases hl : lots g cliq with
    | nil => rw [hl] at hne; cases hne
    | cons x r =>
      rw [hl] at q fl
      have ek : ∀ l : List Nat, kD l = .tuple [.int (-lenD (ltD l)), ltD l] := fun l => by
        show kD l = PyData.tuple [.int (-((l.map nD).length : Int)), ltD l]
        rw [List.length_map]
        rfl
      have e : (fun (a y : List Nat) => if dataLt (kD y) (kD a) = true then y else a) = fun a y => if (fun a b : D => dataLt (.tuple [.int (-lenD a), a]) (.tuple [.int (-lenD b), b])) (ltD y) (ltD a) = true then y else a := by
        funext a y
        rw [ek, ek]
      have q : Q (ltD (r.foldl (fun a y => if dataLt (kD y) (kD a) = true then y else a) x)) := q
      have fl : flat (ltD (r.foldl (fun a y => if dataLt (kD y) (kD a) = true then y else a) x)) = true := fl
      rw [e, ← best_map ltD (fun a b : D => dataLt (.tuple [.int (-lenD a), a]) (.tuple [.int (-lenD b), b]))] at q fl
      exact ⟨congrArg (fun b => (b || _) || _) fl, q⟩
theorem w22 (h10 : Has Φ 10 sp10) (h21 : Has Φ 21 sp21) {ds : List D} {Q : D → Prop} (h : sp22 ds Q) : wpB Φ [] b22 (sl0 N22 ds) 0 { nx := fun _ _ => Q .none, rt := fun d _ => Q d } := by
  obtain ⟨g, rfl, hn, q⟩ := h
  simp only [b22, N22, wpB, wpS, wpE, wpL, wpO, wpOT, wpT, fin, getS, optK, intK.eq_1, boolK.eq_1, truK.eq_1, truK.eq_2, truK.eq_3, truK.eq_4, truK.eq_5, seqK.eq_1, seqK.eq_2, op2, op1, b1K.eq_1, b1K.eq_2, b1K.eq_3, b1K.eq_4, b1K.eq_5, b1K.eq_6, b1K.eq_7, b1K.eq_8, b1K.eq_9, b1K.eq_10, b1K.eq_11, b1K.eq_12, b1K.eq_13, b1K.eq_14, b1K.eq_15, itK, tgFlat, asOk, wpTg.eq_1, wpTg.eq_2, wpTgs.eq_1, wpTgs.eq_2, wipeS, List.set, sl0, List.map, List.replicate, List.length_cons, List.length_nil, Nat.sub_self, Nat.reduceSub, Nat.reduceAdd, List.cons_append, List.nil_append, if_true]
  refine h10 _ _ ⟨g, rfl, by omega, h21 _ _ ⟨cpl g, rfl, hn, ?_, q⟩⟩
  show (flat (ltD (gcl (cpl g))) || _ || _) = true
  rw [flat_ltD]; rfl
theorem w214 (h0 : Has Φ 0 sp0) (h4 : Has Φ 4 sp4) (h213 : Has Φ 213 sp213) {ds : List D} {Q : D → Prop} (h : sp214 ds Q) : wpB Φ [] b214 (sl0 N214 ds) 0 { nx := fun _ _ => Q .none, rt := fun d _ => Q d } := by
  obtain ⟨g, rfl, hn, q⟩ := h
  simp only [b214, N214, wpB, wpS, wpE, wpL, wpO, wpOT, wpT, fin, getS, optK, intK.eq_1, boolK.eq_1, truK.eq_1, truK.eq_2, truK.eq_3, truK.eq_4, truK.eq_5, seqK.eq_1, seqK.eq_2, op2, op1, b1K.eq_1, b1K.eq_2, b1K.eq_3, b1K.eq_4, b1K.eq_5, b1K.eq_6, b1K.eq_7, b1K.eq_8, b1K.eq_9, b1K.eq_10, b1K.eq_11, b1K.eq_12, b1K.eq_13, b1K.eq_14, b1K.eq_15, itK, tgFlat, asOk, wpTg.eq_1, wpTg.eq_2, wpTgs.eq_1, wpTgs.eq_2, wipeS, List.set, sl0, List.map, List.replicate, List.length_cons, List.length_nil, Nat.sub_self, Nat.reduceSub, Nat.reduceAdd, List.cons_append, List.nil_append, if_true]
  refine lots_wp h0 h4 g hn ?_
  simp only [wpB, wpS, wpE, wpL, wpO, wpOT, wpT, fin, getS, optK, intK.eq_1, boolK.eq_1, truK.eq_1, truK.eq_2, truK.eq_3, truK.eq_4, truK.eq_5, seqK.eq_1, seqK.eq_2, op2, op1, b1K.eq_1, b1K.eq_2, b1K.eq_3, b1K.eq_4, b1K.eq_5, b1K.eq_6, b1K.eq_7, b1K.eq_8, b1K.eq_9, b1K.eq_10, b1K.eq_11, b1K.eq_12, b1K.eq_13, b1K.eq_14, b1K.eq_15, itK, tgFlat, asOk, wpTg.eq_1, wpTg.eq_2, wpTgs.eq_1, wpTgs.eq_2, wipeS, List.set, sl0, List.map, List.replicate, List.length_cons, List.length_nil, Nat.sub_self, Nat.reduceSub, Nat.reduceAdd, List.cons_append, List.nil_append, if_true]
  refine lcW_map ltD (fun l => if wat g l = true then some (ltD l) else none) _ (fun l hl K' k => ?_) ?_
  · refine h213 _ _ ⟨g, l, rfl, by omega, ?_⟩
    cases hx : wat g l with
    | true => rw [hx] at k; exact k
    | false => rw [hx] at k; exact k
  rw [fmf, List.nil_append]
  simp only [lstIt, wpB, wpS, wpE, wpL, wpO, wpOT, wpT, fin, getS, optK, intK.eq_1, boolK.eq_1, truK.eq_1, truK.eq_2, truK.eq_3, truK.eq_4, truK.eq_5, seqK.eq_1, seqK.eq_2, op2, op1, b1K.eq_1, b1K.eq_2, b1K.eq_3, b1K.eq_4, b1K.eq_5, b1K.eq_6, b1K.eq_7, b1K.eq_8, b1K.eq_9, b1K.eq_10, b1K.eq_11, b1K.eq_12, b1K.eq_13, b1K.eq_14, b1K.eq_15, itK, tgFlat, asOk, wpTg.eq_1, wpTg.eq_2, wpTgs.eq_1, wpTgs.eq_2, wipeS, List.set, sl0, List.map, List.replicate, List.length_cons, List.length_nil, Nat.sub_self, Nat.reduceSub, Nat.reduceAdd, List.cons_append, List.nil_append, if_true]
  refine ⟨flats_lots _, fun d => .tuple [.int (lenD d), d], fun d hd => ?_, keyOk_of (fun l => (l.length : Int)) _ _ (fun l hl => ?_), ?_⟩
  · obtain ⟨l, _, rfl⟩ := List.mem_map.mp hd
    simp only [List.headD, ltD, wpB, wpS, wpE, wpL, wpO, wpOT, wpT, fin, getS, optK, intK.eq_1, boolK.eq_1, truK.eq_1, truK.eq_2, truK.eq_3, truK.eq_4, truK.eq_5, seqK.eq_1, seqK.eq_2, op2, op1, b1K.eq_1, b1K.eq_2, b1K.eq_3, b1K.eq_4, b1K.eq_5, b1K.eq_6, b1K.eq_7, b1K.eq_8, b1K.eq_9, b1K.eq_10, b1K.eq_11, b1K.eq_12, b1K.eq_13, b1K.eq_14, b1K.eq_15, itK, tgFlat, asOk, wpTg.eq_1, wpTg.eq_2, wpTgs.eq_1, wpTgs.eq_2, wipeS, List.set, sl0, List.map, List.replicate, List.length_cons, List.length_nil, Nat.sub_self, Nat.reduceSub, Nat.reduceAdd, List.cons_append, List.nil_append, if_true]
    exact ⟨rfl, Nat.le_refl _⟩
  · show PyData.tuple [.int ((l.map nD).length : Int), ltD l] = _
    rw [List.length_map]
  · refine key_lots (fun l => (l.length : Int)) (lots g wat) (List.ne_nil_of_mem (lots_sub.mpr ⟨List.Sublist.refl _, wat_all g⟩)) (fun l => ?_) fun l hl hm => ⟨?_, q l hl fun m hm' => ?_⟩
    · show PyData.tuple [.int ((l.map nD).length : Int), ltD l] = _
      rw [List.length_map]
    · show (flat (ltD l) || _ || _) = true
      rw [flat_ltD]; rfl
    · have := hm m hm'
      omega
theorem w215 (h0 : Has Φ 0 sp0) (h4 : Has Φ 4 sp4) (h211 : Has Φ 211 sp211) (h213 : Has Φ 213 sp213) {ds : List D} {Q : D → Prop} (h : sp215 ds Q) : wpB Φ [1] b215 (sl0 N215 ds) 0 { nx := fun _ _ => Q .none, rt := fun d _ => Q d } := by
  obtain ⟨g, rfl, hn, q⟩ := h
  simp only [b215, N215, wpB, wpS, wpE, wpL, wpO, wpOT, wpT, fin, getS, optK, intK.eq_1, boolK.eq_1, truK.eq_1, truK.eq_2, truK.eq_3, truK.eq_4, truK.eq_5, seqK.eq_1, seqK.eq_2, op2, op1, b1K.eq_1, b1K.eq_2, b1K.eq_3, b1K.eq_4, b1K.eq_5, b1K.eq_6, b1K.eq_7, b1K.eq_8, b1K.eq_9, b1K.eq_10, b1K.eq_11, b1K.eq_12, b1K.eq_13, b1K.eq_14, b1K.eq_15, itK, tgFlat, asOk, wpTg.eq_1, wpTg.eq_2, wpTgs.eq_1, wpTgs.eq_2, wipeS, List.set, sl0, List.map, List.replicate, List.length_cons, List.length_nil, Nat.sub_self, Nat.reduceSub, Nat.reduceAdd, List.cons_append, List.nil_append, if_true]
  refine lots_wp h0 h4 g hn ?_
  simp only [wpB, wpS, wpE, wpL, wpO, wpOT, wpT, fin, getS, optK, intK.eq_1, boolK.eq_1, truK.eq_1, truK.eq_2, truK.eq_3, truK.eq_4, truK.eq_5, seqK.eq_1, seqK.eq_2, op2, op1, b1K.eq_1, b1K.eq_2, b1K.eq_3, b1K.eq_4, b1K.eq_5, b1K.eq_6, b1K.eq_7, b1K.eq_8, b1K.eq_9, b1K.eq_10, b1K.eq_11, b1K.eq_12, b1K.eq_13, b1K.eq_14, b1K.eq_15, itK, tgFlat, asOk, wpTg.eq_1, wpTg.eq_2, wpTgs.eq_1, wpTgs.eq_2, wipeS, List.set, sl0, List.map, List.replicate, List.length_cons, List.length_nil, Nat.sub_self, Nat.reduceSub, Nat.reduceAdd, List.cons_append, List.nil_append, if_true]
  refine lcW_map ltD (fun l => if loose g l = true then some (ltD l) else none) _ (fun l hl K' k => ?_) ?_
  · have := sub_len (mem_subs.mp hl)
    refine h211 _ _ ⟨g, l, rfl, by omega, ?_⟩
    cases hx : loose g l with
    | true => rw [hx] at k; exact k
    | false => rw [hx] at k; exact k
  rw [fmf, List.nil_append]
  refine ⟨?_, ?_⟩
  · exact congrArg (fun b => false || b) (all_flat _ (frs _))
  refine lcW_map ltD (fun l => if wat g l = true then some (ltD l) else none) _ (fun l hl K' k => ?_) ?_
  · refine h213 _ _ ⟨g, l, rfl, by omega, ?_⟩
    cases hx : wat g l with
    | true => rw [hx] at k; exact k
    | false => rw [hx] at k; exact k
  rw [fmf, List.nil_append]
  exact ⟨congrArg (fun b => (false || b) || false) (all_flat _ (frs _)), q⟩
theorem gl_wp (h22 : Has Φ 22 sp22) {g : Gr} (hn : g.n ≤ 12) {Q : D → Prop} (q : ∀ l ∈ lots (cpl g) cliq, (∀ m ∈ lots (cpl g) cliq, m.length ≤ l.length) → Q (ltD l)) : Φ.sp 22 [grD g] Q :=
  h22 _ _ ⟨g, rfl, hn, q _ (gcl_ok (cpl g)).1 (gcl_ok (cpl g)).2⟩
end
end W3
namespace W3
open PySem
abbrev Fd := List (Option Nat)
def gt (f : Fd) (b : Nat) : Option Nat := f[b]?.join
theorem gt_set {f : Fd} {b c : Nat} {x : Option Nat} (h : b < f.length) : gt (f.set b x) c = if c = b then x else gt f c := by
  unfold gt
  by_cases e : c = b
  · subst e
    rw [if_pos rfl, List.getElem?_set_self h]
    rfl
  · rw [if_neg e, List.getElem?_set_ne (Ne.symm e)]
theorem gt_lt {f : Fd} {b k : Nat} (h : gt f b = some k) : b < f.length := by
  unfold gt at h
  rcases Nat.lt_or_ge b f.length with z | z
  · exact z
  · rw [List.getElem?_eq_none z] at h; cases h
theorem gt_at {f : Fd} {b : Nat} (h : b < f.length) : f[b]? = some (gt f b) := by
  unfold gt
  rw [List.getElem?_eq_getElem h]
  rfl
def bStep (v : Nat) (s : Fd × List Nat) (b : Nat) : Fd × List Nat := if gt s.1 b = none then (s.1.set b (some (v + 1)), s.2 ++ [b]) else s
def bIn (g : Gr) (f : Fd) (h : Nat) (w : List Nat) : Fd × List Nat := (nbs g h).foldl (bStep ((gt f h).getD 0)) (f, w)
def bfsGo (g : Gr) : Nat → Fd → List Nat → Fd
  | 0, f, _ => f
  | _ + 1, f, [] => f
  | k + 1, f, h :: w => bfsGo g k (bIn g f h w).1 (bIn g f h w).2
def bfs0 (g : Gr) (a : Nat) : Fd := (List.replicate g.n none).set a (some 0)
def bfs (g : Gr) (a : Nat) : Fd := bfsGo g (g.n + 1) (bfs0 g a) [a]
def cn (f : Fd) : Nat := f.countP Option.isNone
structure Bj (g : Gr) (a v : Nat) (h : Option Nat) (f : Fd) (w : List Nat) : Prop where
  len : f.length = g.n
  src : gt f a = some 0
  par : ∀ b k, gt f b = some (k + 1) → ∃ u, u < g.n ∧ adj g u b = true ∧ gt f u = some k
  fin : ∀ u k, gt f u = some k → some u = h ∨ u ∈ w ∨ ∀ c, c < g.n → adj g u c = true → ∃ m, gt f c = some m ∧ m ≤ k + 1
  inw : ∀ u ∈ w, ∃ k, gt f u = some k ∧ v ≤ k
  srt : w.Pairwise fun x y => ∀ i j, gt f x = some i → gt f y = some j → i ≤ j
  top : ∀ b k, gt f b = some k → k ≤ v + 1
theorem cn_set {f : Fd} {b k : Nat} (h : gt f b = none) (hb : b < f.length) : cn (f.set b (some k)) + 1 = cn f := by
  have e : f[b] = none := by
    have := gt_at hb
    rw [h, List.getElem?_eq_getElem hb] at this
    exact Option.some.inj this
  have hp : 0 < cn f := List.countP_pos_iff.mpr ⟨none, e ▸ List.getElem_mem hb, rfl⟩
  unfold cn at hp ⊢
  rw [List.countP_set hb, e]
  simp
  omega
theorem bStep_ok {g : Gr} {a v h b : Nat} {f : Fd} {w : List Nat} (J : Bj g a v (some h) f w) (hh : gt f h = some v) (hb : b < g.n) (hadj : adj g h b = true) :
    Bj g a v (some h) (bStep v (f, w) b).1 (bStep v (f, w) b).2 ∧ gt (bStep v (f, w) b).1 h = some v ∧ (∃ m, gt (bStep v (f, w) b).1 b = some m) ∧ (∀ c k, gt f c = some k → gt (bStep v (f, w) b).1 c = some k) ∧
      (bStep v (f, w) b).2.length + cn (bStep v (f, w) b).1 = w.length + cn f := by
  unfold bStep
  cases hg : gt f b with
  | some m =>
    rw [if_neg (by simp [hg])]
    exact ⟨J, hh, ⟨m, hg⟩, fun _ _ h => h, rfl⟩
  | none =>
    rw [if_pos (by simp [hg])]
    have hbl : b < f.length := by rw [J.len]; exact hb
    have keep : ∀ c k, gt f c = some k → gt (f.set b (some (v + 1))) c = some k := fun c k hc => by
      rw [gt_set hbl, if_neg (fun e => by rw [e, hg] at hc; cases hc)]
      exact hc
    have back : ∀ c k, gt (f.set b (some (v + 1))) c = some k → (c = b ∧ k = v + 1) ∨ gt f c = some k := fun c k hc => by
      rw [gt_set hbl] at hc
      by_cases e : c = b
      · rw [if_pos e] at hc
        exact .inl ⟨e, (Option.some.inj hc).symm⟩
      · rw [if_neg e] at hc
        exact .inr hc
    refine ⟨⟨by rw [List.length_set]; exact J.len, keep _ _ J.src, fun c k hc => ?_, fun u k hu => ?_, fun u hu => ?_, ?_, fun c k hc => ?_⟩, keep _ _ hh, ⟨v + 1, by rw [gt_set hbl, if_pos rfl]⟩, keep, ?_⟩
    · rcases back c (k + 1) hc with ⟨e1, e2⟩ | hc
      · subst e1
        refine ⟨h, by rw [← J.len]; exact gt_lt hh, hadj, ?_⟩
        rw [show k = v by omega]
        exact keep _ _ hh
      · obtain ⟨u, h1, h2, h3⟩ := J.par c k hc
        exact ⟨u, h1, h2, keep _ _ h3⟩
    · rcases back u k hu with ⟨e1, e2⟩ | hu
      · subst e1
        exact .inr (.inl (List.mem_append_right _ List.mem_cons_self))
      · rcases J.fin u k hu with z | z | z
        · exact .inl z
        · exact .inr (.inl (List.mem_append_left _ z))
        · refine .inr (.inr fun c h1 h2 => ?_)
          obtain ⟨m, z1, z2⟩ := z c h1 h2
          exact ⟨m, keep _ _ z1, z2⟩
    · rcases List.mem_append.mp hu with hu | hu
      · obtain ⟨k, z1, z2⟩ := J.inw u hu
        exact ⟨k, keep _ _ z1, z2⟩
      · rw [List.mem_singleton.mp hu]
        exact ⟨v + 1, by rw [gt_set hbl, if_pos rfl], by omega⟩
    · rw [List.pairwise_append]
      refine ⟨?_, List.pairwise_singleton _ _, fun x hx y hy i j hi hj => ?_⟩
      · refine List.Pairwise.imp_of_mem (fun {x y} hx hy r i j hi hj => ?_) J.srt
        obtain ⟨k1, z1, _⟩ := J.inw x hx
        obtain ⟨k2, z2, _⟩ := J.inw y hy
        rw [keep _ _ z1] at hi
        rw [keep _ _ z2] at hj
        cases hi
        cases hj
        exact r _ _ z1 z2
      · rw [List.mem_singleton.mp hy, gt_set hbl, if_pos rfl] at hj
        cases hj
        obtain ⟨k1, z1, _⟩ := J.inw x hx
        rw [keep _ _ z1] at hi
        cases hi
        exact J.top x _ z1
    · rcases back c k hc with ⟨e1, e2⟩ | hc
      · omega
      · exact J.top c k hc
    · rw [List.length_append]
      have := cn_set (k := v + 1) hg hbl
      simp
      omega
/-- what holds within the loop over the neighbours ps (a part of them) -/
structure BI (g : Gr) (a v h : Nat) (f : Fd) (w ps : List Nat) (s : Fd × List Nat) : Prop where
  j : Bj g a v (some h) s.1 s.2
  hh : gt s.1 h = some v
  dn : ∀ b ∈ ps, ∃ m, gt s.1 b = some m
  cnt : s.2.length + cn s.1 = w.length + cn f
theorem bIn_part {g : Gr} {a v h : Nat} {f : Fd} {w : List Nat} (J : Bj g a v (some h) f w) (hh : gt f h = some v) (j : Nat) : BI g a v h f w ((nbs g h).take j) (((nbs g h).take j).foldl (bStep v) (f, w)) := by
  induction j with
  | zero => exact ⟨J, hh, (fun b hb => by simp at hb), rfl⟩
  | succ j ih =>
    cases hx : (nbs g h)[j]? with
    | none =>
      rw [List.getElem?_eq_none_iff] at hx
      rw [List.take_of_length_le (by omega)] at ih ⊢
      exact ih
    | some b =>
      have htk : (nbs g h).take (j + 1) = (nbs g h).take j ++ [b] := by rw [List.take_succ, hx]; rfl
      rw [htk, List.foldl_append]
      generalize ((nbs g h).take j).foldl (bStep v) (f, w) = s at ih
      have hm := List.mem_of_getElem? hx
      unfold nbs at hm
      obtain ⟨m1, m2⟩ := List.mem_filter.mp hm
      obtain ⟨r1, r2, r3, r4, r5⟩ := bStep_ok ih.j ih.hh (List.mem_range.mp m1) m2
      refine ⟨r1, r2, fun c hc => ?_, r5.trans ih.cnt⟩
      rcases List.mem_append.mp hc with hc | hc
      · obtain ⟨m, z⟩ := ih.dn c hc
        exact ⟨m, r4 _ _ z⟩
      · rw [List.mem_singleton.mp hc]
        exact r3
/-- the state between two turns -/
structure Bo (g : Gr) (a : Nat) (f : Fd) (w : List Nat) : Prop where
  ex : ∃ v, Bj g a v none f w ∧ ∀ x r, w = x :: r → gt f x = some v
theorem Bo.pop {g : Gr} {a h : Nat} {f : Fd} {w : List Nat} (J : Bo g a f (h :: w)) : ∃ v, gt f h = some v ∧ Bj g a v (some h) f w := by
  obtain ⟨v, J, hv⟩ := J.ex
  refine ⟨v, hv h w rfl, J.len, J.src, J.par, fun u k hu => ?_, fun u hu => J.inw u (List.mem_cons_of_mem _ hu), (List.pairwise_cons.mp J.srt).2, J.top⟩
  rcases J.fin u k hu with z | z | z
  · cases z
  · rcases List.mem_cons.mp z with e | z
    · exact .inl (by rw [e])
    · exact .inr (.inl z)
  · exact .inr (.inr z)
theorem bIn_ok {g : Gr} {a h : Nat} {f : Fd} {w : List Nat} (J : Bo g a f (h :: w)) : Bo g a (bIn g f h w).1 (bIn g f h w).2 ∧ (bIn g f h w).2.length + cn (bIn g f h w).1 = w.length + cn f := by
  obtain ⟨v, hv, J⟩ := J.pop
  have I := bIn_part J hv (nbs g h).length
  rw [List.take_length] at I
  have e : bIn g f h w = (nbs g h).foldl (bStep v) (f, w) := by unfold bIn; rw [hv]; rfl
  rw [e]
  generalize (nbs g h).foldl (bStep v) (f, w) = s at I
  obtain ⟨f', w'⟩ := s
  obtain ⟨J', hh, dn, cnt⟩ := I
  refine ⟨?_, cnt⟩
  have fin : ∀ u k, gt f' u = some k → u ∈ w' ∨ ∀ c, c < g.n → adj g u c = true → ∃ m, gt f' c = some m ∧ m ≤ k + 1 := fun u k hu => by
    rcases J'.fin u k hu with z | z | z
    · cases z
      rw [show gt f' h = some v from hh] at hu
      cases hu
      refine .inr fun c h1 h2 => ?_
      obtain ⟨m, hm⟩ := dn c (List.mem_filter.mpr ⟨List.mem_range.mpr h1, h2⟩)
      exact ⟨m, hm, J'.top _ _ hm⟩
    · exact .inl z
    · exact .inr z
  cases w' with
  | nil => exact ⟨v, ⟨J'.len, J'.src, J'.par, fun u k hu => .inr (fin u k hu), J'.inw, J'.srt, J'.top⟩, fun x r z => by cases z⟩
  | cons x r =>
    obtain ⟨i, hi, hvi⟩ := J'.inw x List.mem_cons_self
    refine ⟨i, ⟨J'.len, J'.src, J'.par, fun u k hu => .inr (fin u k hu), fun u hu => ?_, J'.srt, fun b k hb => ?_⟩, fun y s z => ?_⟩
    · obtain ⟨k, hk, _⟩ := J'.inw u hu
      refine ⟨k, hk, ?_⟩
      rcases List.mem_cons.mp hu with e | hu
      · rw [e, hi] at hk
        cases hk
        exact Nat.le_refl _
      · exact (List.pairwise_cons.mp J'.srt).1 u hu i k hi hk
    · have := J'.top b k hb
      omega
    · cases z
      exact hi
theorem bfs0_ok {g : Gr} {a : Nat} (ha : a < g.n) : Bo g a (bfs0 g a) [a] ∧ [a].length + cn (bfs0 g a) = g.n := by
  have hl : a < (List.replicate g.n (none : Option Nat)).length := by rw [List.length_replicate]; exact ha
  have g0 : ∀ c, gt (List.replicate g.n (none : Option Nat)) c = none := fun c => by
    unfold gt
    rw [List.getElem?_replicate]
    split <;> rfl
  have g1 : ∀ c, gt (bfs0 g a) c = if c = a then some 0 else none := fun c => by
    unfold bfs0
    rw [gt_set hl, g0]
  refine ⟨⟨0, ⟨by unfold bfs0; rw [List.length_set, List.length_replicate], by rw [g1, if_pos rfl], fun b k hb => ?_, fun u k hu => ?_, fun u hu => ?_, List.pairwise_singleton _ _, fun b k hb => ?_⟩, fun x r e => ?_⟩, ?_⟩
  · rw [g1] at hb
    split at hb <;> cases hb
  · rw [g1] at hu
    split at hu
    · rename_i e
      exact .inr (.inl (List.mem_singleton.mpr e))
    · cases hu
  · rw [List.mem_singleton.mp hu]
    exact ⟨0, by rw [g1, if_pos rfl], Nat.le_refl _⟩
  · rw [g1] at hb
    split at hb <;> cases hb
    omega
  · cases e
    rw [g1, if_pos rfl]
  · have := cn_set (k := 0) (g0 a) hl
    have e : cn (List.replicate g.n (none : Option Nat)) = g.n := by
      unfold cn
      rw [List.countP_replicate]
      simp
    rw [e] at this
    show 1 + cn (bfs0 g a) = g.n
    unfold bfs0
    omega
theorem bfsGo_ok {g : Gr} {a : Nat} : ∀ (k : Nat) {f : Fd} {w : List Nat}, Bo g a f w → w.length + cn f < k → Bo g a (bfsGo g k f w) []
  | 0, f, w, _, h => by omega
  | k + 1, f, [], J, _ => J
  | k + 1, f, h :: w, J, hk => by
    obtain ⟨J', e⟩ := bIn_ok J
    have : (h :: w).length = w.length + 1 := rfl
    exact bfsGo_ok k J' (by omega)
/-- what is known of the distances from a -/
structure Dist (g : Gr) (a : Nat) (f : Fd) : Prop where
  len : f.length = g.n
  src : gt f a = some 0
  near : ∀ u c k, gt f u = some k → c < g.n → adj g u c = true → ∃ m, gt f c = some m ∧ m ≤ k + 1
  par : ∀ b k, gt f b = some (k + 1) → ∃ u, u < g.n ∧ adj g u b = true ∧ gt f u = some k
theorem bfs_dist {g : Gr} {a : Nat} (ha : a < g.n) : Dist g a (bfs g a) := by
  obtain ⟨J, e⟩ := bfs0_ok ha
  obtain ⟨v, J, _⟩ := (bfsGo_ok (g.n + 1) J (by omega)).ex
  refine ⟨J.len, J.src, fun u c k hu hc hadj => ?_, J.par⟩
  rcases J.fin u k hu with z | z | z
  · cases z
  · cases z
  · exact z c hc hadj
end W3
namespace W3
open PySem
open PySem.W (alike alikeAll dataLt AllAlike Sortable dataLe AlikeAll minD maxD)
theorem flats_opDs (f : Fd) : flats (f.map opD) = true := flats_map _ (fun o => by cases o <;> rfl) f
def sp15 : List D → (D → Prop) → Prop := fun ds Q => ∃ (g : Gr) (a : Nat), ds = [grD g, nD a] ∧ a < g.n ∧ g.n ≤ 1000 ∧ Q (.tuple ((bfs g a).map opD))
section
variable {Φ : Fam}
theorem atN_nat (n : Nat) (i : Nat) : atN n (i : Int) = i := by
  unfold atN
  rw [if_neg (by omega)]
  omega
theorem bfs_loop (h6 : Has Φ 6 sp6) (g : Gr) (a : Nat) (hn : g.n ≤ 1000) {K : Ke} (c : Sl → Nat → (Bool → Nat → Prop) → Prop) (b : Sl → Nat → Ke → Prop)
    (hc : ∀ (f : Fd) (w : List Nat) o4 o5 (k : Bool → Nat → Prop), k (decide (0 < w.length)) 0 → c [some (grD g), some (nD a), some (.list (f.map opD)), some (.list (w.map nD)), o4, o5] 0 k)
    (hb : ∀ (f : Fd) (h : Nat) (w : List Nat) o4 o5 (K : Ke), Bo g a f (h :: w) → (h :: w).length + cn f < 1100 → (∀ o4 o5, K.nx [some (grD g), some (nD a), some (.list ((bIn g f h w).1.map opD)), some (.list ((bIn g f h w).2.map nD)), o4, o5] 0) → b [some (grD g), some (nD a), some (.list (f.map opD)), some (.list ((h :: w).map nD)), o4, o5] 0 K) :
    ∀ (k : Nat) (f : Fd) (w : List Nat) o4 o5, Bo g a f w → w.length + cn f < k → k ≤ 1100 → (∀ o4 o5, K.nx [some (grD g), some (nD a), some (.list ((bfsGo g k f w).map opD)), some (.list []), o4, o5] 0) →
      whlW c b K k [some (grD g), some (nD a), some (.list (f.map opD)), some (.list (w.map nD)), o4, o5] 0
  | 0, f, w, o4, o5, J, hk, hB, q => by omega
  | k + 1, f, [], o4, o5, J, hk, hB, q => hc f [] o4 o5 _ (ifF rfl (q o4 o5))
  | k + 1, f, h :: w, o4, o5, J, hk, hB, q => by
    obtain ⟨J', e⟩ := bIn_ok J
    have : (h :: w).length = w.length + 1 := rfl
    refine hc f (h :: w) o4 o5 _ (ifT (by simp) ?_)
    exact hb f h w o4 o5 _ J (by omega) fun o4 o5 => bfs_loop h6 g a hn c b hc hb k _ _ o4 o5 J' (by omega) (by omega) q
theorem w15 (h6 : Has Φ 6 sp6) {ds : List D} {Q : D → Prop} (h : sp15 ds Q) : wpB Φ [2, 3] b15 (sl0 N15 ds) 0 { nx := fun _ _ => Q .none, rt := fun d _ => Q d } := by
  obtain ⟨g, a, rfl, ha, hn, q⟩ := h
  obtain ⟨J0, c0⟩ := bfs0_ok ha
  have e0 : (List.replicate (g.n : Int).toNat [PyData.none]).flatten = (List.replicate g.n (none : Option Nat)).map opD := by
    rw [Int.toNat_natCast]
    generalize g.n = n
    induction n with
    | zero => rfl
    | succ n ih => rw [List.replicate_succ, List.flatten_cons, ih]; rfl
  have e1 : ((List.replicate g.n (none : Option Nat)).map opD).set (atN ((List.replicate g.n (none : Option Nat)).map opD).length (a : Int)) (.int 0) = (bfs0 g a).map opD := by
    rw [atN_nat]
    unfold bfs0
    rw [List.map_set]
    rfl
  simp only [b15, N15, wpB, wpS, wpE, wpL, wpO, wpOT, wpT, fin, getS, optK, intK.eq_1, boolK.eq_1, truK.eq_1, truK.eq_2, truK.eq_3, truK.eq_4, truK.eq_5, seqK.eq_1, seqK.eq_2, op2, op1, b1K.eq_1, b1K.eq_2, b1K.eq_3, b1K.eq_4, b1K.eq_5, b1K.eq_6, b1K.eq_7, b1K.eq_8, b1K.eq_9, b1K.eq_10, b1K.eq_11, b1K.eq_12, b1K.eq_13, b1K.eq_14, b1K.eq_15, itK, tgFlat, asOk, wpTg.eq_1, wpTg.eq_2, wpTgs.eq_1, wpTgs.eq_2, wipeS, List.set, sl0, List.map, List.replicate, List.length_cons, List.length_nil, Nat.sub_self, Nat.reduceSub, Nat.reduceAdd, List.cons_append, List.nil_append, if_true]
  refine ix0 g ?_
  simp only [nD, wpB, wpS, wpE, wpL, wpO, wpOT, wpT, fin, getS, optK, intK.eq_1, boolK.eq_1, truK.eq_1, truK.eq_2, truK.eq_3, truK.eq_4, truK.eq_5, seqK.eq_1, seqK.eq_2, op2, op1, b1K.eq_1, b1K.eq_2, b1K.eq_3, b1K.eq_4, b1K.eq_5, b1K.eq_6, b1K.eq_7, b1K.eq_8, b1K.eq_9, b1K.eq_10, b1K.eq_11, b1K.eq_12, b1K.eq_13, b1K.eq_14, b1K.eq_15, itK, tgFlat, asOk, wpTg.eq_1, wpTg.eq_2, wpTgs.eq_1, wpTgs.eq_2, wipeS, List.set, sl0, List.map, List.replicate, List.length_cons, List.length_nil, Nat.sub_self, Nat.reduceSub, Nat.reduceAdd, List.cons_append, List.nil_append, if_true]
  refine ⟨⟨by omega, by omega, trivial⟩, ?_⟩
  rw [e0]
  refine ⟨?_, ?_⟩
  · exact congrArg (fun b => false || b) (flats_opDs _)
  simp only [lstK, nD, wpB, wpS, wpE, wpL, wpO, wpOT, wpT, fin, getS, optK, intK.eq_1, boolK.eq_1, truK.eq_1, truK.eq_2, truK.eq_3, truK.eq_4, truK.eq_5, seqK.eq_1, seqK.eq_2, op2, op1, b1K.eq_1, b1K.eq_2, b1K.eq_3, b1K.eq_4, b1K.eq_5, b1K.eq_6, b1K.eq_7, b1K.eq_8, b1K.eq_9, b1K.eq_10, b1K.eq_11, b1K.eq_12, b1K.eq_13, b1K.eq_14, b1K.eq_15, itK, tgFlat, asOk, wpTg.eq_1, wpTg.eq_2, wpTgs.eq_1, wpTgs.eq_2, wipeS, List.set, sl0, List.map, List.replicate, List.length_cons, List.length_nil, Nat.sub_self, Nat.reduceSub, Nat.reduceAdd, List.cons_append, List.nil_append, if_true]
  refine ⟨rfl, flats_opDs _, ⟨rfl, ?_, ?_⟩, ?_⟩
  · rw [List.length_map, List.length_replicate]; omega
  · rw [List.length_map, List.length_replicate]; omega
  rw [e1]
  refine ⟨rfl, g.n + 1, ?_⟩
  refine bfs_loop h6 g a hn _ _ (fun f w o4 o5 k hk => ?_) (fun f h w o4 o5 K J hB hk => ?_) (g.n + 1) (bfs0 g a) [a] none none J0 (by omega) (by omega) fun o4 o5 => ?_
  · simp only [wpB, wpS, wpE, wpL, wpO, wpOT, wpT, fin, getS, optK, intK.eq_1, boolK.eq_1, truK.eq_1, truK.eq_2, truK.eq_3, truK.eq_4, truK.eq_5, seqK.eq_1, seqK.eq_2, op2, op1, b1K.eq_1, b1K.eq_2, b1K.eq_3, b1K.eq_4, b1K.eq_5, b1K.eq_6, b1K.eq_7, b1K.eq_8, b1K.eq_9, b1K.eq_10, b1K.eq_11, b1K.eq_12, b1K.eq_13, b1K.eq_14, b1K.eq_15, itK, tgFlat, asOk, wpTg.eq_1, wpTg.eq_2, wpTgs.eq_1, wpTgs.eq_2, wipeS, List.set, sl0, List.map, List.replicate, List.length_cons, List.length_nil, Nat.sub_self, Nat.reduceSub, Nat.reduceAdd, List.cons_append, List.nil_append, if_true]
    rw [List.length_map]
    have : decide ((0 : Int) < (w.length : Int)) = decide (0 < w.length) := by
      by_cases z : 0 < w.length
      · simp [z]
      · simp [z]
    rw [this]
    exact hk
  · obtain ⟨v, hv, J1⟩ := J.pop
    simp only [lstK, wpB, wpS, wpE, wpL, wpO, wpOT, wpT, fin, getS, optK, intK.eq_1, boolK.eq_1, truK.eq_1, truK.eq_2, truK.eq_3, truK.eq_4, truK.eq_5, seqK.eq_1, seqK.eq_2, op2, op1, b1K.eq_1, b1K.eq_2, b1K.eq_3, b1K.eq_4, b1K.eq_5, b1K.eq_6, b1K.eq_7, b1K.eq_8, b1K.eq_9, b1K.eq_10, b1K.eq_11, b1K.eq_12, b1K.eq_13, b1K.eq_14, b1K.eq_15, itK, tgFlat, asOk, wpTg.eq_1, wpTg.eq_2, wpTgs.eq_1, wpTgs.eq_2, wipeS, List.set, sl0, List.map, List.replicate, List.length_cons, List.length_nil, Nat.sub_self, Nat.reduceSub, Nat.reduceAdd, List.cons_append, List.nil_append, if_true]
    refine ⟨rfl, flats_map _ flat_nD _, nD h, rfl, ?_⟩
    have hhn : h < g.n := by rw [← J1.len]; exact gt_lt hv
    refine h6 _ _ ⟨g, h, rfl, hn, ⟨?_, ?_⟩⟩
    · exact flats_map _ flat_nD _
    refine forW_map nD (fun i Γ g' => ∃ o5, Γ = [some (grD g), some (nD a), some (.list ((((nbs g h).take i).foldl (bStep v) (f, w)).1.map opD)), some (.list ((((nbs g h).take i).foldl (bStep v) (f, w)).2.map nD)), some (nD h), o5] ∧ g' = 0) (nbs g h) 0 ⟨o5, rfl, rfl⟩ ?_ ?_
    · rintro j b Γ g' nx hx ⟨o5, rfl, rfl⟩ hk2
      rw [Nat.zero_add] at hk2 ⊢
      have htk : (nbs g h).take (j + 1) = (nbs g h).take j ++ [b] := by rw [List.take_succ, hx]; rfl
      have I := bIn_part J1 hv j
      rw [htk, List.foldl_append] at hk2
      generalize ((nbs g h).take j).foldl (bStep v) (f, w) = s at I hk2 ⊢
      obtain ⟨f1, w1⟩ := s
      obtain ⟨I1, I2, _, I4⟩ := I
      have hb : b < g.n := by
        have hm := List.mem_of_getElem? hx
        exact List.mem_range.mp (List.mem_filter.mp hm).1
      have hbl : b < f1.length := by rw [I1.len]; exact hb
      have hw1 : w1.length ≤ 100000 := by
        have : (h :: w).length = w.length + 1 := rfl
        have : w1.length + cn f1 = w.length + cn f := I4
        omega
      simp only [nD, wpB, wpS, wpE, wpL, wpO, wpOT, wpT, fin, getS, optK, intK.eq_1, boolK.eq_1, truK.eq_1, truK.eq_2, truK.eq_3, truK.eq_4, truK.eq_5, seqK.eq_1, seqK.eq_2, op2, op1, b1K.eq_1, b1K.eq_2, b1K.eq_3, b1K.eq_4, b1K.eq_5, b1K.eq_6, b1K.eq_7, b1K.eq_8, b1K.eq_9, b1K.eq_10, b1K.eq_11, b1K.eq_12, b1K.eq_13, b1K.eq_14, b1K.eq_15, itK, tgFlat, asOk, wpTg.eq_1, wpTg.eq_2, wpTgs.eq_1, wpTgs.eq_2, wipeS, List.set, sl0, List.map, List.replicate, List.length_cons, List.length_nil, Nat.sub_self, Nat.reduceSub, Nat.reduceAdd, List.cons_append, List.nil_append, if_true]
      refine ⟨⟨by rw [List.length_map]; omega, by rw [List.length_map]; omega⟩, opD (gt f1 b), ?_, ?_⟩
      · rw [atN_nat, List.getElem?_map, gt_at hbl]; rfl
      cases hg : gt f1 b with
      | some m =>
        refine ifF rfl (hk2 _ _ ⟨some (nD b), ?_, rfl⟩)
        show _ = [_, _, some (PyData.list ((bStep v (f1, w1) b).1.map opD)), some (PyData.list ((bStep v (f1, w1) b).2.map nD)), _, _]
        unfold bStep
        rw [if_neg (by simp [hg])]
        rfl
      | none =>
        refine ifT rfl ?_
        have hhl : h < f1.length := by rw [I1.len]; exact hhn
        refine ⟨rfl, flats_opDs _, ⟨by rw [List.length_map]; omega, by rw [List.length_map]; omega⟩, opD (gt f1 h), ?_, ?_⟩
        · rw [atN_nat, List.getElem?_map, gt_at hhl]; rfl
        rw [show gt f1 h = some v from I2]
        simp only [opD, nD, wpB, wpS, wpE, wpL, wpO, wpOT, wpT, fin, getS, optK, intK.eq_1, boolK.eq_1, truK.eq_1, truK.eq_2, truK.eq_3, truK.eq_4, truK.eq_5, seqK.eq_1, seqK.eq_2, op2, op1, b1K.eq_1, b1K.eq_2, b1K.eq_3, b1K.eq_4, b1K.eq_5, b1K.eq_6, b1K.eq_7, b1K.eq_8, b1K.eq_9, b1K.eq_10, b1K.eq_11, b1K.eq_12, b1K.eq_13, b1K.eq_14, b1K.eq_15, itK, tgFlat, asOk, wpTg.eq_1, wpTg.eq_2, wpTgs.eq_1, wpTgs.eq_2, wipeS, List.set, sl0, List.map, List.replicate, List.length_cons, List.length_nil, Nat.sub_self, Nat.reduceSub, Nat.reduceAdd, List.cons_append, List.nil_append, if_true]
        refine ⟨⟨rfl, by rw [List.length_map]; omega, by rw [List.length_map]; omega⟩, rfl, ⟨rfl, ?_⟩, hk2 _ _ ⟨some (nD b), ?_, rfl⟩⟩
        · rw [List.length_map]; show _ < 16000000; omega
        · show _ = [_, _, some (PyData.list ((bStep v (f1, w1) b).1.map opD)), some (PyData.list ((bStep v (f1, w1) b).2.map nD)), _, _]
          unfold bStep
          rw [if_pos (by simp [hg]), atN_nat]
          simp only [List.map_set, List.map_append]
          rfl
    · rintro Γ g' ⟨o5, rfl, rfl⟩
      rw [Nat.zero_add, List.take_length]
      have e : bIn g f h w = (nbs g h).foldl (bStep v) (f, w) := by unfold bIn; rw [hv]; rfl
      rw [← e]
      exact hk _ _
  · simp only [wpB, wpS, wpE, wpL, wpO, wpOT, wpT, fin, getS, optK, intK.eq_1, boolK.eq_1, truK.eq_1, truK.eq_2, truK.eq_3, truK.eq_4, truK.eq_5, seqK.eq_1, seqK.eq_2, op2, op1, b1K.eq_1, b1K.eq_2, b1K.eq_3, b1K.eq_4, b1K.eq_5, b1K.eq_6, b1K.eq_7, b1K.eq_8, b1K.eq_9, b1K.eq_10, b1K.eq_11, b1K.eq_12, b1K.eq_13, b1K.eq_14, b1K.eq_15, itK, tgFlat, asOk, wpTg.eq_1, wpTg.eq_2, wpTgs.eq_1, wpTgs.eq_2, wipeS, List.set, sl0, List.map, List.replicate, List.length_cons, List.length_nil, Nat.sub_self, Nat.reduceSub, Nat.reduceAdd, List.cons_append, List.nil_append, if_true]
    exact ⟨congrArg (fun b => (b || _) || _) (flats_opDs _), q⟩
end
end W3
namespace W3
open PySem
open PySem.W (alike alikeAll dataLt AllAlike Sortable dataLe AlikeAll minD maxD)
def comp (g : Gr) (a : Nat) : List Nat := (List.range g.n).filter fun b => (gt (bfs g a) b).isSome
def pStep (g : Gr) (found : List (List Nat)) (a : Nat) : List (List Nat) := if comp g a ∈ found then found else found ++ [comp g a]
def pcs (g : Gr) : List (List Nat) := (List.range g.n).foldl (pStep g) []
theorem pcs_len (g : Gr) : ∀ (l : List Nat) (f : List (List Nat)), (l.foldl (pStep g) f).length ≤ f.length + l.length
  | [], f => Nat.le_refl _
  | x :: l, f => by
    rw [List.foldl_cons, List.length_cons]
    have := pcs_len g l (pStep g f x)
    have : (pStep g f x).length ≤ f.length + 1 := by
      unfold pStep
      split
      · omega
      · rw [List.length_append]; simp
    omega
theorem pcs_keep (g : Gr) {c : List Nat} : ∀ (l : List Nat) (f : List (List Nat)), c ∈ f → c ∈ l.foldl (pStep g) f
  | [], f, h => h
  | x :: l, f, h => pcs_keep g l (pStep g f x) (by
    unfold pStep
    split
    · exact h
    · exact List.mem_append_left _ h)
theorem pcs_in (g : Gr) {a : Nat} : ∀ (l : List Nat) (f : List (List Nat)), a ∈ l → comp g a ∈ l.foldl (pStep g) f
  | x :: l, f, h => by
    rcases List.mem_cons.mp h with rfl | h
    · refine pcs_keep g l _ ?_
      unfold pStep
      split
      · assumption
      · exact List.mem_append_right _ List.mem_cons_self
    · exact pcs_in g l _ h
/-- one piece: every vertex is reached -/
theorem one_piece {g : Gr} (h : (pcs g).length = 1) {a b : Nat} (ha : a < g.n) (hb : b < g.n) : ∃ k, gt (bfs g a) b = some k := by
  obtain ⟨c, hc⟩ := List.length_eq_one_iff.mp h
  have h1 := pcs_in g (List.range g.n) [] (List.mem_range.mpr ha)
  have h2 := pcs_in g (List.range g.n) [] (List.mem_range.mpr hb)
  have e : comp g a = comp g b := by
    have e1 : (List.range g.n).foldl (pStep g) [] = [c] := hc
    rw [e1] at h1 h2
    rw [List.mem_singleton.mp h1, List.mem_singleton.mp h2]
  have : b ∈ comp g b := List.mem_filter.mpr ⟨List.mem_range.mpr hb, by rw [(bfs_dist hb).src]; rfl⟩
  rw [← e] at this
  exact Option.isSome_iff_exists.mp (List.mem_filter.mp this).2
def sp16 : List D → (D → Prop) → Prop := fun ds Q => ∃ g : Gr, ds = [grD g] ∧ g.n ≤ 1000 ∧ Q (.list ((pcs g).map ltD))
def sp17 : List D → (D → Prop) → Prop := fun ds Q => ∃ g : Gr, ds = [grD g] ∧ g.n ≤ 1000 ∧ Q (.bool (decide ((pcs g).length = 1)))
def sp166 : List D → (D → Prop) → Prop := fun ds Q => ∃ g : Gr, ds = [grD g] ∧ (0 < g.n ∧ g.n ≤ 1000) ∧ (∀ a b, a < g.n → b < g.n → ∃ k, gt (bfs g a) b = some k) ∧ ∀ m a b, a < g.n → b < g.n → gt (bfs g a) b = some m → Q (nD m)
def sp185 : List D → (D → Prop) → Prop := fun ds Q => ∃ n : Nat, ds = [nD n] ∧ n ≤ 16 ∧ ∀ out : List (List Nat), (∀ l ∈ out, l.Sublist (List.range n)) → Q (.list (out.map ltD))
section
variable {Φ : Fam}
theorem w16 (h15 : Has Φ 15 sp15) {ds : List D} {Q : D → Prop} (h : sp16 ds Q) : wpB Φ [1] b16 (sl0 N16 ds) 0 { nx := fun _ _ => Q .none, rt := fun d _ => Q d } := by
  obtain ⟨g, rfl, hn, q⟩ := h
  simp only [b16, N16, wpB, wpS, wpE, wpL, wpO, wpOT, wpT, fin, getS, optK, intK.eq_1, boolK.eq_1, truK.eq_1, truK.eq_2, truK.eq_3, truK.eq_4, truK.eq_5, seqK.eq_1, seqK.eq_2, op2, op1, b1K.eq_1, b1K.eq_2, b1K.eq_3, b1K.eq_4, b1K.eq_5, b1K.eq_6, b1K.eq_7, b1K.eq_8, b1K.eq_9, b1K.eq_10, b1K.eq_11, b1K.eq_12, b1K.eq_13, b1K.eq_14, b1K.eq_15, itK, tgFlat, asOk, wpTg.eq_1, wpTg.eq_2, wpTgs.eq_1, wpTgs.eq_2, wipeS, List.set, sl0, List.map, List.replicate, List.length_cons, List.length_nil, Nat.sub_self, Nat.reduceSub, Nat.reduceAdd, List.cons_append, List.nil_append, if_true]
  refine ⟨rfl, ix0 g ⟨rfl, rng1 _ (by omega) ?_⟩⟩
  refine forW_map nD (fun i Γ g' => ∃ o2 o3 o4 o5, Γ = [some (grD g), some (.list ((((List.range g.n).take i).foldl (pStep g) []).map ltD)), o2, o3, o4, o5] ∧ g' = 0) (List.range g.n) 0 ⟨none, none, none, none, rfl, rfl⟩ ?_ ?_
  · rintro j a Γ g' nx hx ⟨o2, o3, o4, o5, rfl, rfl⟩ hk
    rw [Nat.zero_add] at hk ⊢
    have htk : (List.range g.n).take (j + 1) = (List.range g.n).take j ++ [a] := by rw [List.take_succ, hx]; rfl
    have ha : a < g.n := List.mem_range.mp (List.mem_of_getElem? hx)
    have hl := pcs_len g ((List.range g.n).take j) []
    rw [List.length_take, List.length_range, List.length_nil] at hl
    rw [htk, List.foldl_append] at hk
    generalize ((List.range g.n).take j).foldl (pStep g) [] = s at hl hk ⊢
    simp only [wpB, wpS, wpE, wpL, wpO, wpOT, wpT, fin, getS, optK, intK.eq_1, boolK.eq_1, truK.eq_1, truK.eq_2, truK.eq_3, truK.eq_4, truK.eq_5, seqK.eq_1, seqK.eq_2, op2, op1, b1K.eq_1, b1K.eq_2, b1K.eq_3, b1K.eq_4, b1K.eq_5, b1K.eq_6, b1K.eq_7, b1K.eq_8, b1K.eq_9, b1K.eq_10, b1K.eq_11, b1K.eq_12, b1K.eq_13, b1K.eq_14, b1K.eq_15, itK, tgFlat, asOk, wpTg.eq_1, wpTg.eq_2, wpTgs.eq_1, wpTgs.eq_2, wipeS, List.set, sl0, List.map, List.replicate, List.length_cons, List.length_nil, Nat.sub_self, Nat.reduceSub, Nat.reduceAdd, List.cons_append, List.nil_append, if_true]
    refine h15 _ _ ⟨g, a, rfl, ha, hn, ?_, ?_⟩
    · exact congrArg (fun b => b || _) (flats_opDs _)
    refine ix0 g (rng1 _ (by omega) ?_)
    refine lcW_map nD (fun b => if (gt (bfs g a) b).isSome = true then some (nD b) else none) _ (fun b hb K' k => ?_) ?_
    · have hb : b < (bfs g a).length := by rw [(bfs_dist ha).len]; exact List.mem_range.mp hb
      simp only [nD, wpB, wpS, wpE, wpL, wpO, wpOT, wpT, fin, getS, optK, intK.eq_1, boolK.eq_1, truK.eq_1, truK.eq_2, truK.eq_3, truK.eq_4, truK.eq_5, seqK.eq_1, seqK.eq_2, op2, op1, b1K.eq_1, b1K.eq_2, b1K.eq_3, b1K.eq_4, b1K.eq_5, b1K.eq_6, b1K.eq_7, b1K.eq_8, b1K.eq_9, b1K.eq_10, b1K.eq_11, b1K.eq_12, b1K.eq_13, b1K.eq_14, b1K.eq_15, itK, tgFlat, asOk, wpTg.eq_1, wpTg.eq_2, wpTgs.eq_1, wpTgs.eq_2, wipeS, List.set, sl0, List.map, List.replicate, List.length_cons, List.length_nil, Nat.sub_self, Nat.reduceSub, Nat.reduceAdd, List.cons_append, List.nil_append, if_true]
      refine ⟨⟨by rw [List.length_map]; omega, by rw [List.length_map]; omega⟩, opD (gt (bfs g a) b), ?_, ?_⟩
      · rw [atN_nat, List.getElem?_map, gt_at hb]; rfl
      cases hx : gt (bfs g a) b with
      | none => rw [hx] at k; exact k
      | some m => rw [hx] at k; exact k
    rw [fmf, List.nil_append]
    refine ⟨congrArg (fun b => b || _) (flat_ltD (comp g a)), shp_ltD (comp g a), ?_⟩
    have e : inD (.tuple (((List.range g.n).filter fun b => (gt (bfs g a) b).isSome).map nD)) (s.map ltD) = decide (comp g a ∈ s) := in_lots (comp g a) s
    rw [e]
    by_cases hin : comp g a ∈ s
    · rw [decide_eq_true hin]
      refine ifF rfl (hk _ _ ⟨some (nD a), some (.tuple ((bfs g a).map opD)), some (ltD (comp g a)), o5, ?_, rfl⟩)
      show _ = [_, some (PyData.list ((pStep g s a).map ltD)), _, _, _, _]
      unfold pStep
      rw [if_pos hin]
      rfl
    · rw [decide_eq_false hin]
      refine ifT rfl ⟨rfl, ⟨congrArg (fun b => b || _) (flat_ltD (comp g a)), ?_⟩, hk _ _ ⟨some (nD a), some (.tuple ((bfs g a).map opD)), some (ltD (comp g a)), o5, ?_, rfl⟩⟩
      · rw [List.length_map]; show _ < 16000000; omega
      · show _ = [_, some (PyData.list ((pStep g s a).map ltD)), _, _, _, _]
        unfold pStep
        rw [if_neg hin, List.map_append]
        rfl
  · rintro Γ g' ⟨o2, o3, o4, o5, rfl, rfl⟩
    rw [Nat.zero_add, List.take_of_length_le (by rw [List.length_range]; exact Nat.le_refl _)]
    simp only [wpB, wpS, wpE, wpL, wpO, wpOT, wpT, fin, getS, optK, intK.eq_1, boolK.eq_1, truK.eq_1, truK.eq_2, truK.eq_3, truK.eq_4, truK.eq_5, seqK.eq_1, seqK.eq_2, op2, op1, b1K.eq_1, b1K.eq_2, b1K.eq_3, b1K.eq_4, b1K.eq_5, b1K.eq_6, b1K.eq_7, b1K.eq_8, b1K.eq_9, b1K.eq_10, b1K.eq_11, b1K.eq_12, b1K.eq_13, b1K.eq_14, b1K.eq_15, itK, tgFlat, asOk, wpTg.eq_1, wpTg.eq_2, wpTgs.eq_1, wpTgs.eq_2, wipeS, List.set, sl0, List.map, List.replicate, List.length_cons, List.length_nil, Nat.sub_self, Nat.reduceSub, Nat.reduceAdd, List.cons_append, List.nil_append, if_true]
    refine ⟨rfl, q⟩
theorem w17 (h16 : Has Φ 16 sp16) {ds : List D} {Q : D → Prop} (h : sp17 ds Q) : wpB Φ [] b17 (sl0 N17 ds) 0 { nx := fun _ _ => Q .none, rt := fun d _ => Q d } := by
  obtain ⟨g, rfl, hn, q⟩ := h
  simp only [b17, N17, wpB, wpS, wpE, wpL, wpO, wpOT, wpT, fin, getS, optK, intK.eq_1, boolK.eq_1, truK.eq_1, truK.eq_2, truK.eq_3, truK.eq_4, truK.eq_5, seqK.eq_1, seqK.eq_2, op2, op1, b1K.eq_1, b1K.eq_2, b1K.eq_3, b1K.eq_4, b1K.eq_5, b1K.eq_6, b1K.eq_7, b1K.eq_8, b1K.eq_9, b1K.eq_10, b1K.eq_11, b1K.eq_12, b1K.eq_13, b1K.eq_14, b1K.eq_15, itK, tgFlat, asOk, wpTg.eq_1, wpTg.eq_2, wpTgs.eq_1, wpTgs.eq_2, wipeS, List.set, sl0, List.map, List.replicate, List.length_cons, List.length_nil, Nat.sub_self, Nat.reduceSub, Nat.reduceAdd, List.cons_append, List.nil_append, if_true]
  refine h16 _ _ ⟨g, rfl, hn, ?_⟩
  simp only [wpB, wpS, wpE, wpL, wpO, wpOT, wpT, fin, getS, optK, intK.eq_1, boolK.eq_1, truK.eq_1, truK.eq_2, truK.eq_3, truK.eq_4, truK.eq_5, seqK.eq_1, seqK.eq_2, op2, op1, b1K.eq_1, b1K.eq_2, b1K.eq_3, b1K.eq_4, b1K.eq_5, b1K.eq_6, b1K.eq_7, b1K.eq_8, b1K.eq_9, b1K.eq_10, b1K.eq_11, b1K.eq_12, b1K.eq_13, b1K.eq_14, b1K.eq_15, itK, tgFlat, asOk, wpTg.eq_1, wpTg.eq_2, wpTgs.eq_1, wpTgs.eq_2, wipeS, List.set, sl0, List.map, List.replicate, List.length_cons, List.length_nil, Nat.sub_self, Nat.reduceSub, Nat.reduceAdd, List.cons_append, List.nil_append, if_true]
  rw [List.length_map]
  refine ⟨shp_nD _, rfl, ?_⟩
  have : PyData.eqv (.int (((pcs g).length : Nat) : Int)) (.int 1) = decide ((pcs g).length = 1) := eqv_nD _ 1
  rw [this]
  exact q
theorem w166 (h15 : Has Φ 15 sp15) {ds : List D} {Q : D → Prop} (h : sp166 ds Q) : wpB Φ [] b166 (sl0 N166 ds) 0 { nx := fun _ _ => Q .none, rt := fun d _ => Q d } := by
  obtain ⟨g, rfl, ⟨h0, hn⟩, hall, q⟩ := h
  simp only [b166, N166, wpB, wpS, wpE, wpL, wpO, wpOT, wpT, fin, getS, optK, intK.eq_1, boolK.eq_1, truK.eq_1, truK.eq_2, truK.eq_3, truK.eq_4, truK.eq_5, seqK.eq_1, seqK.eq_2, op2, op1, b1K.eq_1, b1K.eq_2, b1K.eq_3, b1K.eq_4, b1K.eq_5, b1K.eq_6, b1K.eq_7, b1K.eq_8, b1K.eq_9, b1K.eq_10, b1K.eq_11, b1K.eq_12, b1K.eq_13, b1K.eq_14, b1K.eq_15, itK, tgFlat, asOk, wpTg.eq_1, wpTg.eq_2, wpTgs.eq_1, wpTgs.eq_2, wipeS, List.set, sl0, List.map, List.replicate, List.length_cons, List.length_nil, Nat.sub_self, Nat.reduceSub, Nat.reduceAdd, List.cons_append, List.nil_append, if_true]
  refine ix0 g (rng1 _ (by omega) ?_)
  refine lcW_inv nD (fun i acc g' => ∃ ms : List Nat, acc = ms.map nD ∧ ms.length = i ∧ g' = 0 ∧ ∀ m ∈ ms, ∃ a b, a < g.n ∧ b < g.n ∧ gt (bfs g a) b = some m) (List.range g.n) 0 ⟨[], rfl, rfl, rfl, fun _ h => nomatch h⟩ ?_ ?_
  · rintro j a acc g' K' hx ⟨ms, rfl, hl, rfl, hm⟩ hk
    have ha : a < g.n := List.mem_range.mp (List.mem_of_getElem? hx)
    have D1 := bfs_dist ha
    have e : (bfs g a).map opD = ((bfs g a).map fun o => o.getD 0).map nD := by
      rw [List.map_map]
      refine List.map_congr_left fun o ho => ?_
      obtain ⟨b, hb, e⟩ := List.mem_iff_getElem.mp ho
      obtain ⟨k, hk⟩ := hall a b ha (by rw [← D1.len]; exact hb)
      have e2 := gt_at hb
      rw [hk, List.getElem?_eq_getElem hb, e] at e2
      rw [Option.some.inj e2]
      rfl
    have hne : (bfs g a).length ≠ 0 := by rw [D1.len]; omega
    have at_ : ∀ m ∈ (bfs g a).map (fun o => o.getD 0), ∃ b, b < g.n ∧ gt (bfs g a) b = some m := fun m hm => by
      obtain ⟨o, ho, rfl⟩ := List.mem_map.mp hm
      obtain ⟨b, hb, e⟩ := List.mem_iff_getElem.mp ho
      obtain ⟨k, hk⟩ := hall a b ha (by rw [← D1.len]; exact hb)
      have e2 := gt_at hb
      rw [hk, List.getElem?_eq_getElem hb, e] at e2
      rw [Option.some.inj e2]
      exact ⟨b, by rw [← D1.len]; exact hb, hk⟩
    refine h15 _ _ ⟨g, a, rfl, ha, hn, ?_⟩
    simp only [wpB, wpS, wpE, wpL, wpO, wpOT, wpT, fin, getS, optK, intK.eq_1, boolK.eq_1, truK.eq_1, truK.eq_2, truK.eq_3, truK.eq_4, truK.eq_5, seqK.eq_1, seqK.eq_2, op2, op1, b1K.eq_1, b1K.eq_2, b1K.eq_3, b1K.eq_4, b1K.eq_5, b1K.eq_6, b1K.eq_7, b1K.eq_8, b1K.eq_9, b1K.eq_10, b1K.eq_11, b1K.eq_12, b1K.eq_13, b1K.eq_14, b1K.eq_15, itK, tgFlat, asOk, wpTg.eq_1, wpTg.eq_2, wpTgs.eq_1, wpTgs.eq_2, wipeS, List.set, sl0, List.map, List.replicate, List.length_cons, List.length_nil, Nat.sub_self, Nat.reduceSub, Nat.reduceAdd, List.cons_append, List.nil_append, if_true]
    rw [e]
    cases hv : (bfs g a).map (fun o => o.getD 0) with
    | nil =>
      have := congrArg List.length hv
      rw [List.length_map] at this
      exact absurd this hne
    | cons x l =>
      rw [hv] at at_
      refine ⟨alike_nats (x :: l), ?_⟩
      obtain ⟨m, h1, h2, h3, h4⟩ := maxD_nat l x
      rw [h1]
      refine hk _ _ ⟨ms ++ [m], by simp, by simp; omega, rfl, fun y hy => ?_⟩
      rcases List.mem_append.mp hy with hy | hy
      · exact hm y hy
      · rw [List.mem_singleton.mp hy]
        obtain ⟨b, hb, hb2⟩ := at_ m (by rcases h2 with z | z; rw [z]; exact List.mem_cons_self; exact List.mem_cons_of_mem _ z)
        exact ⟨a, b, ha, hb, hb2⟩
  · rintro acc g' ⟨ms, rfl, hl, rfl, hm⟩
    rw [List.length_range] at hl
    cases ms with
    | nil => simp at hl; omega
    | cons x l =>
      simp only [wpB, wpS, wpE, wpL, wpO, wpOT, wpT, fin, getS, optK, intK.eq_1, boolK.eq_1, truK.eq_1, truK.eq_2, truK.eq_3, truK.eq_4, truK.eq_5, seqK.eq_1, seqK.eq_2, op2, op1, b1K.eq_1, b1K.eq_2, b1K.eq_3, b1K.eq_4, b1K.eq_5, b1K.eq_6, b1K.eq_7, b1K.eq_8, b1K.eq_9, b1K.eq_10, b1K.eq_11, b1K.eq_12, b1K.eq_13, b1K.eq_14, b1K.eq_15, itK, tgFlat, asOk, wpTg.eq_1, wpTg.eq_2, wpTgs.eq_1, wpTgs.eq_2, wipeS, List.set, sl0, List.map, List.replicate, List.length_cons, List.length_nil, Nat.sub_self, Nat.reduceSub, Nat.reduceAdd, List.cons_append, List.nil_append, if_true]
      refine ⟨alike_nats (x :: l), ?_⟩
      obtain ⟨m, h1, h2, h3, h4⟩ := maxD_nat l x
      rw [h1]
      obtain ⟨a, b, ha, hb, hb2⟩ := hm m (by rcases h2 with z | z; rw [z]; exact List.mem_cons_self; exact List.mem_cons_of_mem _ z)
      exact ⟨rfl, q m a b ha hb hb2⟩
theorem w185 {ds : List D} {Q : D → Prop} (h : sp185 ds Q) : wpB Φ [1] b185 (sl0 N185 ds) 0 { nx := fun _ _ => Q .none, rt := fun d _ => Q d } := by
  obtain ⟨n, rfl, hn, q⟩ := h
  have hp : 2 ^ n ≤ 65536 := Nat.pow_le_pow_right (n := 2) (by decide) hn
  simp only [b185, N185, nD, wpB, wpS, wpE, wpL, wpO, wpOT, wpT, fin, getS, optK, intK.eq_1, boolK.eq_1, truK.eq_1, truK.eq_2, truK.eq_3, truK.eq_4, truK.eq_5, seqK.eq_1, seqK.eq_2, op2, op1, b1K.eq_1, b1K.eq_2, b1K.eq_3, b1K.eq_4, b1K.eq_5, b1K.eq_6, b1K.eq_7, b1K.eq_8, b1K.eq_9, b1K.eq_10, b1K.eq_11, b1K.eq_12, b1K.eq_13, b1K.eq_14, b1K.eq_15, itK, tgFlat, asOk, wpTg.eq_1, wpTg.eq_2, wpTgs.eq_1, wpTgs.eq_2, wipeS, List.set, sl0, List.map, List.replicate, List.length_cons, List.length_nil, Nat.sub_self, Nat.reduceSub, Nat.reduceAdd, List.cons_append, List.nil_append, if_true]
  refine ⟨rfl, ⟨by omega, by omega, by decide, by decide⟩, rfl, ?_⟩
  have e : (1 : Int) * 2 ^ (n : Int).toNat = ((2 ^ n : Nat) : Int) := by
    rw [Int.toNat_natCast, Int.one_mul]
    norm_cast
  rw [e]
  refine rng1 (2 ^ n) (by omega) ?_
  refine forW_map nD (fun i Γ g' => ∃ (out : List (List Nat)) (o2 o3 : Option D), Γ = [some (nD n), some (.list (out.map ltD)), o2, o3] ∧ g' = 0 ∧ out.length = i ∧ ∀ l ∈ out, l.Sublist (List.range n)) (List.range (2 ^ n)) 0 ⟨[], none, none, rfl, rfl, rfl, fun _ h => nomatch h⟩ ?_ ?_
  · rintro j a Γ g' nx hx ⟨out, o2, o3, rfl, rfl, hl, hs⟩ hk
    rw [Nat.zero_add] at hk hl
    have hj : j < 2 ^ n := by
      have := (List.getElem?_eq_some_iff.mp hx).1
      rwa [List.length_range] at this
    simp only [lstK, nD, wpB, wpS, wpE, wpL, wpO, wpOT, wpT, fin, getS, optK, intK.eq_1, boolK.eq_1, truK.eq_1, truK.eq_2, truK.eq_3, truK.eq_4, truK.eq_5, seqK.eq_1, seqK.eq_2, op2, op1, b1K.eq_1, b1K.eq_2, b1K.eq_3, b1K.eq_4, b1K.eq_5, b1K.eq_6, b1K.eq_7, b1K.eq_8, b1K.eq_9, b1K.eq_10, b1K.eq_11, b1K.eq_12, b1K.eq_13, b1K.eq_14, b1K.eq_15, itK, tgFlat, asOk, wpTg.eq_1, wpTg.eq_2, wpTgs.eq_1, wpTgs.eq_2, wipeS, List.set, sl0, List.map, List.replicate, List.length_cons, List.length_nil, Nat.sub_self, Nat.reduceSub, Nat.reduceAdd, List.cons_append, List.nil_append, if_true]
    refine ⟨rfl, rng1 n (by omega) ?_⟩
    refine lcW_inv nD (fun i acc g' => ∃ ms : List Nat, acc = ms.map nD ∧ g' = 0 ∧ ms.Sublist ((List.range n).take i)) (List.range n) 0 ⟨[], rfl, rfl, by simp⟩ ?_ ?_
    · rintro i x acc g' K' hx ⟨ms, rfl, rfl, hm⟩ hk2
      rw [Nat.zero_add] at hm hk2
      have htk : (List.range n).take (i + 1) = (List.range n).take i ++ [x] := by rw [List.take_succ, hx]; rfl
      rw [htk] at hk2
      simp only [nD, wpB, wpS, wpE, wpL, wpO, wpOT, wpT, fin, getS, optK, intK.eq_1, boolK.eq_1, truK.eq_1, truK.eq_2, truK.eq_3, truK.eq_4, truK.eq_5, seqK.eq_1, seqK.eq_2, op2, op1, b1K.eq_1, b1K.eq_2, b1K.eq_3, b1K.eq_4, b1K.eq_5, b1K.eq_6, b1K.eq_7, b1K.eq_8, b1K.eq_9, b1K.eq_10, b1K.eq_11, b1K.eq_12, b1K.eq_13, b1K.eq_14, b1K.eq_15, itK, tgFlat, asOk, wpTg.eq_1, wpTg.eq_2, wpTgs.eq_1, wpTgs.eq_2, wipeS, List.set, sl0, List.map, List.replicate, List.length_cons, List.length_nil, Nat.sub_self, Nat.reduceSub, Nat.reduceAdd, List.cons_append, List.nil_append, if_true]
      refine ⟨by omega, trivial, ?_⟩
      refine ⟨?_, ?_⟩
      · unfold shp; simp [PyData.depth]
      generalize PyData.eqv _ _ = c
      cases c with
      | true => exact ifT rfl (hk2 _ _ ⟨ms ++ [x], by simp [nD], rfl, hm.append (List.Sublist.refl _)⟩)
      | false => exact ifF rfl (hk2 none _ ⟨ms, rfl, rfl, hm.trans (List.sublist_append_left _ _)⟩)
    · rintro acc g' ⟨ms, rfl, rfl, hm⟩
      rw [Nat.zero_add, List.take_of_length_le (by rw [List.length_range]; exact Nat.le_refl _)] at hm
      refine ⟨⟨congrArg (fun b => b || _) (flat_ltD ms), ?_⟩, hk _ _ ⟨out ++ [ms], some (nD a), o3, by simp [ltD, nD], rfl, by simp; omega, fun l hl => ?_⟩⟩
      · rw [List.length_map]; show _ < 16000000; omega
      · rcases List.mem_append.mp hl with hl | hl
        · exact hs l hl
        · rw [List.mem_singleton.mp hl]
          exact hm
  · rintro Γ g' ⟨out, o2, o3, rfl, rfl, hl, hs⟩
    simp only [wpB, wpS, wpE, wpL, wpO, wpOT, wpT, fin, getS, optK, intK.eq_1, boolK.eq_1, truK.eq_1, truK.eq_2, truK.eq_3, truK.eq_4, truK.eq_5, seqK.eq_1, seqK.eq_2, op2, op1, b1K.eq_1, b1K.eq_2, b1K.eq_3, b1K.eq_4, b1K.eq_5, b1K.eq_6, b1K.eq_7, b1K.eq_8, b1K.eq_9, b1K.eq_10, b1K.eq_11, b1K.eq_12, b1K.eq_13, b1K.eq_14, b1K.eq_15, itK, tgFlat, asOk, wpTg.eq_1, wpTg.eq_2, wpTgs.eq_1, wpTgs.eq_2, wipeS, List.set, sl0, List.map, List.replicate, List.length_cons, List.length_nil, Nat.sub_self, Nat.reduceSub, Nat.reduceAdd, List.cons_append, List.nil_append, if_true]
    refine ⟨srtOk_lots _, ?_⟩
    rw [sort_lots]
    refine ⟨congrArg (fun b => (false || b) || _) (flats_lots _), q _ fun l hl => hs l ?_⟩
    exact (List.mergeSort_perm _ _).mem_iff.mp hl
end
end W3
namespace W3
open PySem
theorem rng_nodup (n : Nat) : (List.range n).Nodup := List.nodup_range
theorem sub_nodup {n : Nat} {l : List Nat} (h : l.Sublist (List.range n)) : l.Nodup := List.Nodup.sublist h (rng_nodup n)
theorem sub_lt {n : Nat} {l : List Nat} (h : l.Sublist (List.range n)) {a : Nat} (ha : a ∈ l) : a < n := List.mem_range.mp (h.subset ha)
theorem mem_cnb {g : Gr} {a b : Nat} : b ∈ cnb g a ↔ b < g.n ∧ (a = b ∨ adj g a b = true) := by
  unfold cnb
  rw [List.mem_filter, List.mem_range]
  simp
theorem wat_iff {g : Gr} {l : List Nat} : wat g l = true ↔ ∀ a, a < g.n → ∃ b ∈ l, b < g.n ∧ (a = b ∨ adj g a b = true) := by
  unfold wat
  rw [List.all_eq_true]
  constructor
  · intro h a ha
    obtain ⟨b, h1, h2⟩ := List.any_eq_true.mp (h a (List.mem_range.mpr ha))
    exact ⟨b, of_decide_eq_true h2, mem_cnb.mp h1⟩
  · intro h a ha
    obtain ⟨b, h1, h2⟩ := h a (List.mem_range.mp ha)
    exact List.any_eq_true.mpr ⟨b, mem_cnb.mpr h2, decide_eq_true h1⟩
theorem loose_iff {g : Gr} {l : List Nat} : loose g l = true ↔ ∀ a ∈ l, ∀ b ∈ l, a < b → adj g a b = false := by
  unfold loose
  rw [Bool.not_eq_true', List.any_eq_false]
  constructor
  · intro h a ha b hb hab
    have := h (a, b) (mem_prs.mpr ⟨ha, hb, hab⟩)
    simpa using this
  · intro h p hp
    obtain ⟨h1, h2, h3⟩ := mem_prs.mp hp
    simp [h p.1 h1 p.2 h2 h3]
theorem cliq_cpl {g : Gr} {l : List Nat} (h : l.Sublist (List.range g.n)) : cliq (cpl g) l = loose g l := by
  have e : cliq (cpl g) l = true ↔ loose g l = true := by
    rw [loose_iff]
    unfold cliq
    rw [List.all_eq_true]
    constructor
    · intro z a ha b hb hab
      have := z (a, b) (mem_prs.mpr ⟨ha, hb, hab⟩)
      rw [adj_cpl (sub_lt h ha) (sub_lt h hb)] at this
      simp at this
      exact this.2
    · intro z p hp
      obtain ⟨h1, h2, h3⟩ := mem_prs.mp hp
      rw [adj_cpl (sub_lt h h1) (sub_lt h h2), z p.1 h1 p.2 h2 h3]
      have : p.1 ≠ p.2 := by omega
      simp [this]
  cases h1 : cliq (cpl g) l <;> cases h2 : loose g l
  · rfl
  · rw [e.mpr h2] at h1; cases h1
  · rw [e.mp h1] at h2; cases h2
  · rfl
theorem lots_cpl (g : Gr) : lots (cpl g) cliq = lots g loose := by
  unfold lots
  refine List.filter_congr fun l hl => ?_
  exact cliq_cpl (mem_subs.mp hl)
/-- a part of the vertices, by a test -/
def pt (g : Gr) (p : Nat → Bool) : List Nat := (List.range g.n).filter p
theorem pt_sub (g : Gr) (p : Nat → Bool) : (pt g p).Sublist (List.range g.n) := List.filter_sublist
theorem mem_pt {g : Gr} {p : Nat → Bool} {a : Nat} : a ∈ pt g p ↔ a < g.n ∧ p a = true := by
  unfold pt
  rw [List.mem_filter, List.mem_range]
theorem pt_not (g : Gr) (p : Nat → Bool) : (pt g p).length + (pt g fun a => !p a).length = g.n := by
  unfold pt
  rw [cnt_su, cnt_su, ← su_add]
  have : Su g.n (fun i => (if p i = true then 1 else 0) + if (!p i) = true then 1 else 0) = Su g.n fun _ => 1 := su_congr fun i _ => by cases p i <;> rfl
  rw [this, su_const]
  omega
theorem pt_mem {g : Gr} {l : List Nat} (h : l.Sublist (List.range g.n)) : (pt g fun a => decide (a ∈ l)).length = l.length := by
  refine Nat.le_antisymm (nodup_len (sub_nodup (pt_sub g _)) fun x hx => ?_) (nodup_len (sub_nodup h) fun x hx => ?_)
  · exact of_decide_eq_true (mem_pt.mp hx).2
  · exact mem_pt.mpr ⟨sub_lt h hx, decide_eq_true hx⟩
theorem cnb_len (g : Gr) (a : Nat) : (cnb g a).length ≤ deg g a + 1 := by
  have : (cnb g a).length ≤ (a :: nbs g a).length := nodup_len (List.Nodup.sublist List.filter_sublist (rng_nodup g.n)) fun b hb => by
    obtain ⟨h1, h2⟩ := mem_cnb.mp hb
    rcases h2 with e | h2
    · rw [e]; exact List.mem_cons_self
    · exact List.mem_cons_of_mem _ (List.mem_filter.mpr ⟨List.mem_range.mpr h1, h2⟩)
  exact this
/-- a lot that watches, none smaller -/
structure Least (g : Gr) (l : List Nat) : Prop where
  sub : l.Sublist (List.range g.n)
  w : wat g l = true
  min : ∀ m : List Nat, m.Sublist (List.range g.n) → wat g m = true → l.length ≤ m.length
theorem least_of {g : Gr} {l : List Nat} (h1 : l ∈ lots g wat) (h2 : ∀ m ∈ lots g wat, l.length ≤ m.length) : Least g l :=
  ⟨(lots_sub.mp h1).1, (lots_sub.mp h1).2, fun m a b => h2 m (lots_sub.mpr ⟨a, b⟩)⟩
theorem watch_many {g : Gr} {l : List Nat} (h : l.Sublist (List.range g.n)) (w : wat g l = true) {d : Nat} (hd : ∀ a, a < g.n → deg g a ≤ d) : g.n ≤ l.length * (d + 1) := by
  have h1 : (List.range g.n).length ≤ (l.flatMap (cnb g)).length := nodup_len (rng_nodup g.n) fun a ha => by
    have ha := List.mem_range.mp ha
    obtain ⟨b, h1, h2, h3⟩ := wat_iff.mp w a ha
    refine List.mem_flatMap.mpr ⟨b, h1, mem_cnb.mpr ⟨ha, ?_⟩⟩
    rcases h3 with e | h3
    · exact .inl e.symm
    · exact .inr (by rw [adj_symm]; exact h3)
  rw [List.length_range] at h1
  refine Nat.le_trans h1 (flen fun a ha => Nat.le_trans (cnb_len g a) ?_)
  have := hd a (sub_lt h ha)
  omega
theorem watch_few {g : Gr} {l : List Nat} (L : Least g l) {v : Nat} (hv : v < g.n) : l.length + deg g v ≤ g.n := by
  have h1 := pt_not g (adj g v)
  have : (pt g (adj g v)).length = deg g v := rfl
  have := L.min (pt g fun a => !adj g v a) (pt_sub g _) (wat_iff.mpr fun a ha => by
    by_cases h : adj g v a = true
    · exact ⟨v, mem_pt.mpr ⟨hv, by rw [adj_self]; rfl⟩, hv, .inr (by rw [adj_symm]; exact h)⟩
    · exact ⟨a, mem_pt.mpr ⟨ha, by simpa using h⟩, ha, .inl rfl⟩)
  omega
theorem watch_half {g : Gr} {l : List Nat} (L : Least g l) (hd : ∀ a, a < g.n → 0 < deg g a) : 2 * l.length ≤ g.n := by
  have h1 := pt_not g fun a => decide (a ∈ l)
  have h2 := pt_mem L.sub
  have := L.min (pt g fun a => !decide (a ∈ l)) (pt_sub g _) (wat_iff.mpr fun a ha => by
    by_cases hal : a ∈ l
    · apply Classical.byContradiction
      intro hno
      have nb : ∀ c, c < g.n → adj g a c = true → c ∈ l := fun c hc hadj => by
        apply Classical.byContradiction
        intro hcl
        exact hno ⟨c, mem_pt.mpr ⟨hc, by simpa using hcl⟩, hc, .inr hadj⟩
      have hdeg := hd a ha
      obtain ⟨e, he⟩ := List.exists_mem_of_length_pos hdeg
      obtain ⟨he1, he2⟩ := List.mem_filter.mp he
      have he1 := List.mem_range.mp he1
      have hea : e ≠ a := fun z => by rw [z, adj_self] at he2; cases he2
      have hsub : (l.filter fun x => decide (x ≠ a)).Sublist (List.range g.n) := List.Sublist.trans List.filter_sublist L.sub
      have hw : wat g (l.filter fun x => decide (x ≠ a)) = true := wat_iff.mpr fun c hc => by
        obtain ⟨b, b1, b2, b3⟩ := wat_iff.mp L.w c hc
        by_cases hba : b = a
        · subst hba
          by_cases hcb : c = b
          · subst hcb
            exact ⟨e, List.mem_filter.mpr ⟨nb e he1 he2, decide_eq_true hea⟩, he1, .inr he2⟩
          · rcases b3 with z | z
            · exact absurd z hcb
            · exact ⟨c, List.mem_filter.mpr ⟨nb c hc (by rw [adj_symm]; exact z), decide_eq_true hcb⟩, hc, .inl rfl⟩
        · exact ⟨b, List.mem_filter.mpr ⟨b1, decide_eq_true hba⟩, b2, b3⟩
      have hlen := L.min _ hsub hw
      have : (a :: l.filter fun x => decide (x ≠ a)).length ≤ l.length := nodup_len (List.nodup_cons.mpr ⟨fun z => by simpa using (List.mem_filter.mp z).2, sub_nodup hsub⟩) fun x hx => by
        rcases List.mem_cons.mp hx with z | z
        · rw [z]; exact hal
        · exact (List.mem_filter.mp z).1
      rw [List.length_cons] at this
      omega
    · exact ⟨a, mem_pt.mpr ⟨ha, by simpa using hal⟩, ha, .inl rfl⟩)
  omega
theorem dist_down {g : Gr} {a : Nat} {f : Fd} (D : Dist g a f) : ∀ (j k b : Nat), gt f b = some (k + j) → ∃ c, gt f c = some k
  | 0, k, b, h => ⟨b, h⟩
  | j + 1, k, b, h => by
    obtain ⟨u, _, _, hu⟩ := D.par b (k + j) h
    exact dist_down D j k u hu
theorem watch_wide {g : Gr} {l : List Nat} (h : l.Sublist (List.range g.n)) (w : wat g l = true) {a b m : Nat} {f : Fd} (D : Dist g a f) (hb : gt f b = some m) : m + 1 ≤ 3 * l.length := by
  have h1 : (List.range (m + 1)).length ≤ (l.flatMap fun x => [((gt f x).getD 0) - 1, (gt f x).getD 0, (gt f x).getD 0 + 1]).length := nodup_len (rng_nodup _) fun k hk => by
    have hk := List.mem_range.mp hk
    obtain ⟨c, hc⟩ := dist_down D (m - k) k b (by rw [hb]; congr 1; omega)
    have hcn : c < g.n := by rw [← D.len]; exact gt_lt hc
    obtain ⟨x, x1, x2, x3⟩ := wat_iff.mp w c hcn
    refine List.mem_flatMap.mpr ⟨x, x1, ?_⟩
    rcases x3 with e | x3
    · subst e
      rw [hc]
      simp
    · obtain ⟨i, hi, hle⟩ := D.near c x k hc x2 x3
      obtain ⟨i2, hi2, hle2⟩ := D.near x c i hi hcn (by rw [adj_symm]; exact x3)
      rw [hc] at hi2
      cases hi2
      rw [hi]
      simp
      omega
  have h2 : (l.flatMap fun x => [((gt f x).getD 0) - 1, (gt f x).getD 0, (gt f x).getD 0 + 1]).length ≤ l.length * 3 := flen fun x _ => Nat.le_refl _
  rw [List.length_range] at h1
  omega
theorem loose_watch {g : Gr} {l : List Nat} (h1 : l ∈ lots g loose) (h2 : ∀ m ∈ lots g loose, m.length ≤ l.length) : wat g l = true := by
  obtain ⟨hs, hl⟩ := lots_sub.mp h1
  have hl := loose_iff.mp hl
  refine wat_iff.mpr fun a ha => ?_
  apply Classical.byContradiction
  intro hno
  have na : ∀ c ∈ l, a ≠ c ∧ adj g a c = false := fun c hc => by
    refine ⟨fun e => hno ⟨c, hc, sub_lt hs hc, .inl e⟩, ?_⟩
    cases z : adj g a c with
    | false => rfl
    | true => exact absurd ⟨c, hc, sub_lt hs hc, .inr z⟩ hno
  have hM : pt g (fun x => decide (x = a ∨ x ∈ l)) ∈ lots g loose := lots_sub.mpr ⟨pt_sub g _, loose_iff.mpr fun x hx y hy hxy => by
    rcases of_decide_eq_true (mem_pt.mp hx).2 with e | hx1
    · rcases of_decide_eq_true (mem_pt.mp hy).2 with e2 | hy1
      · omega
      · rw [e]; exact (na y hy1).2
    · rcases of_decide_eq_true (mem_pt.mp hy).2 with e2 | hy1
      · rw [adj_symm, e2]; exact (na x hx1).2
      · exact hl x hx1 y hy1 hxy⟩
  have := h2 _ hM
  have : (a :: l).length ≤ (pt g fun x => decide (x = a ∨ x ∈ l)).length := nodup_len (List.nodup_cons.mpr ⟨fun z => (na a z).1 rfl, sub_nodup hs⟩) fun x hx => by
    rcases List.mem_cons.mp hx with z | z
    · exact mem_pt.mpr ⟨by rw [z]; exact ha, decide_eq_true (.inl z)⟩
    · exact mem_pt.mpr ⟨sub_lt hs z, decide_eq_true (.inr z)⟩
  rw [List.length_cons] at this
  omega
/-- the vertices seen from a lot, without repetition: all of them if the lot watches -/
theorem seen_wat {g : Gr} {l out : List Nat} (h : l.Sublist (List.range g.n)) (hn : out.Nodup) (hm : ∀ x, x ∈ out ↔ x ∈ l.flatMap (cnb g)) : decide (out.length = g.n) = wat g l := by
  have sub : ∀ x ∈ out, x ∈ List.range g.n := fun x hx => by
    obtain ⟨a, _, h2⟩ := List.mem_flatMap.mp ((hm x).mp hx)
    exact List.mem_range.mpr (mem_cnb.mp h2).1
  have hle := nodup_len hn sub
  rw [List.length_range] at hle
  have key : wat g l = true ↔ ∀ a, a < g.n → a ∈ out := by
    rw [wat_iff]
    constructor
    · intro z a ha
      obtain ⟨b, b1, b2, b3⟩ := z a ha
      refine (hm a).mpr (List.mem_flatMap.mpr ⟨b, b1, mem_cnb.mpr ⟨ha, ?_⟩⟩)
      rcases b3 with e | b3
      · exact .inl e.symm
      · exact .inr (by rw [adj_symm]; exact b3)
    · intro z a ha
      obtain ⟨b, b1, b2⟩ := List.mem_flatMap.mp ((hm a).mp (z a ha))
      refine ⟨b, b1, sub_lt h b1, ?_⟩
      rcases (mem_cnb.mp b2).2 with e | e
      · exact .inl e.symm
      · exact .inr (by rw [adj_symm]; exact e)
  cases hw : wat g l with
  | true =>
    have := nodup_len (rng_nodup g.n) fun x hx => key.mp hw x (List.mem_range.mp hx)
    rw [List.length_range] at this
    exact decide_eq_true (by omega)
  | false =>
    refine decide_eq_false fun e => ?_
    have : wat g l = true := key.mpr fun a ha => by
      apply Classical.byContradiction
      intro hna
      have := nodup_len (List.nodup_cons.mpr ⟨hna, hn⟩) fun x hx => (List.mem_cons.mp hx).elim (fun z => by rw [z]; exact List.mem_range.mpr ha) (sub x)
      rw [List.length_cons, List.length_range] at this
      omega
    rw [hw] at this
    cases this
end W3
namespace W3
open PySem
def clOk (g : Gr) (c : List Nat) (x : Nat) : Bool := !(List.range c.length).any fun k => adj g c.length k && decide (c.getD k 0 = x)
def topC (c : List Nat) : Nat := c.foldl (fun m x => max m (x + 1)) 0
def colsGo (g : Gr) (most : Nat) : Nat → List Nat → Option (List Nat)
  | 0, _ => none
  | k + 1, c => if c.length = g.n then some c else (List.range (min most (topC c + 1))).findSome? fun x => if clOk g c x = true then colsGo g most k (c ++ [x]) else none
def cols (g : Gr) (most : Nat) (c : List Nat) : Option (List Nat) := colsGo g most (g.n + 1 - c.length) c
/-- k colours are enough -/
def Colb (g : Gr) (k : Nat) : Prop := ∃ f : Nat → Nat, (∀ v, v < g.n → f v < k) ∧ ∀ u v, u < g.n → v < g.n → adj g u v = true → f u ≠ f v
theorem topC_app (c : List Nat) (x : Nat) : topC (c ++ [x]) = max (topC c) (x + 1) := by
  unfold topC
  rw [List.foldl_append]
  rfl
theorem topC_top : ∀ (c : List Nat) (m : Nat), m ≤ c.foldl (fun m x => max m (x + 1)) m ∧ ∀ x ∈ c, x < c.foldl (fun m x => max m (x + 1)) m
  | [], m => ⟨Nat.le_refl _, fun _ h => nomatch h⟩
  | y :: c, m => by
    obtain ⟨h1, h2⟩ := topC_top c (max m (y + 1))
    rw [List.foldl_cons]
    refine ⟨by omega, fun x hx => ?_⟩
    rcases List.mem_cons.mp hx with e | hx
    · rw [e]; omega
    · exact h2 x hx
theorem lt_topC {c : List Nat} {x : Nat} (h : x ∈ c) : x < topC c := (topC_top c 0).2 x h
theorem topC_le {c : List Nat} {k : Nat} (h : ∀ x ∈ c, x < k) : topC c ≤ k := by
  have key : ∀ (c : List Nat) (m : Nat), m ≤ k → (∀ x ∈ c, x < k) → c.foldl (fun m x => max m (x + 1)) m ≤ k := fun c => by
    induction c with
    | nil => exact fun m hm _ => hm
    | cons y c ih =>
      intro m hm h
      rw [List.foldl_cons]
      have := h y List.mem_cons_self
      exact ih _ (by omega) fun x hx => h x (List.mem_cons_of_mem _ hx)
  exact key c 0 (Nat.zero_le _) h
theorem clOk_iff {g : Gr} {c : List Nat} {x : Nat} : clOk g c x = true ↔ ∀ k, k < c.length → adj g c.length k = true → c.getD k 0 ≠ x := by
  unfold clOk
  rw [Bool.not_eq_true', List.any_eq_false]
  constructor
  · intro h k hk ha e
    have := h k (List.mem_range.mpr hk)
    rw [ha, e] at this
    simp at this
  · intro h k hk
    have := h k (List.mem_range.mp hk)
    intro z
    rw [Bool.and_eq_true] at z
    exact this z.1 (of_decide_eq_true z.2)
/-- the colours so far -/
structure PC (g : Gr) (most : Nat) (c : List Nat) : Prop where
  len : c.length ≤ g.n
  lt : ∀ x ∈ c, x < most
  pr : ∀ i j, i < c.length → j < c.length → adj g i j = true → c.getD i 0 ≠ c.getD j 0
theorem getD_app {c : List Nat} {x i : Nat} (h : i < c.length) : (c ++ [x]).getD i 0 = c.getD i 0 := by
  rw [List.getD_eq_getElem?_getD, List.getD_eq_getElem?_getD, List.getElem?_append_left h]
theorem getD_last {c : List Nat} {x : Nat} : (c ++ [x]).getD c.length 0 = x := by
  rw [List.getD_eq_getElem?_getD, List.getElem?_append_right (Nat.le_refl _)]
  simp
theorem PC.step {g : Gr} {most x : Nat} {c : List Nat} (P : PC g most c) (hl : c.length < g.n) (hx : x < most) (ho : clOk g c x = true) : PC g most (c ++ [x]) := by
  have ho := clOk_iff.mp ho
  refine ⟨by rw [List.length_append]; exact hl, fun y hy => ?_, fun i j hi hj ha => ?_⟩
  · rcases List.mem_append.mp hy with h | h
    · exact P.lt y h
    · rw [List.mem_singleton.mp h]; exact hx
  · rw [List.length_append, List.length_singleton] at hi hj
    by_cases h1 : i < c.length <;> by_cases h2 : j < c.length
    · rw [getD_app h1, getD_app h2]; exact P.pr i j h1 h2 ha
    · have : j = c.length := by omega
      subst this
      rw [getD_app h1, getD_last]
      exact ho i h1 (by rw [adj_symm]; exact ha)
    · have : i = c.length := by omega
      subst this
      rw [getD_app h2, getD_last]
      exact Ne.symm (ho j h2 ha)
    · have : i = j := by omega
      rw [this, adj_self] at ha; cases ha
theorem cols_good {g : Gr} {most : Nat} : ∀ (k : Nat) {c d : List Nat}, PC g most c → colsGo g most k c = some d → PC g most d ∧ d.length = g.n
  | 0, c, d, P, h => by cases h
  | k + 1, c, d, P, h => by
    unfold colsGo at h
    split at h
    · rename_i hl
      cases h
      exact ⟨P, hl⟩
    · rename_i hl
      have hlt : c.length < g.n := by have := P.len; omega
      obtain ⟨x, hx, e⟩ := List.exists_of_findSome?_eq_some h
      split at e
      · rename_i ho
        have hx := List.mem_range.mp hx
        exact cols_good k (P.step hlt (by omega) ho) e
      · cases e
theorem PC.nil (g : Gr) (most : Nat) : PC g most [] := ⟨Nat.zero_le _, (fun _ h => nomatch h), fun i j hi => by simp at hi⟩
theorem mem_getD {c : List Nat} {i : Nat} (h : i < c.length) : c.getD i 0 ∈ c := by
  rw [List.getD_eq_getElem?_getD, List.getElem?_eq_getElem h]
  exact List.getElem_mem h
theorem PC.colb {g : Gr} {most : Nat} {d : List Nat} (P : PC g most d) (hl : d.length = g.n) : Colb g most :=
  ⟨fun v => d.getD v 0, fun v hv => P.lt _ (mem_getD (by omega)), fun u v hu hv ha => P.pr u v (by omega) (by omega) ha⟩
/-- the colours so far go with the colouring f -/
structure Cmp (g : Gr) (f : Nat → Nat) (c : List Nat) : Prop where
  same : ∀ i j, i < c.length → j < c.length → (c.getD i 0 = c.getD j 0 ↔ f i = f j)
  full : ∀ x, x < topC c → x ∈ c
theorem idx_at {c : List Nat} {x : Nat} (h : x ∈ c) : c.idxOf x < c.length ∧ c.getD (c.idxOf x) 0 = x := by
  have hl := List.idxOf_lt_length_iff.mpr h
  refine ⟨hl, ?_⟩
  rw [List.getD_eq_getElem?_getD, List.getElem?_eq_getElem hl]
  simp
theorem cols_found {g : Gr} {most : Nat} {f : Nat → Nat} (hf : ∀ v, v < g.n → f v < most) (hp : ∀ u v, u < g.n → v < g.n → adj g u v = true → f u ≠ f v) : ∀ (k : Nat) {c : List Nat}, PC g most c → Cmp g f c → g.n < c.length + k → colsGo g most k c ≠ none
  | 0, c, P, M, h => by have := P.len; omega
  | k + 1, c, P, M, h => by
    unfold colsGo
    by_cases hl : c.length = g.n
    · rw [if_pos hl]; simp
    · rw [if_neg hl]
      have hlt : c.length < g.n := by have := P.len; omega
      have go : ∀ x, x < min most (topC c + 1) → clOk g c x = true → Cmp g f (c ++ [x]) → ((List.range (min most (topC c + 1))).findSome? fun x => if clOk g c x = true then colsGo g most k (c ++ [x]) else none) ≠ none := fun x hx ho M' e => by
        have := List.findSome?_eq_none_iff.mp e x (List.mem_range.mpr hx)
        rw [if_pos ho] at this
        exact cols_found hf hp k (P.step hlt (by omega) ho) M' (by rw [List.length_append, List.length_singleton]; omega) this
      by_cases hex : ∃ i, i < c.length ∧ f i = f c.length
      · obtain ⟨i, hi, hfi⟩ := hex
        have hm := mem_getD hi
        have ht := lt_topC hm
        refine go (c.getD i 0) (by have := P.lt _ hm; omega) (clOk_iff.mpr fun j hj ha e => ?_) ⟨fun a b hha hhb => ?_, fun x hx => ?_⟩
        · have := (M.same j i hj hi).mp e
          exact hp c.length j hlt (by omega) ha (by rw [← hfi, this])
        · rw [List.length_append, List.length_singleton] at hha hhb
          by_cases h1 : a < c.length <;> by_cases h2 : b < c.length
          · rw [getD_app h1, getD_app h2]; exact M.same a b h1 h2
          · have : b = c.length := by omega
            subst this
            rw [getD_app h1, getD_last, M.same a i h1 hi, hfi]
          · have : a = c.length := by omega
            subst this
            rw [getD_app h2, getD_last, M.same i b hi h2, hfi]
          · have : a = b := by omega
            rw [this]; simp
        · rw [topC_app] at hx
          exact List.mem_append_left _ (M.full x (by omega))
      · have hno : ∀ i, i < c.length → f i ≠ f c.length := fun i hi e => hex ⟨i, hi, e⟩
        have hlm : topC c < most := by
          have hn : ((List.range (topC c)).map (fun x => f (c.idxOf x)) ++ [f c.length]).Nodup := by
            rw [List.nodup_append]
            refine ⟨?_, by simp, fun x hx y hy e => ?_⟩
            · refine List.Pairwise.map _ (fun x y h => h) (R := fun x y => f (c.idxOf x) ≠ f (c.idxOf y)) ?_
              refine List.Pairwise.imp_of_mem (fun {x y} hx hy hne e => ?_) (rng_nodup (topC c))
              obtain ⟨x1, x2⟩ := idx_at (M.full x (List.mem_range.mp hx))
              obtain ⟨y1, y2⟩ := idx_at (M.full y (List.mem_range.mp hy))
              have := (M.same _ _ x1 y1).mpr e
              rw [x2, y2] at this
              exact hne this
            · obtain ⟨z, hz, rfl⟩ := List.mem_map.mp hx
              rw [List.mem_singleton.mp hy] at e
              exact hno _ (idx_at (M.full z (List.mem_range.mp hz))).1 e
          have := nodup_len hn (m := List.range most) fun x hx => by
            rcases List.mem_append.mp hx with h | h
            · obtain ⟨z, hz, rfl⟩ := List.mem_map.mp h
              have := (idx_at (M.full z (List.mem_range.mp hz))).1
              exact List.mem_range.mpr (hf _ (by omega))
            · rw [List.mem_singleton.mp h]
              exact List.mem_range.mpr (hf _ hlt)
          simp at this
          omega
        refine go (topC c) (by omega) (clOk_iff.mpr fun j hj ha e => ?_) ⟨fun a b hha hhb => ?_, fun x hx => ?_⟩
        · have := lt_topC (mem_getD hj)
          omega
        · rw [List.length_append, List.length_singleton] at hha hhb
          by_cases h1 : a < c.length <;> by_cases h2 : b < c.length
          · rw [getD_app h1, getD_app h2]; exact M.same a b h1 h2
          · have : b = c.length := by omega
            subst this
            rw [getD_app h1, getD_last]
            have := lt_topC (mem_getD h1)
            exact ⟨fun e => by omega, fun e => absurd e (hno a h1)⟩
          · have : a = c.length := by omega
            subst this
            rw [getD_app h2, getD_last]
            have := lt_topC (mem_getD h2)
            exact ⟨fun e => by omega, fun e => absurd e.symm (hno b h2)⟩
          · have : a = b := by omega
            rw [this]; simp
        · rw [topC_app] at hx
          by_cases hxe : x = topC c
          · rw [hxe]; exact List.mem_append_right _ List.mem_cons_self
          · exact List.mem_append_left _ (M.full x (by omega))
theorem cols_iff {g : Gr} {most : Nat} : cols g most [] ≠ none ↔ Colb g most := by
  constructor
  · intro h
    cases e : cols g most [] with
    | none => exact absurd e h
    | some d =>
      obtain ⟨P, hl⟩ := cols_good _ (PC.nil g most) e
      exact P.colb hl
  · rintro ⟨f, hf, hp⟩
    exact cols_found hf hp _ (PC.nil g most) ⟨(fun i j hi => by simp at hi), fun x hx => by simp [topC] at hx⟩ (by simp)
/-- the least number of colours -/
structure Chi (g : Gr) (k : Nat) : Prop where
  pos : 1 ≤ k
  col : Colb g k
  min : ∀ j, 1 ≤ j → j < k → ¬ Colb g j
theorem colb_n (g : Gr) : Colb g g.n := ⟨id, fun v hv => hv, fun u v hu hv ha e => by
  have e : u = v := e
  rw [e, adj_self] at ha; cases ha⟩
theorem Colb.mono {g : Gr} {j k : Nat} (h : Colb g j) (hjk : j ≤ k) : Colb g k := by
  obtain ⟨f, h1, h2⟩ := h
  exact ⟨f, fun v hv => Nat.lt_of_lt_of_le (h1 v hv) hjk, h2⟩
theorem Chi.le {g : Gr} {k j : Nat} (h : Chi g k) (hn : 1 ≤ g.n) (hj : Colb g j) : k ≤ j := by
  by_cases h0 : j = 0
  · subst h0
    obtain ⟨f, h1, _⟩ := hj
    have := h1 0 (by omega)
    omega
  · by_cases hlt : j < k
    · exact absurd hj (h.min j (by omega) hlt)
    · omega
theorem Chi.uniq {g : Gr} {k j : Nat} (hn : 1 ≤ g.n) (h : Chi g k) (h' : Chi g j) : k = j := Nat.le_antisymm (h.le hn h'.col) (h'.le hn h.col)
/-- colours depend on the joins alone -/
theorem Colb.of_adj {g h : Gr} {k : Nat} (hn : g.n = h.n) (ha : ∀ u v, u < g.n → v < g.n → adj g u v = adj h u v) (c : Colb g k) : Colb h k := by
  obtain ⟨f, h1, h2⟩ := c
  exact ⟨f, fun v hv => h1 v (by omega), fun u v hu hv z => h2 u v (by omega) (by omega) (by rw [ha u v (by omega) (by omega)]; exact z)⟩
end W3
namespace W3
open PySem
open PySem.W (alike alikeAll dataLt AllAlike Sortable dataLe AlikeAll minD maxD)
def resD : Option (List Nat) → D
  | none => .none
  | some l => ltD l
theorem flat_resD (o : Option (List Nat)) : flat (resD o) = true := by
  cases o with
  | none => rfl
  | some l => exact flat_ltD l
def spC (j : Nat) : List D → (D → Prop) → Prop := fun ds Q => ∃ (g : Gr) (c : List Nat) (most : Nat), ds = [grD g, ltD c, nD most] ∧ (g.n ≤ 8 ∧ c.length ≤ g.n ∧ g.n + 1 - c.length ≤ j ∧ most ≤ 1000) ∧ Q (resD (cols g most c))
def sp18 : List D → (D → Prop) → Prop := spC 9
def sp19 : List D → (D → Prop) → Prop := fun ds Q => ∃ (g : Gr) (most : Nat), ds = [grD g, nD most] ∧ (g.n ≤ 8 ∧ most ≤ 1000) ∧ Q (resD (cols g most []))
def sp20 : List D → (D → Prop) → Prop := fun ds Q => ∃ g : Gr, ds = [grD g] ∧ (1 ≤ g.n ∧ g.n ≤ 8) ∧ ∀ k, Chi g k → Q (nD k)
/-- the other edges -/
def oth (g : Gr) : Gr := ⟨g.n, (allp g.n).filter fun p => !adj g p.1 p.2⟩
def sp106 : List D → (D → Prop) → Prop := fun ds Q => ∃ g : Gr, ds = [grD g] ∧ g.n ≤ 1000 ∧ Q (.tuple ((oth g).es.map prD))
def sp105 : List D → (D → Prop) → Prop := fun ds Q => ∃ g : Gr, ds = [grD g] ∧ (1 ≤ g.n ∧ g.n ≤ 8) ∧ ∀ k, Chi (oth g) k → Q (nD k)
theorem cols_full {g : Gr} {most : Nat} {c : List Nat} (h : c.length = g.n) : cols g most c = some c := by
  unfold cols
  rw [show g.n + 1 - c.length = 0 + 1 by omega]
  unfold colsGo
  rw [if_pos h]
theorem cols_step {g : Gr} {most : Nat} {c : List Nat} (h : c.length < g.n) : cols g most c = (List.range (min most (topC c + 1))).findSome? fun x => if clOk g c x = true then cols g most (c ++ [x]) else none := by
  unfold cols
  rw [show g.n + 1 - c.length = (g.n - c.length) + 1 by omega]
  unfold colsGo
  rw [if_neg (by omega)]
  congr 1
  funext x
  rw [List.length_append, List.length_singleton, show g.n + 1 - (c.length + 1) = g.n - c.length by omega]
  cases hk : g.n - c.length with
  | zero => omega
  | succ k => rfl
theorem find_at {α β : Type} {f : α → Option β} {l : List α} {i : Nat} {x : α} {r : β} (hx : l[i]? = some x) (h0 : ∀ y ∈ l.take i, f y = none) (hf : f x = some r) : l.findSome? f = some r := by
  induction l generalizing i with
  | nil => simp at hx
  | cons a l ih =>
    cases i with
    | zero =>
      cases hx
      rw [List.findSome?_cons, hf]
    | succ i =>
      rw [List.findSome?_cons, h0 a (by simp)]
      exact ih (by simpa using hx) fun y hy => h0 y (by rw [List.take_succ_cons]; exact List.mem_cons_of_mem _ hy)
section
variable {Φ : Fam}
theorem top_wp (c : List Nat) {K : D → Prop} (k : K (.int ((topC c : Int) - 1))) : AlikeAll (c.map nD) ∧ (∀ d ∈ c.map nD, shp d) → (match c.map nD with
      | [] => K (.int (-1))
      | d :: r => K (maxD d r)) := by
  intro _
  cases c with
  | nil => exact k
  | cons x l =>
    obtain ⟨m, h1, h2, h3, h4⟩ := maxD_nat l x
    show K (maxD (nD x) (l.map nD))
    rw [h1]
    have hm : m ∈ x :: l := by
      rcases h2 with z | z
      · rw [z]; exact List.mem_cons_self
      · exact List.mem_cons_of_mem _ z
    have e1 := lt_topC hm
    have e2 : topC (x :: l) ≤ m + 1 := topC_le fun y hy => by
      rcases List.mem_cons.mp hy with z | z
      · rw [z]; omega
      · have := h4 y z
        omega
    have e : ((topC (x :: l) : Nat) : Int) - 1 = (m : Int) := by omega
    rw [e] at k
    exact k
def e18 : Ex := .mn2 (.slot 2) (.op .add (.mxd (.slot 1) (.un .neg (.cst (.int 1)))) (.cst (.int 2)))
def f18 : List Sc := [.ite (.not (.b1 .any (.lc [6] (.nm 6) true [(.slot 3)] none (.and (.call 5 [(.slot 0), (.slot 3), (.slot 6)]) (.op .eq (.ix (.slot 1) (.slot 6)) (.slot 4)))))) [.set (.nm 5) (.call 18 [(.slot 0), (.op .add (.slot 1) (.tup [(.slot 4)])), (.slot 2)]), .ite (.un .notN (.slot 5)) [.ret (.slot 5)] []] []]
theorem b18_eq : b18 = [.set (.nm 3) (.b1 .len (.slot 1)), .ite (.op .eq (.slot 3) (.ix (.slot 0) (.cst (.int 0)))) [.ret (.slot 1)] [], .for_ (.nm 4) true [e18] f18, .ret (.cst .none)] := rfl
theorem e18_wp (g : Gr) (c : List Nat) (most : Nat) (o : List (Option D)) {K : Kc} (k : K (nD (min most (topC c + 1))) 0) : wpE Φ e18 false (some (grD g) :: some (ltD c) :: some (nD most) :: o) 0 K := by
  have fin : ∀ i : Int, i = (topC c : Int) + 1 → K (.int (if i < (most : Int) then i else most)) 0 := fun i e => by
    have : (if i < (most : Int) then i else (most : Int)) = ((min most (topC c + 1) : Nat) : Int) := by
      rw [e]
      split <;> omega
    rw [this]
    exact k
  cases c with
  | nil =>
    simp only [e18, ltD, nD, wpB, wpS, wpE, wpL, wpO, wpOT, wpT, fin, getS, optK, intK.eq_1, boolK.eq_1, truK.eq_1, truK.eq_2, truK.eq_3, truK.eq_4, truK.eq_5, seqK.eq_1, seqK.eq_2, op2, op1, b1K.eq_1, b1K.eq_2, b1K.eq_3, b1K.eq_4, b1K.eq_5, b1K.eq_6, b1K.eq_7, b1K.eq_8, b1K.eq_9, b1K.eq_10, b1K.eq_11, b1K.eq_12, b1K.eq_13, b1K.eq_14, b1K.eq_15, itK, tgFlat, asOk, wpTg.eq_1, wpTg.eq_2, wpTgs.eq_1, wpTgs.eq_2, wipeS, List.set, sl0, List.map, List.replicate, List.length_cons, List.length_nil, Nat.sub_self, Nat.reduceSub, Nat.reduceAdd, List.cons_append, List.nil_append, if_true]
    exact ⟨alike_nats [], fin _ (by simp [topC])⟩
  | cons x l =>
    simp only [e18, ltD, nD, wpB, wpS, wpE, wpL, wpO, wpOT, wpT, fin, getS, optK, intK.eq_1, boolK.eq_1, truK.eq_1, truK.eq_2, truK.eq_3, truK.eq_4, truK.eq_5, seqK.eq_1, seqK.eq_2, op2, op1, b1K.eq_1, b1K.eq_2, b1K.eq_3, b1K.eq_4, b1K.eq_5, b1K.eq_6, b1K.eq_7, b1K.eq_8, b1K.eq_9, b1K.eq_10, b1K.eq_11, b1K.eq_12, b1K.eq_13, b1K.eq_14, b1K.eq_15, itK, tgFlat, asOk, wpTg.eq_1, wpTg.eq_2, wpTgs.eq_1, wpTgs.eq_2, wipeS, List.set, sl0, List.map, List.replicate, List.length_cons, List.length_nil, Nat.sub_self, Nat.reduceSub, Nat.reduceAdd, List.cons_append, List.nil_append, if_true]
    refine ⟨alike_nats (x :: l), ?_⟩
    refine top_wp (x :: l) (K := fun z => op2 .add z (.int 2) fun z => intK z fun i => K (.int (if i < (most : Int) then i else most)) 0) ?_ (alike_nats (x :: l))
    exact fin _ (by omega)
theorem w18s {j : Nat} (M : Φ.Mono) (h5 : Has Φ 5 sp5) (h18 : Has Φ 18 (spC j)) {ds : List D} {Q : D → Prop} (h : spC (j + 1) ds Q) : wpB Φ [5] b18 (sl0 N18 ds) 0 { nx := fun _ _ => Q .none, rt := fun d _ => Q d } := by
  obtain ⟨g, c, most, rfl, ⟨hn, hl, hj, hm⟩, q⟩ := h
  rw [b18_eq]
  refine wpB_seq M (fun Γ g' => g' = 0 ∧ Γ = [some (grD g), some (ltD c), some (nD most), some (nD c.length), none, none, none]) ?_ ?_
  · simp only [N18, ltD, wpB, wpS, wpE, wpL, wpO, wpOT, wpT, fin, getS, optK, intK.eq_1, boolK.eq_1, truK.eq_1, truK.eq_2, truK.eq_3, truK.eq_4, truK.eq_5, seqK.eq_1, seqK.eq_2, op2, op1, b1K.eq_1, b1K.eq_2, b1K.eq_3, b1K.eq_4, b1K.eq_5, b1K.eq_6, b1K.eq_7, b1K.eq_8, b1K.eq_9, b1K.eq_10, b1K.eq_11, b1K.eq_12, b1K.eq_13, b1K.eq_14, b1K.eq_15, itK, tgFlat, asOk, wpTg.eq_1, wpTg.eq_2, wpTgs.eq_1, wpTgs.eq_2, wipeS, List.set, sl0, List.map, List.replicate, List.length_cons, List.length_nil, Nat.sub_self, Nat.reduceSub, Nat.reduceAdd, List.cons_append, List.nil_append, if_true]
    refine ⟨rfl, trivial, ?_⟩
    rw [List.length_map]
    rfl
  rintro Γ g' ⟨rfl, rfl⟩
  refine wpB_seq M (fun Γ g' => (g' = 0 ∧ Γ = [some (grD g), some (ltD c), some (nD most), some (nD c.length), none, none, none]) ∧ c.length < g.n) ?_ ?_
  · simp only [wpB, wpS, wpE, wpL, wpO, wpOT, wpT, fin, getS, optK, intK.eq_1, boolK.eq_1, truK.eq_1, truK.eq_2, truK.eq_3, truK.eq_4, truK.eq_5, seqK.eq_1, seqK.eq_2, op2, op1, b1K.eq_1, b1K.eq_2, b1K.eq_3, b1K.eq_4, b1K.eq_5, b1K.eq_6, b1K.eq_7, b1K.eq_8, b1K.eq_9, b1K.eq_10, b1K.eq_11, b1K.eq_12, b1K.eq_13, b1K.eq_14, b1K.eq_15, itK, tgFlat, asOk, wpTg.eq_1, wpTg.eq_2, wpTgs.eq_1, wpTgs.eq_2, wipeS, List.set, sl0, List.map, List.replicate, List.length_cons, List.length_nil, Nat.sub_self, Nat.reduceSub, Nat.reduceAdd, List.cons_append, List.nil_append, if_true]
    refine ix0 g ⟨shp_nD c.length, ?_⟩
    rw [eqv_nD]
    by_cases hfull : c.length = g.n
    · rw [decide_eq_true hfull]
      refine ifT rfl ⟨congrArg (fun b => (b || _) || _) (flat_ltD c), ?_⟩
      rw [cols_full hfull] at q
      exact q
    · rw [decide_eq_false hfull]
      exact ifF rfl ⟨⟨trivial, trivial⟩, by omega⟩
  rintro Γ g' ⟨⟨rfl, rfl⟩, hlt⟩
  rw [cols_step hlt] at q
  refine wpB_seq M (fun Γ g' => ∀ x ∈ List.range (min most (topC c + 1)), (if clOk g c x = true then cols g most (c ++ [x]) else none) = none) ?_ ?_
  · rw [wpS, wpL]
    refine e18_wp g c most _ ?_
    rw [wpL]
    refine ⟨rfl, ?_⟩
    rw [itK]
    refine rng1 _ (by omega) ?_
    refine forW_map nD (fun i Γ g' => (∃ o4 o5, Γ = [some (grD g), some (ltD c), some (nD most), some (nD c.length), o4, o5, none] ∧ g' = 0) ∧ ∀ x ∈ (List.range (min most (topC c + 1))).take i, (if clOk g c x = true then cols g most (c ++ [x]) else none) = none) _ 0 ⟨⟨none, none, rfl, rfl⟩, by simp⟩ ?_ ?_
    · rintro i x Γ g' nx hx ⟨⟨o4, o5, rfl, rfl⟩, hall⟩ hk
      rw [Nat.zero_add] at hall hk
      have htk : (List.range (min most (topC c + 1))).take (i + 1) = (List.range (min most (topC c + 1))).take i ++ [x] := by rw [List.take_succ, hx]; rfl
      have next : (if clOk g c x = true then cols g most (c ++ [x]) else none) = none → ∀ y ∈ (List.range (min most (topC c + 1))).take (i + 1), (if clOk g c y = true then cols g most (c ++ [y]) else none) = none := fun h y hy => by
        rw [htk] at hy
        rcases List.mem_append.mp hy with hy | hy
        · exact hall y hy
        · rw [List.mem_singleton.mp hy]; exact h
      simp only [f18, wpB, wpS, wpE, wpL, wpO, wpOT, wpT, fin, getS, optK, intK.eq_1, boolK.eq_1, truK.eq_1, truK.eq_2, truK.eq_3, truK.eq_4, truK.eq_5, seqK.eq_1, seqK.eq_2, op2, op1, b1K.eq_1, b1K.eq_2, b1K.eq_3, b1K.eq_4, b1K.eq_5, b1K.eq_6, b1K.eq_7, b1K.eq_8, b1K.eq_9, b1K.eq_10, b1K.eq_11, b1K.eq_12, b1K.eq_13, b1K.eq_14, b1K.eq_15, itK, tgFlat, asOk, wpTg.eq_1, wpTg.eq_2, wpTgs.eq_1, wpTgs.eq_2, wipeS, List.set, sl0, List.map, List.replicate, List.length_cons, List.length_nil, Nat.sub_self, Nat.reduceSub, Nat.reduceAdd, List.cons_append, List.nil_append, if_true]
      refine rng1 c.length (by omega) ?_
      refine lcW_map nD (fun k => some (.bool (adj g c.length k && decide (c.getD k 0 = x)))) _ (fun k hkm K' kk => ?_) ?_
      · have hkl := List.mem_range.mp hkm
        refine h5 _ _ ⟨g, c.length, k, rfl, ?_⟩
        cases ha : adj g c.length k with
        | false => rw [ha] at kk; exact kk
        | true =>
          rw [ha] at kk
          refine ix_nD c k hkl ?_ (.inl rfl)
          refine ⟨shp_nD _, ?_⟩
          rw [eqv_nD]
          exact kk
      · rw [fms, List.nil_append]
        refine boolsK_map (fun k => adj g c.length k && decide (c.getD k 0 = x)) _ ?_
        rw [List.any_map]
        have e1 : (!(List.range c.length).any (id ∘ fun k => adj g c.length k && decide (c.getD k 0 = x))) = clOk g c x := rfl
        rw [e1]
        cases ho : clOk g c x with
        | false => exact ifF rfl (hk _ _ ⟨⟨_, o5, rfl, rfl⟩, next (by rw [ho]; rfl)⟩)
        | true =>
          refine ifT rfl ?_
          simp only [ltD, wpB, wpS, wpE, wpL, wpO, wpOT, wpT, fin, getS, optK, intK.eq_1, boolK.eq_1, truK.eq_1, truK.eq_2, truK.eq_3, truK.eq_4, truK.eq_5, seqK.eq_1, seqK.eq_2, op2, op1, b1K.eq_1, b1K.eq_2, b1K.eq_3, b1K.eq_4, b1K.eq_5, b1K.eq_6, b1K.eq_7, b1K.eq_8, b1K.eq_9, b1K.eq_10, b1K.eq_11, b1K.eq_12, b1K.eq_13, b1K.eq_14, b1K.eq_15, itK, tgFlat, asOk, wpTg.eq_1, wpTg.eq_2, wpTgs.eq_1, wpTgs.eq_2, wipeS, List.set, sl0, List.map, List.replicate, List.length_cons, List.length_nil, Nat.sub_self, Nat.reduceSub, Nat.reduceAdd, List.cons_append, List.nil_append, if_true]
          refine ⟨?_, ?_⟩
          · rw [List.length_map]
            show c.length + 1 ≤ 16000000
            omega
          have e2 : PyData.tuple (c.map nD ++ [nD x]) = ltD (c ++ [x]) := by unfold ltD; rw [List.map_append]; rfl
          rw [e2]
          refine h18 _ _ ⟨g, c ++ [x], most, rfl, ⟨hn, ?_, ?_, hm⟩, ?_⟩
          · rw [List.length_append, List.length_singleton]; omega
          · rw [List.length_append, List.length_singleton]; omega
          cases hr : cols g most (c ++ [x]) with
          | none => exact ⟨rfl, ifF rfl (hk _ _ ⟨⟨_, some .none, rfl, rfl⟩, next (by rw [ho, if_pos rfl]; exact hr)⟩)⟩
          | some d =>
            refine ⟨congrArg (fun b => b || _) (flat_ltD d), ifT rfl ⟨congrArg (fun b => (b || _) || _) (flat_ltD d), ?_⟩⟩
            rw [find_at hx hall (show (if clOk g c x = true then cols g most (c ++ [x]) else none) = some d by rw [ho, if_pos rfl]; exact hr)] at q
            exact q
    · rintro Γ g' ⟨_, hall⟩
      rw [Nat.zero_add, List.take_of_length_le (by rw [List.length_range]; exact Nat.le_refl _)] at hall
      exact hall
  · intro Γ g' hall
    rw [List.findSome?_eq_none_iff.mpr hall] at q
    simp only [wpB, wpS, wpE, wpL, wpO, wpOT, wpT, fin, getS, optK, intK.eq_1, boolK.eq_1, truK.eq_1, truK.eq_2, truK.eq_3, truK.eq_4, truK.eq_5, seqK.eq_1, seqK.eq_2, op2, op1, b1K.eq_1, b1K.eq_2, b1K.eq_3, b1K.eq_4, b1K.eq_5, b1K.eq_6, b1K.eq_7, b1K.eq_8, b1K.eq_9, b1K.eq_10, b1K.eq_11, b1K.eq_12, b1K.eq_13, b1K.eq_14, b1K.eq_15, itK, tgFlat, asOk, wpTg.eq_1, wpTg.eq_2, wpTgs.eq_1, wpTgs.eq_2, wipeS, List.set, sl0, List.map, List.replicate, List.length_cons, List.length_nil, Nat.sub_self, Nat.reduceSub, Nat.reduceAdd, List.cons_append, List.nil_append, if_true]
    exact ⟨rfl, q⟩
theorem w19 (h18 : Has Φ 18 sp18) {ds : List D} {Q : D → Prop} (h : sp19 ds Q) : wpB Φ [] b19 (sl0 N19 ds) 0 { nx := fun _ _ => Q .none, rt := fun d _ => Q d } := by
  obtain ⟨g, most, rfl, ⟨hn, hm⟩, q⟩ := h
  simp only [b19, N19, wpB, wpS, wpE, wpL, wpO, wpOT, wpT, fin, getS, optK, intK.eq_1, boolK.eq_1, truK.eq_1, truK.eq_2, truK.eq_3, truK.eq_4, truK.eq_5, seqK.eq_1, seqK.eq_2, op2, op1, b1K.eq_1, b1K.eq_2, b1K.eq_3, b1K.eq_4, b1K.eq_5, b1K.eq_6, b1K.eq_7, b1K.eq_8, b1K.eq_9, b1K.eq_10, b1K.eq_11, b1K.eq_12, b1K.eq_13, b1K.eq_14, b1K.eq_15, itK, tgFlat, asOk, wpTg.eq_1, wpTg.eq_2, wpTgs.eq_1, wpTgs.eq_2, wipeS, List.set, sl0, List.map, List.replicate, List.length_cons, List.length_nil, Nat.sub_self, Nat.reduceSub, Nat.reduceAdd, List.cons_append, List.nil_append, if_true]
  exact h18 _ _ ⟨g, [], most, rfl, ⟨hn, Nat.zero_le _, by simp; omega, hm⟩, congrArg (fun b => (b || _) || _) (flat_resD _), q⟩
/-- the search for the least number -/
theorem chi_loop (g : Gr) {K : Ke} {cnd : Sl → Nat → (Bool → Nat → Prop) → Prop} {b : Sl → Nat → Ke → Prop} (Γs : Nat → Sl)
    (hc : ∀ (k : Nat) (R : Bool → Nat → Prop), 1 ≤ k → k ≤ g.n → R (cols g k []).isNone 0 → cnd (Γs k) 0 R)
    (hb : ∀ (k : Nat) (K : Ke), K.nx (Γs (k + 1)) 0 → b (Γs k) 0 K) :
    ∀ (m k : Nat), 1 ≤ k → k ≤ g.n → g.n < k + m → (∀ j, 1 ≤ j → j < k → ¬ Colb g j) → (∀ k, Chi g k → K.nx (Γs k) 0) → whlW cnd b K m (Γs k) 0
  | 0, k, h1, h2, h3, _, _ => by omega
  | m + 1, k, h1, h2, h3, h4, q => by
    refine hc k _ h1 h2 ?_
    cases e : cols g k [] with
    | none =>
      have hno : ¬ Colb g k := fun z => cols_iff.mpr z e
      have hk : k < g.n := by
        rcases Nat.lt_or_ge k g.n with z | z
        · exact z
        · exact absurd ((colb_n g).mono z) hno
      refine ifT rfl (hb k _ ?_)
      exact chi_loop g Γs hc hb m (k + 1) (by omega) (by omega) (by omega) (fun j j1 j2 => by
        by_cases hj : j = k
        · rw [hj]; exact hno
        · exact h4 j j1 (by omega)) q
    | some d => exact ifF rfl (q k ⟨h1, cols_iff.mp (by rw [e]; simp), h4⟩)
theorem w20 (h19 : Has Φ 19 sp19) {ds : List D} {Q : D → Prop} (h : sp20 ds Q) : wpB Φ [1] b20 (sl0 N20 ds) 0 { nx := fun _ _ => Q .none, rt := fun d _ => Q d } := by
  obtain ⟨g, rfl, ⟨h1, hn⟩, q⟩ := h
  simp only [b20, N20, wpB, wpS, wpE, wpL, wpO, wpOT, wpT, fin, getS, optK, intK.eq_1, boolK.eq_1, truK.eq_1, truK.eq_2, truK.eq_3, truK.eq_4, truK.eq_5, seqK.eq_1, seqK.eq_2, op2, op1, b1K.eq_1, b1K.eq_2, b1K.eq_3, b1K.eq_4, b1K.eq_5, b1K.eq_6, b1K.eq_7, b1K.eq_8, b1K.eq_9, b1K.eq_10, b1K.eq_11, b1K.eq_12, b1K.eq_13, b1K.eq_14, b1K.eq_15, itK, tgFlat, asOk, wpTg.eq_1, wpTg.eq_2, wpTgs.eq_1, wpTgs.eq_2, wipeS, List.set, sl0, List.map, List.replicate, List.length_cons, List.length_nil, Nat.sub_self, Nat.reduceSub, Nat.reduceAdd, List.cons_append, List.nil_append, if_true]
  refine ⟨rfl, g.n + 1, ?_⟩
  refine chi_loop g (fun k => [some (grD g), some (nD k)]) (fun k R k1 k2 r => ?_) (fun k K hk => ?_) (g.n + 1) 1 (by omega) h1 (by omega) (fun j j1 j2 => by omega) fun k hk => ?_
  · simp only [wpB, wpS, wpE, wpL, wpO, wpOT, wpT, fin, getS, optK, intK.eq_1, boolK.eq_1, truK.eq_1, truK.eq_2, truK.eq_3, truK.eq_4, truK.eq_5, seqK.eq_1, seqK.eq_2, op2, op1, b1K.eq_1, b1K.eq_2, b1K.eq_3, b1K.eq_4, b1K.eq_5, b1K.eq_6, b1K.eq_7, b1K.eq_8, b1K.eq_9, b1K.eq_10, b1K.eq_11, b1K.eq_12, b1K.eq_13, b1K.eq_14, b1K.eq_15, itK, tgFlat, asOk, wpTg.eq_1, wpTg.eq_2, wpTgs.eq_1, wpTgs.eq_2, wipeS, List.set, sl0, List.map, List.replicate, List.length_cons, List.length_nil, Nat.sub_self, Nat.reduceSub, Nat.reduceAdd, List.cons_append, List.nil_append, if_true]
    refine h19 _ _ ⟨g, k, rfl, ⟨hn, by omega⟩, ?_⟩
    cases e : cols g k [] with
    | none => rw [e] at r; exact r
    | some d => rw [e] at r; exact r
  · simp only [nD, wpB, wpS, wpE, wpL, wpO, wpOT, wpT, fin, getS, optK, intK.eq_1, boolK.eq_1, truK.eq_1, truK.eq_2, truK.eq_3, truK.eq_4, truK.eq_5, seqK.eq_1, seqK.eq_2, op2, op1, b1K.eq_1, b1K.eq_2, b1K.eq_3, b1K.eq_4, b1K.eq_5, b1K.eq_6, b1K.eq_7, b1K.eq_8, b1K.eq_9, b1K.eq_10, b1K.eq_11, b1K.eq_12, b1K.eq_13, b1K.eq_14, b1K.eq_15, itK, tgFlat, asOk, wpTg.eq_1, wpTg.eq_2, wpTgs.eq_1, wpTgs.eq_2, wipeS, List.set, sl0, List.map, List.replicate, List.length_cons, List.length_nil, Nat.sub_self, Nat.reduceSub, Nat.reduceAdd, List.cons_append, List.nil_append, if_true]
    exact hk
  · simp only [nD, wpB, wpS, wpE, wpL, wpO, wpOT, wpT, fin, getS, optK, intK.eq_1, boolK.eq_1, truK.eq_1, truK.eq_2, truK.eq_3, truK.eq_4, truK.eq_5, seqK.eq_1, seqK.eq_2, op2, op1, b1K.eq_1, b1K.eq_2, b1K.eq_3, b1K.eq_4, b1K.eq_5, b1K.eq_6, b1K.eq_7, b1K.eq_8, b1K.eq_9, b1K.eq_10, b1K.eq_11, b1K.eq_12, b1K.eq_13, b1K.eq_14, b1K.eq_15, itK, tgFlat, asOk, wpTg.eq_1, wpTg.eq_2, wpTgs.eq_1, wpTgs.eq_2, wipeS, List.set, sl0, List.map, List.replicate, List.length_cons, List.length_nil, Nat.sub_self, Nat.reduceSub, Nat.reduceAdd, List.cons_append, List.nil_append, if_true]
    exact ⟨rfl, q k hk⟩
theorem w106 (h5 : Has Φ 5 sp5) {ds : List D} {Q : D → Prop} (h : sp106 ds Q) : wpB Φ [] b106 (sl0 N106 ds) 0 { nx := fun _ _ => Q .none, rt := fun d _ => Q d } := by
  obtain ⟨g, rfl, hn, q⟩ := h
  simp only [b106, N106, wpB, wpS, wpE, wpL, wpO, wpOT, wpT, fin, getS, optK, intK.eq_1, boolK.eq_1, truK.eq_1, truK.eq_2, truK.eq_3, truK.eq_4, truK.eq_5, seqK.eq_1, seqK.eq_2, op2, op1, b1K.eq_1, b1K.eq_2, b1K.eq_3, b1K.eq_4, b1K.eq_5, b1K.eq_6, b1K.eq_7, b1K.eq_8, b1K.eq_9, b1K.eq_10, b1K.eq_11, b1K.eq_12, b1K.eq_13, b1K.eq_14, b1K.eq_15, itK, tgFlat, asOk, wpTg.eq_1, wpTg.eq_2, wpTgs.eq_1, wpTgs.eq_2, wipeS, List.set, sl0, List.map, List.replicate, List.length_cons, List.length_nil, Nat.sub_self, Nat.reduceSub, Nat.reduceAdd, List.cons_append, List.nil_append, if_true]
  refine ix0 g ⟨rfl, ?_⟩
  refine rng1 g.n (by omega) ?_
  refine lc2W_map 10000000 nD (fun a => ((ups g.n a).filter fun p => !adj g p.1 p.2).map prD) (List.range g.n) (fun a ha acc K' hB k => ?_) ?_ ?_
  · have ha := List.mem_range.mp ha
    simp only [nD, wpB, wpS, wpE, wpL, wpO, wpOT, wpT, fin, getS, optK, intK.eq_1, boolK.eq_1, truK.eq_1, truK.eq_2, truK.eq_3, truK.eq_4, truK.eq_5, seqK.eq_1, seqK.eq_2, op2, op1, b1K.eq_1, b1K.eq_2, b1K.eq_3, b1K.eq_4, b1K.eq_5, b1K.eq_6, b1K.eq_7, b1K.eq_8, b1K.eq_9, b1K.eq_10, b1K.eq_11, b1K.eq_12, b1K.eq_13, b1K.eq_14, b1K.eq_15, itK, tgFlat, asOk, wpTg.eq_1, wpTg.eq_2, wpTgs.eq_1, wpTgs.eq_2, wipeS, List.set, sl0, List.map, List.replicate, List.length_cons, List.length_nil, Nat.sub_self, Nat.reduceSub, Nat.reduceAdd, List.cons_append, List.nil_append, if_true]
    refine rng2 a g.n (by omega) (by omega) ?_
    have e : ((List.range (g.n - (a + 1))).map fun k => a + 1 + k).flatMap (fun b => if (!adj g a b) = true then [prD (a, b)] else []) = ((ups g.n a).filter fun p => !adj g p.1 p.2).map prD := by
      unfold ups
      rw [← fmap_filter (fun p => !adj g p.1 p.2), List.flatMap_map]
    refine lc2W_map 10000000 nD (fun b => if (!adj g a b) = true then [prD (a, b)] else []) _ (fun b hb acc K' hB k => ?_) (by rw [e]; exact hB) (by rw [e]; exact k)
    simp only [nD, wpB, wpS, wpE, wpL, wpO, wpOT, wpT, fin, getS, optK, intK.eq_1, boolK.eq_1, truK.eq_1, truK.eq_2, truK.eq_3, truK.eq_4, truK.eq_5, seqK.eq_1, seqK.eq_2, op2, op1, b1K.eq_1, b1K.eq_2, b1K.eq_3, b1K.eq_4, b1K.eq_5, b1K.eq_6, b1K.eq_7, b1K.eq_8, b1K.eq_9, b1K.eq_10, b1K.eq_11, b1K.eq_12, b1K.eq_13, b1K.eq_14, b1K.eq_15, itK, tgFlat, asOk, wpTg.eq_1, wpTg.eq_2, wpTgs.eq_1, wpTgs.eq_2, wipeS, List.set, sl0, List.map, List.replicate, List.length_cons, List.length_nil, Nat.sub_self, Nat.reduceSub, Nat.reduceAdd, List.cons_append, List.nil_append, if_true]
    refine h5 _ _ ⟨g, a, b, rfl, ?_⟩
    cases hx : adj g a b with
    | true => rw [hx] at k; simp at k; exact k
    | false =>
      rw [hx] at k hB
      have : big = 16000000 := rfl
      simp at hB
      exact ⟨by omega, k⟩
  · have := flen (l := List.range g.n) (f := fun a => ((ups g.n a).filter fun p => !adj g p.1 p.2).map prD) (c := 1000) fun a _ => by
      rw [List.length_map]
      exact Nat.le_trans (List.length_filter_le _ _) (Nat.le_trans (ups_len g.n a) hn)
    rw [List.length_range] at this
    have : g.n * 1000 ≤ 1000000 := by omega
    simp only [List.length_nil, Nat.zero_add]
    omega
  · rw [List.nil_append, flat_map_prD]
    refine ⟨?_, q⟩
    exact congrArg (fun b => (b || _) || _) (flats_map _ flat_prD (oth g).es)
theorem w105 (h19 : Has Φ 19 sp19) (h106 : Has Φ 106 sp106) {ds : List D} {Q : D → Prop} (h : sp105 ds Q) : wpB Φ [1] b105 (sl0 N105 ds) 0 { nx := fun _ _ => Q .none, rt := fun d _ => Q d } := by
  obtain ⟨g, rfl, ⟨h1, hn⟩, q⟩ := h
  simp only [b105, N105, wpB, wpS, wpE, wpL, wpO, wpOT, wpT, fin, getS, optK, intK.eq_1, boolK.eq_1, truK.eq_1, truK.eq_2, truK.eq_3, truK.eq_4, truK.eq_5, seqK.eq_1, seqK.eq_2, op2, op1, b1K.eq_1, b1K.eq_2, b1K.eq_3, b1K.eq_4, b1K.eq_5, b1K.eq_6, b1K.eq_7, b1K.eq_8, b1K.eq_9, b1K.eq_10, b1K.eq_11, b1K.eq_12, b1K.eq_13, b1K.eq_14, b1K.eq_15, itK, tgFlat, asOk, wpTg.eq_1, wpTg.eq_2, wpTgs.eq_1, wpTgs.eq_2, wipeS, List.set, sl0, List.map, List.replicate, List.length_cons, List.length_nil, Nat.sub_self, Nat.reduceSub, Nat.reduceAdd, List.cons_append, List.nil_append, if_true]
  refine ⟨rfl, g.n + 1, ?_⟩
  refine chi_loop (oth g) (fun k => [some (grD g), some (nD k)]) (fun k R k1 k2 r => ?_) (fun k K hk => ?_) (g.n + 1) 1 (by omega) h1 (by show g.n < _; omega) (fun j j1 j2 => by omega) fun k hk => ?_
  · simp only [wpB, wpS, wpE, wpL, wpO, wpOT, wpT, fin, getS, optK, intK.eq_1, boolK.eq_1, truK.eq_1, truK.eq_2, truK.eq_3, truK.eq_4, truK.eq_5, seqK.eq_1, seqK.eq_2, op2, op1, b1K.eq_1, b1K.eq_2, b1K.eq_3, b1K.eq_4, b1K.eq_5, b1K.eq_6, b1K.eq_7, b1K.eq_8, b1K.eq_9, b1K.eq_10, b1K.eq_11, b1K.eq_12, b1K.eq_13, b1K.eq_14, b1K.eq_15, itK, tgFlat, asOk, wpTg.eq_1, wpTg.eq_2, wpTgs.eq_1, wpTgs.eq_2, wipeS, List.set, sl0, List.map, List.replicate, List.length_cons, List.length_nil, Nat.sub_self, Nat.reduceSub, Nat.reduceAdd, List.cons_append, List.nil_append, if_true]
    have k2 : k ≤ g.n := k2
    refine ix0 g (h106 _ _ ⟨g, rfl, by omega, ?_⟩)
    refine h19 _ _ ⟨oth g, k, rfl, ⟨hn, by omega⟩, ?_⟩
    cases e : cols (oth g) k [] with
    | none => rw [e] at r; exact r
    | some d => rw [e] at r; exact r
  · simp only [nD, wpB, wpS, wpE, wpL, wpO, wpOT, wpT, fin, getS, optK, intK.eq_1, boolK.eq_1, truK.eq_1, truK.eq_2, truK.eq_3, truK.eq_4, truK.eq_5, seqK.eq_1, seqK.eq_2, op2, op1, b1K.eq_1, b1K.eq_2, b1K.eq_3, b1K.eq_4, b1K.eq_5, b1K.eq_6, b1K.eq_7, b1K.eq_8, b1K.eq_9, b1K.eq_10, b1K.eq_11, b1K.eq_12, b1K.eq_13, b1K.eq_14, b1K.eq_15, itK, tgFlat, asOk, wpTg.eq_1, wpTg.eq_2, wpTgs.eq_1, wpTgs.eq_2, wipeS, List.set, sl0, List.map, List.replicate, List.length_cons, List.length_nil, Nat.sub_self, Nat.reduceSub, Nat.reduceAdd, List.cons_append, List.nil_append, if_true]
    exact hk
  · simp only [nD, wpB, wpS, wpE, wpL, wpO, wpOT, wpT, fin, getS, optK, intK.eq_1, boolK.eq_1, truK.eq_1, truK.eq_2, truK.eq_3, truK.eq_4, truK.eq_5, seqK.eq_1, seqK.eq_2, op2, op1, b1K.eq_1, b1K.eq_2, b1K.eq_3, b1K.eq_4, b1K.eq_5, b1K.eq_6, b1K.eq_7, b1K.eq_8, b1K.eq_9, b1K.eq_10, b1K.eq_11, b1K.eq_12, b1K.eq_13, b1K.eq_14, b1K.eq_15, itK, tgFlat, asOk, wpTg.eq_1, wpTg.eq_2, wpTgs.eq_1, wpTgs.eq_2, wipeS, List.set, sl0, List.map, List.replicate, List.length_cons, List.length_nil, Nat.sub_self, Nat.reduceSub, Nat.reduceAdd, List.cons_append, List.nil_append, if_true]
    exact ⟨rfl, q k hk⟩
end
end W3
namespace W3
open PySem
open PySem.W (alike alikeAll dataLt AllAlike Sortable dataLe AlikeAll minD maxD)
/-- k colours are enough on the vertices L -/
def ColbS (g : Gr) (L : List Nat) (k : Nat) : Prop := ∃ f : Nat → Nat, (∀ v ∈ L, f v < k) ∧ ∀ u ∈ L, ∀ v ∈ L, adj g u v = true → f u ≠ f v
def dS (g : Gr) (L : List Nat) (a : Nat) : List Nat := (nbs g a).filter fun b => decide (b ∈ L)
theorem free_col {k : Nat} {l : List Nat} (h : l.length < k) : ∃ c, c < k ∧ c ∉ l := by
  apply Classical.byContradiction
  intro hno
  have := nodup_len (rng_nodup k) (m := l) fun c hc => by
    apply Classical.byContradiction
    intro hcl
    exact hno ⟨c, List.mem_range.mp hc, hcl⟩
  rw [List.length_range] at this
  omega
theorem colbS_step {g : Gr} {L : List Nat} {a k : Nat} (hn : L.Nodup) (hs : ∀ v ∈ L, v < g.n) (ha : a ∈ L) (hk : (dS g L a).length ≤ k) (h : ColbS g (L.erase a) (k + 1)) : ColbS g L (k + 1) := by
  obtain ⟨f, h1, h2⟩ := h
  obtain ⟨c, hc, hcl⟩ := free_col (k := k + 1) (l := (dS g L a).map f) (by rw [List.length_map]; omega)
  have er : ∀ v ∈ L, v ≠ a → v ∈ L.erase a := fun v hv hva => (List.mem_erase_of_ne hva).mpr hv
  have nb : ∀ v ∈ L, adj g a v = true → f v ≠ c := fun v hv hadj e => hcl (List.mem_map.mpr ⟨v, List.mem_filter.mpr ⟨List.mem_filter.mpr ⟨List.mem_range.mpr (hs v hv), hadj⟩, decide_eq_true hv⟩, e⟩)
  refine ⟨fun v => if v = a then c else f v, fun v hv => ?_, fun u hu v hv hadj => ?_⟩
  · by_cases e : v = a
    · simp only [e, if_pos]; exact hc
    · simp only [if_neg e]; exact h1 v (er v hv e)
  · by_cases e1 : u = a <;> by_cases e2 : v = a
    · rw [e1, e2, adj_self] at hadj; cases hadj
    · simp only [if_pos e1, if_neg e2]
      exact Ne.symm (nb v hv (by rw [← e1]; exact hadj))
    · simp only [if_neg e1, if_pos e2]
      exact nb u hu (by rw [← e2, adj_symm]; exact hadj)
    · simp only [if_neg e1, if_neg e2]
      exact h2 u (er u hu e1) v (er v hv e2) hadj
/-- what holds between the turns -/
structure Dg (g : Gr) (L : List Nat) (b : Nat) : Prop where
  nd : L.Nodup
  lt : ∀ v ∈ L, v < g.n
  ex : ∀ k, b ≤ k → ColbS g L (k + 1) → Colb g (k + 1)
theorem Dg.start (g : Gr) : Dg g (List.range g.n) 0 := ⟨rng_nodup _, fun v hv => List.mem_range.mp hv, fun k _ ⟨f, h1, h2⟩ => ⟨f, fun v hv => h1 v (List.mem_range.mpr hv), fun u v hu hv => h2 u (List.mem_range.mpr hu) v (List.mem_range.mpr hv)⟩⟩
theorem Dg.step {g : Gr} {L : List Nat} {b a : Nat} (D : Dg g L b) (ha : a ∈ L) : Dg g (L.erase a) (max b (dS g L a).length) :=
  ⟨D.nd.erase a, fun v hv => D.lt v (List.mem_of_mem_erase hv), fun k hk h => D.ex k (by omega) (colbS_step D.nd D.lt ha (by omega) h)⟩
theorem Dg.done {g : Gr} {b : Nat} (D : Dg g [] b) : Colb g (b + 1) := D.ex b (Nat.le_refl _) ⟨fun _ => 0, (fun _ h => nomatch h), fun _ h => nomatch h⟩
def sp85 : List D → (D → Prop) → Prop := fun ds Q => ∃ g : Gr, ds = [grD g] ∧ g.n ≤ 1000 ∧ ∀ k, Colb g (k + 1) → Q (nD k)
theorem map_erase (a : Nat) : ∀ l : List Nat, ((l.map fun k : Nat => (k : Int)).erase (a : Int)).map PyData.int = (l.erase a).map nD
  | [] => rfl
  | x :: l => by
    rw [List.map_cons, List.erase_cons, List.erase_cons]
    by_cases h : x = a
    · subst h
      simp [nD]
    · have h2 : ¬ (x : Int) = a := fun e => h (by omega)
      simp only [beq_iff_eq, h, h2, if_false, List.map_cons, map_erase a l]
      rfl
theorem alike_prs (l : List (Nat × Nat)) : AlikeAll (l.map prD) ∧ ∀ d ∈ l.map prD, shp d := by
  refine ⟨⟨fun x hx y hy => ?_, fun x hx => ?_⟩, fun d hd => ?_⟩
  · obtain ⟨a, _, rfl⟩ := List.mem_map.mp hx
    obtain ⟨b, _, rfl⟩ := List.mem_map.mp hy
    rfl
  · obtain ⟨a, _, rfl⟩ := List.mem_map.mp hx
    exact fun h => by cases h
  · obtain ⟨a, _, rfl⟩ := List.mem_map.mp hd
    exact shp_prD a
section
variable {Φ : Fam}
theorem deg_loop (g : Gr) {K : Ke} (c : Sl → Nat → (Bool → Nat → Prop) → Prop) (bd : Sl → Nat → Ke → Prop)
    (hc : ∀ (L : List Nat) (b : Nat) o3 o4 o5 o6 (k : Bool → Nat → Prop), k (decide (0 < L.length)) 0 → c [some (grD g), some (.list (L.map nD)), some (nD b), o3, o4, o5, o6] 0 k)
    (hb : ∀ (x : Nat) (L : List Nat) (b : Nat) o3 o4 o5 o6 (K : Ke), Dg g (x :: L) b → (∀ a ∈ x :: L, ∀ o3 o4 o5 o6, K.nx [some (grD g), some (.list (((x :: L).erase a).map nD)), some (nD (max b (dS g (x :: L) a).length)), o3, o4, o5, o6] 0) → bd [some (grD g), some (.list ((x :: L).map nD)), some (nD b), o3, o4, o5, o6] 0 K) :
    ∀ (k : Nat) (L : List Nat) (b : Nat) o3 o4 o5 o6, Dg g L b → L.length < k → (∀ b o3 o4 o5 o6, Dg g [] b → K.nx [some (grD g), some (.list []), some (nD b), o3, o4, o5, o6] 0) →
      whlW c bd K k [some (grD g), some (.list (L.map nD)), some (nD b), o3, o4, o5, o6] 0
  | 0, L, b, o3, o4, o5, o6, D, hk, q => by omega
  | k + 1, [], b, o3, o4, o5, o6, D, hk, q => hc [] b o3 o4 o5 o6 _ (ifF rfl (q b o3 o4 o5 o6 D))
  | k + 1, x :: L, b, o3, o4, o5, o6, D, hk, q => by
    refine hc (x :: L) b o3 o4 o5 o6 _ (ifT (by simp) ?_)
    refine hb x L b o3 o4 o5 o6 _ D fun a ha o3 o4 o5 o6 => ?_
    refine deg_loop g c bd hc hb k _ _ o3 o4 o5 o6 (D.step ha) ?_ q
    rw [List.length_erase_of_mem ha]
    have : (x :: L).length = L.length + 1 := rfl
    omega
theorem w85 (h6 : Has Φ 6 sp6) {ds : List D} {Q : D → Prop} (h : sp85 ds Q) : wpB Φ [1, 2] b85 (sl0 N85 ds) 0 { nx := fun _ _ => Q .none, rt := fun d _ => Q d } := by
  obtain ⟨g, rfl, hn, q⟩ := h
  simp only [b85, N85, wpB, wpS, wpE, wpL, wpO, wpOT, wpT, fin, getS, optK, intK.eq_1, boolK.eq_1, truK.eq_1, truK.eq_2, truK.eq_3, truK.eq_4, truK.eq_5, seqK.eq_1, seqK.eq_2, op2, op1, b1K.eq_1, b1K.eq_2, b1K.eq_3, b1K.eq_4, b1K.eq_5, b1K.eq_6, b1K.eq_7, b1K.eq_8, b1K.eq_9, b1K.eq_10, b1K.eq_11, b1K.eq_12, b1K.eq_13, b1K.eq_14, b1K.eq_15, itK, tgFlat, asOk, wpTg.eq_1, wpTg.eq_2, wpTgs.eq_1, wpTgs.eq_2, wipeS, List.set, sl0, List.map, List.replicate, List.length_cons, List.length_nil, Nat.sub_self, Nat.reduceSub, Nat.reduceAdd, List.cons_append, List.nil_append, if_true]
  refine ix0 g (rng1 _ (by omega) ?_)
  refine ⟨rfl, rfl, g.n + 1, ?_⟩
  refine deg_loop g _ _ (fun L b o3 o4 o5 o6 k hk => ?_) (fun x L b o3 o4 o5 o6 K D hk => ?_) (g.n + 1) (List.range g.n) 0 none none none none (Dg.start g) (by rw [List.length_range]; omega) fun b o3 o4 o5 o6 D => ?_
  · simp only [wpB, wpS, wpE, wpL, wpO, wpOT, wpT, fin, getS, optK, intK.eq_1, boolK.eq_1, truK.eq_1, truK.eq_2, truK.eq_3, truK.eq_4, truK.eq_5, seqK.eq_1, seqK.eq_2, op2, op1, b1K.eq_1, b1K.eq_2, b1K.eq_3, b1K.eq_4, b1K.eq_5, b1K.eq_6, b1K.eq_7, b1K.eq_8, b1K.eq_9, b1K.eq_10, b1K.eq_11, b1K.eq_12, b1K.eq_13, b1K.eq_14, b1K.eq_15, itK, tgFlat, asOk, wpTg.eq_1, wpTg.eq_2, wpTgs.eq_1, wpTgs.eq_2, wipeS, List.set, sl0, List.map, List.replicate, List.length_cons, List.length_nil, Nat.sub_self, Nat.reduceSub, Nat.reduceAdd, List.cons_append, List.nil_append, if_true]
    rw [List.length_map]
    have : decide ((0 : Int) < (L.length : Int)) = decide (0 < L.length) := by
      by_cases z : 0 < L.length
      · simp [z]
      · simp [z]
    rw [this]
    exact hk
  · have hlen : (x :: L).length ≤ 1000 := by
      have := nodup_len D.nd (m := List.range g.n) fun v hv => List.mem_range.mpr (D.lt v hv)
      rw [List.length_range] at this
      omega
    simp only [wpB, wpS, wpE, wpL, wpO, wpOT, wpT, fin, getS, optK, intK.eq_1, boolK.eq_1, truK.eq_1, truK.eq_2, truK.eq_3, truK.eq_4, truK.eq_5, seqK.eq_1, seqK.eq_2, op2, op1, b1K.eq_1, b1K.eq_2, b1K.eq_3, b1K.eq_4, b1K.eq_5, b1K.eq_6, b1K.eq_7, b1K.eq_8, b1K.eq_9, b1K.eq_10, b1K.eq_11, b1K.eq_12, b1K.eq_13, b1K.eq_14, b1K.eq_15, itK, tgFlat, asOk, wpTg.eq_1, wpTg.eq_2, wpTgs.eq_1, wpTgs.eq_2, wipeS, List.set, sl0, List.map, List.replicate, List.length_cons, List.length_nil, Nat.sub_self, Nat.reduceSub, Nat.reduceAdd, List.cons_append, List.nil_append, if_true]
    refine lcW_map nD (fun a => some (prD ((dS g (x :: L) a).length, a))) (x :: L) (fun a ha K' k => ?_) ?_
    · refine h6 _ _ ⟨g, a, rfl, hn, ?_⟩
      refine lcW_map nD (fun b => if decide (b ∈ x :: L) = true then some (nD b) else none) _ (fun b hb K2 k2 => ?_) ?_
      · refine ⟨shp_nD b, ?_⟩
        have e : inD (nD b) (nD x :: L.map nD) = decide (b ∈ x :: L) := in_nDs b (x :: L)
        rw [e]
        by_cases hm : b ∈ x :: L
        · rw [decide_eq_true hm] at k2 ⊢; exact k2
        · rw [decide_eq_false hm] at k2 ⊢; exact k2
      · rw [fmf, List.nil_append, List.length_map]
        exact k
    rw [fms, List.nil_append]
    have e : (x :: L).map (fun a => prD ((dS g (x :: L) a).length, a)) = ((x :: L).map fun a => ((dS g (x :: L) a).length, a)).map prD := by rw [List.map_map]; rfl
    rw [e]
    refine ⟨?_, ?_⟩
    · exact congrArg (fun b => false || b) (frs_lc prD flat_prD _)
    have key : ∃ a ∈ x :: L, minD (prD ((dS g (x :: L) x).length, x)) ((L.map fun a => ((dS g (x :: L) a).length, a)).map prD) = prD ((dS g (x :: L) a).length, a) := by
      have hm := minD_mem (prD ((dS g (x :: L) x).length, x)) ((L.map fun a => ((dS g (x :: L) a).length, a)).map prD)
      obtain ⟨p, hp, he⟩ := List.mem_map.mp (show minD _ _ ∈ ((x :: L).map fun a => ((dS g (x :: L) a).length, a)).map prD from hm)
      obtain ⟨a, ha, rfl⟩ := List.mem_map.mp hp
      exact ⟨a, ha, he.symm⟩
    obtain ⟨a, ha, hmin⟩ := key
    rw [List.map_cons, List.map_cons]
    refine ⟨alike_prs (((dS g (x :: L) x).length, x) :: _), ?_⟩
    rw [hmin]
    simp only [lstK, prD, nD, wpB, wpS, wpE, wpL, wpO, wpOT, wpT, fin, getS, optK, intK.eq_1, boolK.eq_1, truK.eq_1, truK.eq_2, truK.eq_3, truK.eq_4, truK.eq_5, seqK.eq_1, seqK.eq_2, op2, op1, b1K.eq_1, b1K.eq_2, b1K.eq_3, b1K.eq_4, b1K.eq_5, b1K.eq_6, b1K.eq_7, b1K.eq_8, b1K.eq_9, b1K.eq_10, b1K.eq_11, b1K.eq_12, b1K.eq_13, b1K.eq_14, b1K.eq_15, itK, tgFlat, asOk, wpTg.eq_1, wpTg.eq_2, wpTgs.eq_1, wpTgs.eq_2, wipeS, List.set, sl0, List.map, List.replicate, List.length_cons, List.length_nil, Nat.sub_self, Nat.reduceSub, Nat.reduceAdd, List.cons_append, List.nil_append, if_true]
    refine ⟨rfl, rfl, rfl, ?_⟩
    refine intsK_nat (x :: L) ⟨List.mem_map.mpr ⟨a, ha, rfl⟩, ?_⟩
    rw [map_erase]
    have e3 : PyData.int (if (((dS g (x :: L) a).length : Nat) : Int) > (b : Int) then (((dS g (x :: L) a).length : Nat) : Int) else (b : Int)) = nD (max b (dS g (x :: L) a).length) := by
      unfold nD
      congr 1
      split <;> omega
    rw [e3]
    exact hk a ha _ _ _ _
  · simp only [wpB, wpS, wpE, wpL, wpO, wpOT, wpT, fin, getS, optK, intK.eq_1, boolK.eq_1, truK.eq_1, truK.eq_2, truK.eq_3, truK.eq_4, truK.eq_5, seqK.eq_1, seqK.eq_2, op2, op1, b1K.eq_1, b1K.eq_2, b1K.eq_3, b1K.eq_4, b1K.eq_5, b1K.eq_6, b1K.eq_7, b1K.eq_8, b1K.eq_9, b1K.eq_10, b1K.eq_11, b1K.eq_12, b1K.eq_13, b1K.eq_14, b1K.eq_15, itK, tgFlat, asOk, wpTg.eq_1, wpTg.eq_2, wpTgs.eq_1, wpTgs.eq_2, wipeS, List.set, sl0, List.map, List.replicate, List.length_cons, List.length_nil, Nat.sub_self, Nat.reduceSub, Nat.reduceAdd, List.cons_append, List.nil_append, if_true]
    exact ⟨rfl, q b D.done⟩
end
/-- how far the turns have come: r whole turns, i arrows of the next -/
structure Lg (n : Nat) (es : List (Nat × Nat)) (c : Nat → Nat) (r i : Nat) (F : List Nat) : Prop where
  len : F.length = n
  ub : ∀ v, v < n → F.getD v 0 ≤ c v
  lo : ∀ p ∈ es, c p.2 ≤ r → F.getD p.1 0 + 1 ≤ F.getD p.2 0
  part : ∀ p ∈ es.take i, c p.2 ≤ r + 1 → F.getD p.1 0 + 1 ≤ F.getD p.2 0
theorem getD_set {F : List Nat} {i j x : Nat} (h : i < F.length) : (F.set i x).getD j 0 = if j = i then x else F.getD j 0 := by
  rw [List.getD_eq_getElem?_getD, List.getD_eq_getElem?_getD]
  by_cases e : j = i
  · rw [if_pos e, e, List.getElem?_set_self h]; rfl
  · rw [if_neg e, List.getElem?_set_ne (Ne.symm e)]
theorem Lg.step {n : Nat} {es : List (Nat × Nat)} {c : Nat → Nat} (he : ∀ p ∈ es, p.1 < n ∧ p.2 < n ∧ c p.1 < c p.2) {r i : Nat} {F : List Nat} {p : Nat × Nat} (L : Lg n es c r i F) (hp : es[i]? = some p) :
    Lg n es c r (i + 1) (F.set p.2 (max (F.getD p.2 0) (F.getD p.1 0 + 1))) := by
  have hm := List.mem_of_getElem? hp
  obtain ⟨h1, h2, h3⟩ := he p hm
  have hl : p.2 < F.length := by rw [L.len]; exact h2
  have at_ : ∀ j, (F.set p.2 (max (F.getD p.2 0) (F.getD p.1 0 + 1))).getD j 0 = if j = p.2 then max (F.getD p.2 0) (F.getD p.1 0 + 1) else F.getD j 0 := fun j => getD_set hl
  have same : c p.2 ≤ r → max (F.getD p.2 0) (F.getD p.1 0 + 1) = F.getD p.2 0 := fun h => by have := L.lo p hm h; omega
  have htk : es.take (i + 1) = es.take i ++ [p] := by rw [List.take_succ, hp]; rfl
  have up : ∀ q ∈ es, c q.2 ≤ r + 1 → F.getD q.1 0 + 1 ≤ F.getD q.2 0 → (F.set p.2 (max (F.getD p.2 0) (F.getD p.1 0 + 1))).getD q.1 0 + 1 ≤ (F.set p.2 (max (F.getD p.2 0) (F.getD p.1 0 + 1))).getD q.2 0 := fun q hq hc hle => by
    obtain ⟨q1, q2, q3⟩ := he q hq
    rw [at_, at_]
    by_cases e1 : q.1 = p.2
    · have : c p.2 ≤ r := by rw [← e1]; omega
      rw [if_pos e1, same this, ← e1]
      by_cases e2 : q.2 = p.2
      · rw [← e1] at e2
        rw [e2] at q3
        omega
      · rw [if_neg (by rw [e1]; exact e2)]; exact hle
    · rw [if_neg e1]
      by_cases e2 : q.2 = p.2
      · rw [if_pos e2, ← e2]; omega
      · rw [if_neg e2]; exact hle
  refine ⟨by rw [List.length_set]; exact L.len, fun v hv => ?_, fun q hq hc => up q hq (by omega) (L.lo q hq hc), fun q hq hc => ?_⟩
  · rw [at_]
    split
    · rename_i e
      have a1 := L.ub p.2 h2
      have a2 := L.ub p.1 h1
      rw [e]
      omega
    · exact L.ub v hv
  · rw [htk] at hq
    rcases List.mem_append.mp hq with hq | hq
    · exact up q (List.mem_of_mem_take hq) hc (L.part q hq hc)
    · rw [List.mem_singleton.mp hq, at_, at_, if_pos rfl, if_neg (fun e => by rw [e] at h3; omega)]
      omega
theorem Lg.next {n : Nat} {es : List (Nat × Nat)} {c : Nat → Nat} {r : Nat} {F : List Nat} (L : Lg n es c r es.length F) : Lg n es c (r + 1) 0 F :=
  ⟨L.len, L.ub, fun p hp hc => L.part p (by rw [List.take_length]; exact hp) hc, fun p hp => by simp at hp⟩
def sp216 : List D → (D → Prop) → Prop := fun ds Q => ∃ (n : Nat) (es : List (Nat × Nat)) (c : Nat → Nat), ds = [nD n, .tuple (es.map prD)] ∧ (0 < n ∧ n ≤ 1000) ∧ (∀ p ∈ es, p.1 < n ∧ p.2 < n ∧ c p.1 < c p.2) ∧ (∀ v, v < n → c v < n) ∧
  ∀ (m : Nat) (f : Nat → Nat), (∀ v, v < n → f v ≤ c v) → (∀ p ∈ es, f p.1 + 1 ≤ f p.2) → (∀ v, v < n → f v ≤ m) → (∃ v, v < n ∧ f v = m) → Q (nD m)
section
variable {Φ : Fam}
theorem ix_at {F : List Nat} {i : Nat} (h : i < F.length) {Q : D → Prop} (q : Q (nD (F.getD i 0))) : ixK (.list (F.map nD)) (.int (i : Int)) Q := ix_nD F i h q (.inr rfl)
theorem w216 {ds : List D} {Q : D → Prop} (h : sp216 ds Q) : wpB Φ [2] b216 (sl0 N216 ds) 0 { nx := fun _ _ => Q .none, rt := fun d _ => Q d } := by
  obtain ⟨n, es, c, rfl, ⟨h0, hn⟩, he, hc, q⟩ := h
  have e0 : (List.replicate (n : Int).toNat [PyData.int 0]).flatten = (List.replicate n 0).map nD := by
    rw [Int.toNat_natCast]
    generalize n = n
    induction n with
    | zero => rfl
    | succ n ih => rw [List.replicate_succ, List.flatten_cons, ih]; rfl
  have z0 : ∀ v, (List.replicate n 0).getD v 0 = 0 := fun v => by
    rw [List.getD_eq_getElem?_getD, List.getElem?_replicate]
    split <;> rfl
  simp only [b216, N216, nD, wpB, wpS, wpE, wpL, wpO, wpOT, wpT, fin, getS, optK, intK.eq_1, boolK.eq_1, truK.eq_1, truK.eq_2, truK.eq_3, truK.eq_4, truK.eq_5, seqK.eq_1, seqK.eq_2, op2, op1, b1K.eq_1, b1K.eq_2, b1K.eq_3, b1K.eq_4, b1K.eq_5, b1K.eq_6, b1K.eq_7, b1K.eq_8, b1K.eq_9, b1K.eq_10, b1K.eq_11, b1K.eq_12, b1K.eq_13, b1K.eq_14, b1K.eq_15, itK, tgFlat, asOk, wpTg.eq_1, wpTg.eq_2, wpTgs.eq_1, wpTgs.eq_2, wipeS, List.set, sl0, List.map, List.replicate, List.length_cons, List.length_nil, Nat.sub_self, Nat.reduceSub, Nat.reduceAdd, List.cons_append, List.nil_append, if_true]
  refine ⟨⟨by omega, by omega, trivial⟩, ?_⟩
  rw [e0]
  refine ⟨congrArg (fun b => false || b) (flats_map _ flat_nD _), rfl, ?_⟩
  refine rng1 n (by omega) ?_
  refine forW_map nD (fun r Γ g' => ∃ (F : List Nat) (o3 o4 o5 : Option D), (Γ = [some (nD n), some (.tuple (es.map prD)), some (.list (F.map nD)), o3, o4, o5] ∧ g' = 0) ∧ Lg n es c r 0 F) (List.range n) 0 ⟨_, none, none, none, ⟨rfl, rfl⟩, ⟨by rw [List.length_replicate], fun v hv => by rw [z0]; omega, fun p hp hz => by have := (he p hp).2.2; omega, fun p hp => by simp at hp⟩⟩ ?_ ?_
  · rintro r x Γ g' nx hx ⟨F, o3, o4, o5, ⟨rfl, rfl⟩, L⟩ hk
    rw [Nat.zero_add] at L hk
    simp only [wpB, wpS, wpE, wpL, wpO, wpOT, wpT, fin, getS, optK, intK.eq_1, boolK.eq_1, truK.eq_1, truK.eq_2, truK.eq_3, truK.eq_4, truK.eq_5, seqK.eq_1, seqK.eq_2, op2, op1, b1K.eq_1, b1K.eq_2, b1K.eq_3, b1K.eq_4, b1K.eq_5, b1K.eq_6, b1K.eq_7, b1K.eq_8, b1K.eq_9, b1K.eq_10, b1K.eq_11, b1K.eq_12, b1K.eq_13, b1K.eq_14, b1K.eq_15, itK, tgFlat, asOk, wpTg.eq_1, wpTg.eq_2, wpTgs.eq_1, wpTgs.eq_2, wipeS, List.set, sl0, List.map, List.replicate, List.length_cons, List.length_nil, Nat.sub_self, Nat.reduceSub, Nat.reduceAdd, List.cons_append, List.nil_append, if_true]
    refine ⟨flats_map _ flat_prD es, ?_⟩
    refine forW_map prD (fun i Γ g' => ∃ (F : List Nat) (o4 o5 : Option D), (Γ = [some (nD n), some (.tuple (es.map prD)), some (.list (F.map nD)), some (nD x), o4, o5] ∧ g' = 0) ∧ Lg n es c r i F) es 0 ⟨F, o4, o5, ⟨rfl, rfl⟩, L⟩ ?_ ?_
    · rintro i p Γ g' nx2 hp ⟨F, o4, o5, ⟨rfl, rfl⟩, L⟩ hk2
      rw [Nat.zero_add] at L hk2
      obtain ⟨h1, h2, h3⟩ := he p (List.mem_of_getElem? hp)
      have l1 : p.1 < F.length := by rw [L.len]; exact h1
      have l2 : p.2 < F.length := by rw [L.len]; exact h2
      simp only [lstK, prD, nD, wpB, wpS, wpE, wpL, wpO, wpOT, wpT, fin, getS, optK, intK.eq_1, boolK.eq_1, truK.eq_1, truK.eq_2, truK.eq_3, truK.eq_4, truK.eq_5, seqK.eq_1, seqK.eq_2, op2, op1, b1K.eq_1, b1K.eq_2, b1K.eq_3, b1K.eq_4, b1K.eq_5, b1K.eq_6, b1K.eq_7, b1K.eq_8, b1K.eq_9, b1K.eq_10, b1K.eq_11, b1K.eq_12, b1K.eq_13, b1K.eq_14, b1K.eq_15, itK, tgFlat, asOk, wpTg.eq_1, wpTg.eq_2, wpTgs.eq_1, wpTgs.eq_2, wipeS, List.set, sl0, List.map, List.replicate, List.length_cons, List.length_nil, Nat.sub_self, Nat.reduceSub, Nat.reduceAdd, List.cons_append, List.nil_append, if_true]
      refine ⟨rfl, flats_map _ flat_nD _, ix_at l2 (ix_at l1 ?_)⟩
      refine ⟨⟨rfl, by rw [List.length_map]; omega, by rw [List.length_map]; omega⟩, hk2 _ _ ⟨_, some (nD p.1), some (nD p.2), ⟨?_, rfl⟩, L.step he hp⟩⟩
      rw [atN_nat, List.map_set]
      have e3 : PyData.int (if ((F.getD p.1 0 : Nat) : Int) + 1 > ((F.getD p.2 0 : Nat) : Int) then ((F.getD p.1 0 : Nat) : Int) + 1 else ((F.getD p.2 0 : Nat) : Int)) = nD (max (F.getD p.2 0) (F.getD p.1 0 + 1)) := by
        unfold nD
        congr 1
        split <;> omega
      rw [e3]
      rfl
    · rintro Γ g' ⟨F, o4, o5, ⟨rfl, rfl⟩, L⟩
      rw [Nat.zero_add] at L
      exact hk _ _ ⟨F, _, o4, o5, ⟨rfl, rfl⟩, L.next⟩
  · rintro Γ g' ⟨F, o3, o4, o5, ⟨rfl, rfl⟩, L⟩
    rw [Nat.zero_add, List.length_range] at L
    have lo : ∀ p ∈ es, F.getD p.1 0 + 1 ≤ F.getD p.2 0 := fun p hp => L.lo p hp (Nat.le_of_lt (hc _ (he p hp).2.1))
    simp only [wpB, wpS, wpE, wpL, wpO, wpOT, wpT, fin, getS, optK, intK.eq_1, boolK.eq_1, truK.eq_1, truK.eq_2, truK.eq_3, truK.eq_4, truK.eq_5, seqK.eq_1, seqK.eq_2, op2, op1, b1K.eq_1, b1K.eq_2, b1K.eq_3, b1K.eq_4, b1K.eq_5, b1K.eq_6, b1K.eq_7, b1K.eq_8, b1K.eq_9, b1K.eq_10, b1K.eq_11, b1K.eq_12, b1K.eq_13, b1K.eq_14, b1K.eq_15, itK, tgFlat, asOk, wpTg.eq_1, wpTg.eq_2, wpTgs.eq_1, wpTgs.eq_2, wipeS, List.set, sl0, List.map, List.replicate, List.length_cons, List.length_nil, Nat.sub_self, Nat.reduceSub, Nat.reduceAdd, List.cons_append, List.nil_append, if_true]
    have hne : F.length ≠ 0 := by rw [L.len]; omega
    cases F with
    | nil => exact absurd rfl hne
    | cons x l =>
      obtain ⟨m, h1, h2, h3, h4⟩ := maxD_nat l x
      have hm : m ∈ x :: l := by
        rcases h2 with z | z
        · rw [z]; exact List.mem_cons_self
        · exact List.mem_cons_of_mem _ z
      obtain ⟨v, hv, e⟩ := List.mem_iff_getElem.mp hm
      have ev : (x :: l).getD v 0 = m := by rw [List.getD_eq_getElem?_getD, List.getElem?_eq_getElem hv, e]; rfl
      have hvn : v < n := by rw [← L.len]; exact hv
      have hmn : m < n := by
        have a1 := L.ub v hvn
        have a2 := hc v hvn
        omega
      have key := q m (fun v => (x :: l).getD v 0) L.ub lo (fun w hw => by
        have := mem_getD (c := x :: l) (i := w) (by rw [L.len]; exact hw)
        rcases List.mem_cons.mp this with z | z
        · rw [z]; exact h3
        · exact h4 _ z) ⟨v, hvn, ev⟩
      refine ⟨alike_nats (x :: l), ?_⟩
      rw [h1]
      simp only [nD, wpB, wpS, wpE, wpL, wpO, wpOT, wpT, fin, getS, optK, intK.eq_1, boolK.eq_1, truK.eq_1, truK.eq_2, truK.eq_3, truK.eq_4, truK.eq_5, seqK.eq_1, seqK.eq_2, op2, op1, b1K.eq_1, b1K.eq_2, b1K.eq_3, b1K.eq_4, b1K.eq_5, b1K.eq_6, b1K.eq_7, b1K.eq_8, b1K.eq_9, b1K.eq_10, b1K.eq_11, b1K.eq_12, b1K.eq_13, b1K.eq_14, b1K.eq_15, itK, tgFlat, asOk, wpTg.eq_1, wpTg.eq_2, wpTgs.eq_1, wpTgs.eq_2, wipeS, List.set, sl0, List.map, List.replicate, List.length_cons, List.length_nil, Nat.sub_self, Nat.reduceSub, Nat.reduceAdd, List.cons_append, List.nil_append, if_true]
      refine ifF (decide_eq_false (by omega)) ⟨alike_nats (x :: l), ?_⟩
      have h1' : maxD (.int (x : Int)) (l.map nD) = .int (m : Int) := h1
      rw [h1']
      exact ⟨rfl, key⟩
def ori (cs : List Nat) (p : Nat × Nat) : Nat × Nat := if cs.getD p.1 0 < cs.getD p.2 0 then p else (p.2, p.1)
def arr (g : Gr) (cs : List Nat) : List (Nat × Nat) := (g.es.map (ori cs)).mergeSort ple
def sp217 : List D → (D → Prop) → Prop := fun ds Q => ∃ (g : Gr) (cs : List Nat), ds = [grD g, ltD cs] ∧ (∀ p ∈ g.es, p.1 < cs.length ∧ p.2 < cs.length) ∧ Q (.tuple ((arr g cs).map prD))
theorem w217 {ds : List D} {Q : D → Prop} (h : sp217 ds Q) : wpB Φ [] b217 (sl0 N217 ds) 0 { nx := fun _ _ => Q .none, rt := fun d _ => Q d } := by
  obtain ⟨g, cs, rfl, he, q⟩ := h
  simp only [b217, N217, ltD, wpB, wpS, wpE, wpL, wpO, wpOT, wpT, fin, getS, optK, intK.eq_1, boolK.eq_1, truK.eq_1, truK.eq_2, truK.eq_3, truK.eq_4, truK.eq_5, seqK.eq_1, seqK.eq_2, op2, op1, b1K.eq_1, b1K.eq_2, b1K.eq_3, b1K.eq_4, b1K.eq_5, b1K.eq_6, b1K.eq_7, b1K.eq_8, b1K.eq_9, b1K.eq_10, b1K.eq_11, b1K.eq_12, b1K.eq_13, b1K.eq_14, b1K.eq_15, itK, tgFlat, asOk, wpTg.eq_1, wpTg.eq_2, wpTgs.eq_1, wpTgs.eq_2, wipeS, List.set, sl0, List.map, List.replicate, List.length_cons, List.length_nil, Nat.sub_self, Nat.reduceSub, Nat.reduceAdd, List.cons_append, List.nil_append, if_true]
  refine ix1 g ?_
  simp only [wpB, wpS, wpE, wpL, wpO, wpOT, wpT, fin, getS, optK, intK.eq_1, boolK.eq_1, truK.eq_1, truK.eq_2, truK.eq_3, truK.eq_4, truK.eq_5, seqK.eq_1, seqK.eq_2, op2, op1, b1K.eq_1, b1K.eq_2, b1K.eq_3, b1K.eq_4, b1K.eq_5, b1K.eq_6, b1K.eq_7, b1K.eq_8, b1K.eq_9, b1K.eq_10, b1K.eq_11, b1K.eq_12, b1K.eq_13, b1K.eq_14, b1K.eq_15, itK, tgFlat, asOk, wpTg.eq_1, wpTg.eq_2, wpTgs.eq_1, wpTgs.eq_2, wipeS, List.set, sl0, List.map, List.replicate, List.length_cons, List.length_nil, Nat.sub_self, Nat.reduceSub, Nat.reduceAdd, List.cons_append, List.nil_append, if_true]
  refine lcW_map prD (fun p => some (prD (ori cs p))) g.es (fun p hp K' k => ?_) ?_
  · obtain ⟨h1, h2⟩ := he p hp
    simp only [prD, nD, wpB, wpS, wpE, wpL, wpO, wpOT, wpT, fin, getS, optK, intK.eq_1, boolK.eq_1, truK.eq_1, truK.eq_2, truK.eq_3, truK.eq_4, truK.eq_5, seqK.eq_1, seqK.eq_2, op2, op1, b1K.eq_1, b1K.eq_2, b1K.eq_3, b1K.eq_4, b1K.eq_5, b1K.eq_6, b1K.eq_7, b1K.eq_8, b1K.eq_9, b1K.eq_10, b1K.eq_11, b1K.eq_12, b1K.eq_13, b1K.eq_14, b1K.eq_15, itK, tgFlat, asOk, wpTg.eq_1, wpTg.eq_2, wpTgs.eq_1, wpTgs.eq_2, wipeS, List.set, sl0, List.map, List.replicate, List.length_cons, List.length_nil, Nat.sub_self, Nat.reduceSub, Nat.reduceAdd, List.cons_append, List.nil_append, if_true]
    refine ix_nD cs p.1 h1 (ix_nD cs p.2 h2 ?_ (.inl rfl)) (.inl rfl)
    simp only [nD, wpB, wpS, wpE, wpL, wpO, wpOT, wpT, fin, getS, optK, intK.eq_1, boolK.eq_1, truK.eq_1, truK.eq_2, truK.eq_3, truK.eq_4, truK.eq_5, seqK.eq_1, seqK.eq_2, op2, op1, b1K.eq_1, b1K.eq_2, b1K.eq_3, b1K.eq_4, b1K.eq_5, b1K.eq_6, b1K.eq_7, b1K.eq_8, b1K.eq_9, b1K.eq_10, b1K.eq_11, b1K.eq_12, b1K.eq_13, b1K.eq_14, b1K.eq_15, itK, tgFlat, asOk, wpTg.eq_1, wpTg.eq_2, wpTgs.eq_1, wpTgs.eq_2, wipeS, List.set, sl0, List.map, List.replicate, List.length_cons, List.length_nil, Nat.sub_self, Nat.reduceSub, Nat.reduceAdd, List.cons_append, List.nil_append, if_true]
    rw [lt_nD]
    unfold ori at k
    by_cases hlt : cs.getD p.1 0 < cs.getD p.2 0
    · rw [if_pos hlt] at k
      exact ifT (decide_eq_true hlt) k
    · rw [if_neg hlt] at k
      exact ifF (decide_eq_false hlt) k
  · rw [fms, List.nil_append]
    have e : g.es.map (fun p => prD (ori cs p)) = (g.es.map (ori cs)).map prD := by rw [List.map_map]; rfl
    rw [e]
    refine ⟨srtOk_map ord_prD _, ?_⟩
    rw [sortD_map ord_prD]
    exact ⟨congrArg (fun b => (b || _) || _) (flats_map _ flat_prD _), q⟩
end
end W3
namespace W3
open PySem
/-- colours on the first m vertices -/
def ColP (g : Gr) (m k : Nat) : Prop := ∃ f : Nat → Nat, (∀ v, v < m → f v < k) ∧ ∀ u v, u < m → v < m → adj g u v = true → f u ≠ f v
theorem colP_new {g : Gr} {m k : Nat} (h : ColP g m k) {c k' : Nat} (hk : k ≤ k') (hc : c < k') (free : ∀ f : Nat → Nat, (∀ v, v < m → f v < k) → True) (hf : ∃ f : Nat → Nat, (∀ v, v < m → f v < k) ∧ (∀ u v, u < m → v < m → adj g u v = true → f u ≠ f v) ∧ ∀ v, v < m → adj g m v = true → f v ≠ c) : ColP g (m + 1) k' := by
  obtain ⟨f, h1, h2, h3⟩ := hf
  refine ⟨fun v => if v = m then c else f v, fun v hv => ?_, fun u v hu hv ha => ?_⟩
  · by_cases e : v = m
    · simp only [if_pos e]; exact hc
    · simp only [if_neg e]
      have := h1 v (by omega)
      omega
  · by_cases e1 : u = m <;> by_cases e2 : v = m
    · rw [e1, e2, adj_self] at ha; cases ha
    · simp only [if_pos e1, if_neg e2]
      exact Ne.symm (h3 v (by omega) (by rw [← e1]; exact ha))
    · simp only [if_neg e1, if_pos e2]
      exact h3 u (by omega) (by rw [← e2, adj_symm]; exact ha)
    · simp only [if_neg e1, if_neg e2]
      exact h2 u v (by omega) (by omega) ha
theorem colP_up {g : Gr} {m k : Nat} (h : ColP g m k) : ColP g (m + 1) (k + 1) := by
  obtain ⟨f, h1, h2⟩ := h
  exact colP_new ⟨f, h1, h2⟩ (c := k) (by omega) (by omega) (fun _ _ => trivial) ⟨f, h1, h2, fun v hv _ => by have := h1 v hv; omega⟩
def dP (g : Gr) (m : Nat) : List Nat := (List.range m).filter (adj g m)
theorem colP_same {g : Gr} {m k : Nat} (h : ColP g m k) (hd : (dP g m).length < k) : ColP g (m + 1) k := by
  obtain ⟨f, h1, h2⟩ := h
  obtain ⟨c, hc, hcl⟩ := free_col (k := k) (l := (dP g m).map f) (by rw [List.length_map]; exact hd)
  exact colP_new ⟨f, h1, h2⟩ (Nat.le_refl _) hc (fun _ _ => trivial) ⟨f, h1, h2, fun v hv ha e => hcl (List.mem_map.mpr ⟨v, List.mem_filter.mpr ⟨List.mem_range.mpr hv, ha⟩, e⟩)⟩
theorem dP_cpl {g : Gr} {m : Nat} (hm : m < g.n) : (dP g m).length + (dP (cpl g) m).length = m := by
  unfold dP
  rw [cnt_su, cnt_su, ← su_add]
  have : Su m (fun i => (if adj g m i = true then 1 else 0) + if adj (cpl g) m i = true then 1 else 0) = Su m fun _ => 1 := su_congr fun i hi => by
    rw [adj_cpl (g := g) hm (show i < g.n by omega)]
    have : m ≠ i := by omega
    cases adj g m i <;> simp [this]
  rw [this, su_const]
  omega
/-- Nordhaus and Gaddum -/
theorem nord {g : Gr} : ∀ m, m ≤ g.n → ∃ a b, a + b ≤ m + 1 ∧ ColP g m a ∧ ColP (cpl g) m b
  | 0, _ => ⟨0, 0, by omega, ⟨id, (fun v h => by omega), fun u v h => by omega⟩, ⟨id, (fun v h => by omega), fun u v h => by omega⟩⟩
  | m + 1, hm => by
    obtain ⟨a, b, h, ha, hb⟩ := nord (g := g) m (by omega)
    have hd := dP_cpl (g := g) (m := m) (by omega)
    by_cases h1 : (dP g m).length < a
    · exact ⟨a, b + 1, by omega, colP_same ha h1, colP_up hb⟩
    · by_cases h2 : (dP (cpl g) m).length < b
      · exact ⟨a + 1, b, by omega, colP_up ha, colP_same hb h2⟩
      · exact ⟨a + 1, b + 1, by omega, colP_up ha, colP_up hb⟩
theorem nord_chi {g : Gr} {a b : Nat} (hn : 1 ≤ g.n) (ha : Chi g a) (hb : Chi (cpl g) b) : a + b ≤ g.n + 1 := by
  obtain ⟨x, y, h, hx, hy⟩ := nord (g := g) g.n (Nat.le_refl _)
  have h1 := ha.le hn hx
  have h2 := hb.le (show 1 ≤ (cpl g).n from hn) hy
  omega
theorem prod_chi {g : Gr} {a b : Nat} (ha : Colb g a) (hb : Colb (cpl g) b) : g.n ≤ a * b := by
  obtain ⟨f, f1, f2⟩ := ha
  obtain ⟨e, e1, e2⟩ := hb
  have hn : ((List.range g.n).map fun v => f v * b + e v).Nodup := by
    refine List.Pairwise.map _ (fun x y h => h) (R := fun x y => f x * b + e x ≠ f y * b + e y) ?_
    refine List.Pairwise.imp_of_mem (fun {x y} hx hy hne he => ?_) (rng_nodup g.n)
    have hx := List.mem_range.mp hx
    have hy := List.mem_range.mp hy
    have ex := e1 x hx
    have ey := e1 y hy
    have q1 : f x = f y := by
      have h1 : (f x * b + e x) / b = f x := by
        rw [Nat.mul_comm, Nat.mul_add_div (by omega), Nat.div_eq_of_lt ex]; omega
      have h2 : (f y * b + e y) / b = f y := by
        rw [Nat.mul_comm, Nat.mul_add_div (by omega), Nat.div_eq_of_lt ey]; omega
      rw [← h1, ← h2, he]
    have q2 : e x = e y := by rw [q1] at he; omega
    cases hadj : adj g x y with
    | true => exact f2 x y hx hy hadj q1
    | false => exact e2 x y hx hy (by rw [adj_cpl hx hy, hadj]; simp [hne]) q2
  have := nodup_len hn (m := List.range (a * b)) fun z hz => by
    obtain ⟨v, hv, rfl⟩ := List.mem_map.mp hz
    have hv := List.mem_range.mp hv
    have h1 := f1 v hv
    have h2 := e1 v hv
    have : (f v + 1) * b ≤ a * b := Nat.mul_le_mul_right b h1
    rw [Nat.succ_mul] at this
    exact List.mem_range.mpr (by omega)
  rw [List.length_map, List.length_range, List.length_range] at this
  exact this
theorem sq_low {a b n : Nat} (h : n ≤ a * b) : 4 * n ≤ (a + b) * (a + b) := by
  have key : 4 * (a * b) ≤ (a + b) * (a + b) := by
    rcases Nat.le_total a b with z | z
    · obtain ⟨k, rfl⟩ := Nat.exists_eq_add_of_le z
      simp only [Nat.mul_add, Nat.add_mul]
      have : k * a = a * k := Nat.mul_comm _ _
      omega
    · obtain ⟨k, rfl⟩ := Nat.exists_eq_add_of_le z
      simp only [Nat.mul_add, Nat.add_mul]
      have : k * b = b * k := Nat.mul_comm _ _
      omega
  omega
theorem sq_high {a b n : Nat} (h : a + b ≤ n + 1) : 4 * a * b ≤ (n + 1) * (n + 1) := by
  have := sq_low (Nat.le_refl (a * b))
  rw [Nat.mul_assoc]
  exact Nat.le_trans this (Nat.mul_le_mul h h)
theorem clique_chi {g : Gr} {a : Nat} (ha : Colb g a) {l : List Nat} (h : l ∈ lots g cliq) : l.length ≤ a := by
  obtain ⟨f, f1, f2⟩ := ha
  obtain ⟨hs, hc⟩ := lots_sub.mp h
  unfold cliq at hc
  have hc := List.all_eq_true.mp hc
  have hn : (l.map f).Nodup := by
    refine List.Pairwise.map _ (fun x y h => h) (R := fun x y => f x ≠ f y) ?_
    refine List.Pairwise.imp_of_mem (fun {x y} hx hy hne => ?_) (sub_nodup hs)
    rcases Nat.lt_or_gt_of_ne hne with z | z
    · exact f2 x y (sub_lt hs hx) (sub_lt hs hy) (hc (x, y) (mem_prs.mpr ⟨hx, hy, z⟩))
    · exact Ne.symm (f2 y x (sub_lt hs hy) (sub_lt hs hx) (hc (y, x) (mem_prs.mpr ⟨hy, hx, z⟩)))
  have := nodup_len hn (m := List.range a) fun z hz => by
    obtain ⟨v, hv, rfl⟩ := List.mem_map.mp hz
    exact List.mem_range.mpr (f1 v (sub_lt hs hv))
  rwa [List.length_map, List.length_range] at this
theorem loose_chi {g : Gr} {a k : Nat} (ha : Colb g a) (h : ∀ m ∈ lots (cpl g) cliq, m.length ≤ k) : g.n ≤ a * k := by
  obtain ⟨f, f1, f2⟩ := ha
  have h1 := nodup_len (rng_nodup g.n) (m := (List.range a).flatMap fun c => pt g fun v => decide (f v = c)) fun v hv => by
    have hv := List.mem_range.mp hv
    exact List.mem_flatMap.mpr ⟨f v, List.mem_range.mpr (f1 v hv), mem_pt.mpr ⟨hv, decide_eq_true rfl⟩⟩
  have h2 : ((List.range a).flatMap fun c => pt g fun v => decide (f v = c)).length ≤ (List.range a).length * k := flen fun c _ => h _ (by
    rw [lots_cpl]
    refine lots_sub.mpr ⟨pt_sub g _, loose_iff.mpr fun x hx y hy _ => ?_⟩
    obtain ⟨x1, x2⟩ := mem_pt.mp hx
    obtain ⟨y1, y2⟩ := mem_pt.mp hy
    have x2 := of_decide_eq_true x2
    have y2 := of_decide_eq_true y2
    cases hadj : adj g x y with
    | false => rfl
    | true => exact absurd (x2.trans y2.symm) (f2 x y x1 y1 hadj))
  rw [List.length_range] at h1 h2
  omega
/-- the least number depends on the joins alone -/
theorem Chi.of_adj {g h : Gr} {k : Nat} (hn : g.n = h.n) (ha : ∀ u v, u < g.n → v < g.n → adj g u v = adj h u v) (c : Chi g k) : Chi h k :=
  ⟨c.pos, c.col.of_adj hn ha, fun j h1 h2 z => c.min j h1 h2 (z.of_adj hn.symm fun u v hu hv => (ha u v (by omega) (by omega)).symm)⟩
theorem adj_oth {g : Gr} {a b : Nat} (ha : a < g.n) (hb : b < g.n) : adj (oth g) a b = (decide (a ≠ b) && !adj g a b) := by
  unfold adj
  by_cases h : a = b
  · simp [h]
  · have hm : pr a b ∈ (oth g).es ↔ adj g (pr a b).1 (pr a b).2 = false := by
      show pr a b ∈ (allp g.n).filter _ ↔ _
      rw [List.mem_filter]
      exact ⟨fun z => by simpa using z.2, fun z => ⟨mem_allp.mpr (pr_ok h ha hb), by simpa using z⟩⟩
    have e : adj g (pr a b).1 (pr a b).2 = adj g a b := by
      unfold pr
      split
      · rfl
      · exact adj_symm g b a
    rw [e] at hm
    unfold adj at hm
    by_cases h2 : pr a b ∈ g.es
    · have : pr a b ∉ (oth g).es := fun z => by
        have := hm.mp z
        simp [h, h2] at this
      simp [h, h2, this]
    · have : pr a b ∈ (oth g).es := hm.mpr (by simp [h2])
      simp [h, h2, this]
theorem chi_oth {g : Gr} {k : Nat} (c : Chi (oth g) k) : Chi (cpl g) k := Chi.of_adj (g := oth g) (h := cpl g) rfl (fun u v hu hv => by
  rw [adj_oth (g := g) hu hv, adj_cpl (g := g) hu hv]) c
theorem chi_oth2 {g : Gr} {k : Nat} (c : Chi (oth (cpl g)) k) : Chi g k := Chi.of_adj (g := oth (cpl g)) (h := g) rfl (fun u v hu hv => by
  have hu : u < g.n := hu
  have hv : v < g.n := hv
  rw [adj_oth (g := cpl g) hu hv, adj_cpl hu hv]
  by_cases h : u = v
  · rw [h, adj_self]; simp
  · cases adj g u v <;> simp [h]) c
theorem mem_arr {g : Gr} {cs : List Nat} {p : Nat × Nat} : p ∈ arr g cs ↔ ∃ q ∈ g.es, ori cs q = p := by
  unfold arr
  rw [(List.mergeSort_perm _ _).mem_iff, List.mem_map]
theorem edge_adj {g : Gr} (o : Ok g) {q : Nat × Nat} (hq : q ∈ g.es) : adj g q.1 q.2 = true ∧ q.1 < g.n ∧ q.2 < g.n := by
  obtain ⟨h1, h2⟩ := o.rng q hq
  refine ⟨?_, by omega, h2⟩
  unfold adj pr
  rw [if_pos h1]
  have : q.1 ≠ q.2 := by omega
  simp [this, hq]
theorem arr_ok {g : Gr} (o : Ok g) {cs : List Nat} (hd : ∀ q ∈ g.es, cs.getD q.1 0 ≠ cs.getD q.2 0) : ∀ p ∈ arr g cs, p.1 < g.n ∧ p.2 < g.n ∧ cs.getD p.1 0 < cs.getD p.2 0 := fun p hp => by
  obtain ⟨q, hq, rfl⟩ := mem_arr.mp hp
  obtain ⟨_, h1, h2⟩ := edge_adj o hq
  have := hd q hq
  unfold ori
  split
  · rename_i h
    exact ⟨h1, h2, h⟩
  · rename_i h
    refine ⟨h2, h1, ?_⟩
    show cs.getD q.2 0 < cs.getD q.1 0
    omega
/-- Gallai and Roy -/
theorem roy {g : Gr} (o : Ok g) {cs : List Nat} {m : Nat} {f : Nat → Nat} (lo : ∀ p ∈ arr g cs, f p.1 + 1 ≤ f p.2) (hm : ∀ v, v < g.n → f v ≤ m) : Colb g (m + 1) := by
  refine ⟨f, fun v hv => by have := hm v hv; omega, fun u v hu hv ha e => ?_⟩
  unfold adj at ha
  rw [Bool.and_eq_true] at ha
  have he := of_decide_eq_true ha.2
  have := lo _ (mem_arr.mpr ⟨_, he, rfl⟩)
  unfold ori pr at this
  split at this <;> split at this <;> simp only at this <;> omega
theorem lt_unique : ∀ {l m : List (Nat × Nat)}, l.Pairwise (ltO ple) → m.Pairwise (ltO ple) → (∀ x, x ∈ l ↔ x ∈ m) → l = m
  | [], [], _, _, _ => rfl
  | [], y :: m, _, _, h => nomatch (h y).mpr List.mem_cons_self
  | x :: l, [], _, _, h => nomatch (h x).mp List.mem_cons_self
  | x :: l, y :: m, h1, h2, h => by
    obtain ⟨a1, a2⟩ := List.pairwise_cons.mp h1
    obtain ⟨b1, b2⟩ := List.pairwise_cons.mp h2
    have hxy : x = y := by
      rcases List.mem_cons.mp ((h x).mp List.mem_cons_self) with e | hx
      · exact e
      · rcases List.mem_cons.mp ((h y).mpr List.mem_cons_self) with e | hy
        · exact e.symm
        · exact absurd (ord_prD.anti x y (a1 y hy).1 (b1 x hx).1) (a1 y hy).2
    subst hxy
    have nx : x ∉ l := fun z => (a1 x z).2 rfl
    have ny : x ∉ m := fun z => (b1 x z).2 rfl
    rw [lt_unique a2 b2 fun z => ⟨fun hz => by
      rcases List.mem_cons.mp ((h z).mp (List.mem_cons_of_mem _ hz)) with e | e
      · rw [e] at hz; exact absurd hz nx
      · exact e, fun hz => by
      rcases List.mem_cons.mp ((h z).mpr (List.mem_cons_of_mem _ hz)) with e | e
      · rw [e] at hz; exact absurd hz ny
      · exact e⟩]
/-- the arrows' pairs, sorted: the edges -/
theorem arr_back {g : Gr} (o : Ok g) (cs : List Nat) : ((arr g cs).map fun p => pr p.1 p.2).mergeSort ple = g.es := by
  have e1 : ∀ q ∈ g.es, pr (ori cs q).1 (ori cs q).2 = q := fun q hq => by
    obtain ⟨h1, _⟩ := o.rng q hq
    unfold ori
    split
    · exact pr_id h1
    · show pr q.2 q.1 = q
      rw [pr_comm]
      exact pr_id h1
  have pm : ((arr g cs).map fun p => pr p.1 p.2).Perm g.es := by
    unfold arr
    refine ((List.mergeSort_perm _ _).map _).trans ?_
    rw [List.map_map]
    have : g.es.map ((fun p : Nat × Nat => pr p.1 p.2) ∘ ori cs) = g.es := by
      conv => rhs; rw [← List.map_id g.es]
      exact List.map_congr_left e1
    rw [this]
  have pm2 := (List.mergeSort_perm ((arr g cs).map fun p => pr p.1 p.2) ple).trans pm
  refine lt_unique ?_ o.srt fun x => pm2.mem_iff
  have hs := sorted_of ord_prD ((arr g cs).map fun p => pr p.1 p.2)
  have hn : (((arr g cs).map fun p => pr p.1 p.2).mergeSort ple).Nodup := pm2.nodup_iff.mpr (lt_nodup o.srt)
  exact (hs.and hn).imp fun h => h
end W3
namespace W3
open PySem
def sL75_0 : Sc := Sc.set (.nm 2) (.callP 40 [(.cst (.int 1)), (.cst (.int 7))])
def sL75_1 : Sc := Sc.par 3 4 (.ix (.slot 2) (.cst (.int 0))) (.call 10 [(.slot 2)])
def sL75_2 : Sc := Sc.par 5 6 (.call 20 [(.slot 2)]) (.call 20 [(.slot 4)])
def sL75_3 : Sc := Sc.ite (.or (.op .gt (.op .add (.slot 5) (.slot 6)) (.op .add (.slot 3) (.cst (.int 1)))) (.or (.op .lt (.op .mul (.op .add (.slot 5) (.slot 6)) (.op .add (.slot 5) (.slot 6))) (.op .mul (.cst (.int 4)) (.slot 3))) (.or (.op .lt (.op .mul (.slot 5) (.slot 6)) (.slot 3)) (.or (.op .gt (.op .mul (.op .mul (.cst (.int 4)) (.slot 5)) (.slot 6)) (.op .mul (.op .add (.slot 3) (.cst (.int 1))) (.op .add (.slot 3) (.cst (.int 1))))) (.or (.op .ne (.call 105 [(.slot 2)]) (.slot 6)) (.op .ne (.call 105 [(.slot 4)]) (.slot 5))))))) [.ret (.cst (.bool false))] []
def sL75_4 : Sc := Sc.ite (.or (.op .gt (.b1 .len (.call 21 [(.slot 2)])) (.slot 5)) (.or (.op .gt (.slot 5) (.op .add (.call 85 [(.slot 2)]) (.cst (.int 1)))) (.or (.op .lt (.op .mul (.slot 5) (.b1 .len (.call 22 [(.slot 2)]))) (.slot 3)) (.op .ne (.call 22 [(.slot 2)]) (.call 21 [(.slot 4)]))))) [.ret (.cst (.bool false))] []
def sL75_5 : Sc := Sc.set (.nm 7) (.call 19 [(.slot 2), (.slot 5)])
def sL75_6 : Sc := Sc.ite (.op .ne (.call 216 [(.slot 3), (.call 217 [(.slot 2), (.slot 7)])]) (.op .sub (.slot 5) (.cst (.int 1)))) [.ret (.cst (.bool false))] []
def sL75_7 : Sc := Sc.set (.nm 8) (.call 44 [(.callP 43 []), (.cst (.int 0)), (.slot 3)])
def sL75_8 : Sc := Sc.set (.nm 9) (.call 217 [(.slot 2), (.slot 8)])
def sL75_9 : Sc := Sc.ret (.and (.op .ge (.call 216 [(.slot 3), (.slot 9)]) (.op .sub (.slot 5) (.cst (.int 1)))) (.op .eq (.b1 .srt (.lc [10, 11] (.tp [(.nm 10), (.nm 11)]) false [(.slot 9)] none (.call 37 [(.slot 10), (.slot 11)]))) (.b1 .lst (.ix (.slot 2) (.cst (.int 1))))))
def bL75 : List Sc := [sL75_0, sL75_1, sL75_2, sL75_3, sL75_4, sL75_5, sL75_6, sL75_7, sL75_8, sL75_9]
def NL75 : List Str := ["script", "pool", "g", "n", "h", "a", "b", "best", "names", "arrows", "x", "y"]
end W3
namespace W3
open PySem
section
variable {Φ : Fam}
structure F75 (Φ : Fam) : Prop where
  M : Φ.Mono
  h10 : Has Φ 10 sp10
  h19 : Has Φ 19 sp19
  h20 : Has Φ 20 sp20
  h21 : Has Φ 21 sp21
  h22 : Has Φ 22 sp22
  h37 : Has Φ 37 sp37
  h44 : Has Φ 44 sp44
  h85 : Has Φ 85 sp85
  h105 : Has Φ 105 sp105
  h216 : Has Φ 216 sp216
  h217 : Has Φ 217 sp217
  h40 : HasP Φ 40 sp40
  h43 : HasP Φ 43 sp43
theorem eqv_prDs : ∀ a b : List (Nat × Nat), PyData.eqvAll (a.map prD) (b.map prD) = decide (a = b)
  | [], [] => by simp [PyData.eqvAll]
  | [], _ :: _ => by simp [PyData.eqvAll]
  | _ :: _, [] => by simp [PyData.eqvAll]
  | a :: l, b :: m => by
    rw [List.map_cons, List.map_cons, PyData.eqvAll, eqv_prDs l m, eqv_prD]
    by_cases h : a = b <;> by_cases h2 : l = m <;> simp [h, h2]
theorem eqv_lprs (a b : List (Nat × Nat)) : PyData.eqv (.list (a.map prD)) (.list (b.map prD)) = decide (a = b) := by
  rw [PyData.eqv]
  exact eqv_prDs a b
theorem depth_prDs (l : List (Nat × Nat)) : PyData.depthAll (l.map prD) ≤ 2 := by
  induction l with
  | nil => simp [PyData.depthAll]
  | cons a l ih =>
    simp only [List.map_cons, PyData.depthAll, prD, nD, PyData.depth]
    omega
theorem shp_lprs (l : List (Nat × Nat)) : shp (.list (l.map prD)) := by
  have := depth_prDs l
  unfold shp
  simp only [PyData.depth]
  omega
def S75 (G : Gr) (a b : Nat) (o : List (Option D)) : Sl := none :: none :: some (grD G) :: some (nD G.n) :: some (grD (cpl G)) :: some (nD a) :: some (nD b) :: o
theorem l75_1 (F : F75 Φ) (G : Gr) (hn : 1 ≤ G.n ∧ G.n ≤ 7) (g : Nat) (R : Kc) : wpS Φ [] sL75_1 [none, none, some (grD G), none, none, none, none, none, none, none, none, none] g
    { nx := fun Γ g' => g' = g ∧ Γ = [none, none, some (grD G), some (nD G.n), some (grD (cpl G)), none, none, none, none, none, none, none], rt := R } := by
  simp only [sL75_1, wpB, wpS, wpE, wpL, wpO, wpOT, wpT, fin, getS, optK, intK.eq_1, boolK.eq_1, truK.eq_1, truK.eq_2, truK.eq_3, truK.eq_4, truK.eq_5, seqK.eq_1, seqK.eq_2, op2, op1, b1K.eq_1, b1K.eq_2, b1K.eq_3, b1K.eq_4, b1K.eq_5, b1K.eq_6, b1K.eq_7, b1K.eq_8, b1K.eq_9, b1K.eq_10, b1K.eq_11, b1K.eq_12, b1K.eq_13, b1K.eq_14, b1K.eq_15, itK, tgFlat, asOk, wpTg.eq_1, wpTg.eq_2, wpTgs.eq_1, wpTgs.eq_2, wipeS, List.set, sl0, List.map, List.replicate, List.length_cons, List.length_nil, Nat.sub_self, Nat.reduceSub, Nat.reduceAdd, List.cons_append, List.nil_append, if_true]
  exact ix0 G (F.h10 _ _ ⟨G, rfl, by omega, ⟨rfl, congrArg (fun b => b || _) (flat_grD (cpl G))⟩, trivial, rfl⟩)
theorem l75_2 (F : F75 Φ) (G : Gr) (hn : 1 ≤ G.n ∧ G.n ≤ 7) (g : Nat) (R : Kc) : wpS Φ [] sL75_2 [none, none, some (grD G), some (nD G.n), some (grD (cpl G)), none, none, none, none, none, none, none] g
    { nx := fun Γ g' => g' = g ∧ ∃ a b, Chi G a ∧ Chi (cpl G) b ∧ Γ = S75 G a b [none, none, none, none, none], rt := R } := by
  simp only [sL75_2, wpB, wpS, wpE, wpL, wpO, wpOT, wpT, fin, getS, optK, intK.eq_1, boolK.eq_1, truK.eq_1, truK.eq_2, truK.eq_3, truK.eq_4, truK.eq_5, seqK.eq_1, seqK.eq_2, op2, op1, b1K.eq_1, b1K.eq_2, b1K.eq_3, b1K.eq_4, b1K.eq_5, b1K.eq_6, b1K.eq_7, b1K.eq_8, b1K.eq_9, b1K.eq_10, b1K.eq_11, b1K.eq_12, b1K.eq_13, b1K.eq_14, b1K.eq_15, itK, tgFlat, asOk, wpTg.eq_1, wpTg.eq_2, wpTgs.eq_1, wpTgs.eq_2, wipeS, List.set, sl0, List.map, List.replicate, List.length_cons, List.length_nil, Nat.sub_self, Nat.reduceSub, Nat.reduceAdd, List.cons_append, List.nil_append, if_true]
  exact F.h20 _ _ ⟨G, rfl, by omega, fun a ha => F.h20 _ _ ⟨cpl G, rfl, ⟨hn.1, by show G.n ≤ 8; omega⟩, fun b hb => ⟨⟨rfl, rfl⟩, trivial, a, b, ha, hb, rfl⟩⟩⟩
theorem l75_3 (F : F75 Φ) (G : Gr) (a b : Nat) (ha : Chi G a) (hb : Chi (cpl G) b) (hn : 1 ≤ G.n ∧ G.n ≤ 7) (o : List (Option D)) (g : Nat) (R : Kc) : wpS Φ [] sL75_3 (S75 G a b o) g
    { nx := fun Γ g' => g' = g ∧ Γ = S75 G a b o, rt := R } := by
  have hn2 : 1 ≤ (cpl G).n := hn.1
  have e1 := nord_chi hn.1 ha hb
  have e2 := prod_chi ha.col hb.col
  have e3 := sq_low e2
  have e4 := sq_high e1
  simp only [sL75_3, S75, nD, wpB, wpS, wpE, wpL, wpO, wpOT, wpT, fin, getS, optK, intK.eq_1, boolK.eq_1, truK.eq_1, truK.eq_2, truK.eq_3, truK.eq_4, truK.eq_5, seqK.eq_1, seqK.eq_2, op2, op1, b1K.eq_1, b1K.eq_2, b1K.eq_3, b1K.eq_4, b1K.eq_5, b1K.eq_6, b1K.eq_7, b1K.eq_8, b1K.eq_9, b1K.eq_10, b1K.eq_11, b1K.eq_12, b1K.eq_13, b1K.eq_14, b1K.eq_15, itK, tgFlat, asOk, wpTg.eq_1, wpTg.eq_2, wpTgs.eq_1, wpTgs.eq_2, wipeS, List.set, sl0, List.map, List.replicate, List.length_cons, List.length_nil, Nat.sub_self, Nat.reduceSub, Nat.reduceAdd, List.cons_append, List.nil_append, if_true]
  have i2 : (G.n : Int) ≤ (a : Int) * (b : Int) := by exact_mod_cast e2
  have i3 : 4 * (G.n : Int) ≤ ((a : Int) + b) * ((a : Int) + b) := by exact_mod_cast e3
  have i4 : 4 * (a : Int) * b ≤ ((G.n : Int) + 1) * ((G.n : Int) + 1) := by exact_mod_cast e4
  refine ifF (decide_eq_false (by omega)) ⟨.inl ⟨by omega, by omega⟩, .inl ⟨by decide, by decide⟩, ifF (decide_eq_false (Int.not_lt.mpr i3)) ⟨.inl ⟨by omega, by omega⟩, ifF (decide_eq_false (Int.not_lt.mpr i2)) ?_⟩⟩
  refine ⟨.inl ⟨by decide, by decide⟩, .inr ⟨by omega, by omega⟩, .inl ⟨by omega, by omega⟩, ifF (decide_eq_false (Int.not_lt.mpr i4)) ?_⟩
  refine F.h105 _ _ ⟨G, rfl, by omega, fun k hk => ?_⟩
  have ek : k = b := (chi_oth hk).uniq hn2 hb
  subst ek
  have q : ∀ k : Nat, PyData.eqv (nD k) (.int (k : Int)) = true := fun k => (eqv_nD k k).trans (decide_eq_true rfl)
  refine ⟨shp_nD k, ifF (by rw [q]; rfl) (F.h105 _ _ ⟨cpl G, rfl, ⟨hn2, by show G.n ≤ 8; omega⟩, fun j hj => ?_⟩)⟩
  have ej : j = a := (chi_oth2 hj).uniq hn.1 ha
  subst ej
  exact ⟨shp_nD j, ifF (by rw [q]; rfl) ⟨trivial, trivial⟩⟩
theorem l75_4 (F : F75 Φ) (G : Gr) (a b : Nat) (ha : Chi G a) (hb : Chi (cpl G) b) (hn : 1 ≤ G.n ∧ G.n ≤ 7) (o : List (Option D)) (g : Nat) (R : Kc) : wpS Φ [] sL75_4 (S75 G a b o) g
    { nx := fun Γ g' => g' = g ∧ Γ = S75 G a b o, rt := R } := by
  have c1 := clique_chi ha.col (gcl_ok G).1
  have c2 := loose_chi ha.col (gcl_ok (cpl G)).2
  have i2 : (G.n : Int) ≤ (a : Int) * ((gcl (cpl G)).length : Int) := by exact_mod_cast c2
  have an := ha.le hn.1 (colb_n G)
  simp only [sL75_4, S75, nD, wpB, wpS, wpE, wpL, wpO, wpOT, wpT, fin, getS, optK, intK.eq_1, boolK.eq_1, truK.eq_1, truK.eq_2, truK.eq_3, truK.eq_4, truK.eq_5, seqK.eq_1, seqK.eq_2, op2, op1, b1K.eq_1, b1K.eq_2, b1K.eq_3, b1K.eq_4, b1K.eq_5, b1K.eq_6, b1K.eq_7, b1K.eq_8, b1K.eq_9, b1K.eq_10, b1K.eq_11, b1K.eq_12, b1K.eq_13, b1K.eq_14, b1K.eq_15, itK, tgFlat, asOk, wpTg.eq_1, wpTg.eq_2, wpTgs.eq_1, wpTgs.eq_2, wipeS, List.set, sl0, List.map, List.replicate, List.length_cons, List.length_nil, Nat.sub_self, Nat.reduceSub, Nat.reduceAdd, List.cons_append, List.nil_append, if_true]
  refine F.h21 _ _ ⟨G, rfl, by omega, ?_⟩
  simp only [ltD, wpB, wpS, wpE, wpL, wpO, wpOT, wpT, fin, getS, optK, intK.eq_1, boolK.eq_1, truK.eq_1, truK.eq_2, truK.eq_3, truK.eq_4, truK.eq_5, seqK.eq_1, seqK.eq_2, op2, op1, b1K.eq_1, b1K.eq_2, b1K.eq_3, b1K.eq_4, b1K.eq_5, b1K.eq_6, b1K.eq_7, b1K.eq_8, b1K.eq_9, b1K.eq_10, b1K.eq_11, b1K.eq_12, b1K.eq_13, b1K.eq_14, b1K.eq_15, itK, tgFlat, asOk, wpTg.eq_1, wpTg.eq_2, wpTgs.eq_1, wpTgs.eq_2, wipeS, List.set, sl0, List.map, List.replicate, List.length_cons, List.length_nil, Nat.sub_self, Nat.reduceSub, Nat.reduceAdd, List.cons_append, List.nil_append, if_true]
  rw [List.length_map]
  refine ifF (decide_eq_false (by omega)) (F.h85 _ _ ⟨G, rfl, by omega, fun k hk => ?_⟩)
  have := ha.le hn.1 hk
  simp only [nD, wpB, wpS, wpE, wpL, wpO, wpOT, wpT, fin, getS, optK, intK.eq_1, boolK.eq_1, truK.eq_1, truK.eq_2, truK.eq_3, truK.eq_4, truK.eq_5, seqK.eq_1, seqK.eq_2, op2, op1, b1K.eq_1, b1K.eq_2, b1K.eq_3, b1K.eq_4, b1K.eq_5, b1K.eq_6, b1K.eq_7, b1K.eq_8, b1K.eq_9, b1K.eq_10, b1K.eq_11, b1K.eq_12, b1K.eq_13, b1K.eq_14, b1K.eq_15, itK, tgFlat, asOk, wpTg.eq_1, wpTg.eq_2, wpTgs.eq_1, wpTgs.eq_2, wipeS, List.set, sl0, List.map, List.replicate, List.length_cons, List.length_nil, Nat.sub_self, Nat.reduceSub, Nat.reduceAdd, List.cons_append, List.nil_append, if_true]
  refine ifF (decide_eq_false (by omega)) (F.h22 _ _ ⟨G, rfl, by omega, ?_⟩)
  simp only [ltD, wpB, wpS, wpE, wpL, wpO, wpOT, wpT, fin, getS, optK, intK.eq_1, boolK.eq_1, truK.eq_1, truK.eq_2, truK.eq_3, truK.eq_4, truK.eq_5, seqK.eq_1, seqK.eq_2, op2, op1, b1K.eq_1, b1K.eq_2, b1K.eq_3, b1K.eq_4, b1K.eq_5, b1K.eq_6, b1K.eq_7, b1K.eq_8, b1K.eq_9, b1K.eq_10, b1K.eq_11, b1K.eq_12, b1K.eq_13, b1K.eq_14, b1K.eq_15, itK, tgFlat, asOk, wpTg.eq_1, wpTg.eq_2, wpTgs.eq_1, wpTgs.eq_2, wipeS, List.set, sl0, List.map, List.replicate, List.length_cons, List.length_nil, Nat.sub_self, Nat.reduceSub, Nat.reduceAdd, List.cons_append, List.nil_append, if_true]
  rw [List.length_map]
  refine ⟨.inl ⟨by omega, by omega⟩, ifF (decide_eq_false (Int.not_lt.mpr i2)) (F.h22 _ _ ⟨G, rfl, by omega, F.h21 _ _ ⟨cpl G, rfl, by show G.n ≤ 12; omega, ⟨shp_ltD _, ifF ?_ ⟨trivial, trivial⟩⟩⟩⟩)⟩
  rw [eqv_ltD, decide_eq_true rfl]
  rfl
theorem l75_5 (F : F75 Φ) (G : Gr) (a b : Nat) (ha : Chi G a) (hn : 1 ≤ G.n ∧ G.n ≤ 7) (o : List (Option D)) (g : Nat) (R : Kc) : wpS Φ [] sL75_5 (S75 G a b (none :: o)) g
    { nx := fun Γ g' => g' = g ∧ ∃ d, PC G a d ∧ d.length = G.n ∧ Γ = S75 G a b (some (ltD d) :: o), rt := R } := by
  have an := ha.le hn.1 (colb_n G)
  simp only [sL75_5, S75, wpB, wpS, wpE, wpL, wpO, wpOT, wpT, fin, getS, optK, intK.eq_1, boolK.eq_1, truK.eq_1, truK.eq_2, truK.eq_3, truK.eq_4, truK.eq_5, seqK.eq_1, seqK.eq_2, op2, op1, b1K.eq_1, b1K.eq_2, b1K.eq_3, b1K.eq_4, b1K.eq_5, b1K.eq_6, b1K.eq_7, b1K.eq_8, b1K.eq_9, b1K.eq_10, b1K.eq_11, b1K.eq_12, b1K.eq_13, b1K.eq_14, b1K.eq_15, itK, tgFlat, asOk, wpTg.eq_1, wpTg.eq_2, wpTgs.eq_1, wpTgs.eq_2, wipeS, List.set, sl0, List.map, List.replicate, List.length_cons, List.length_nil, Nat.sub_self, Nat.reduceSub, Nat.reduceAdd, List.cons_append, List.nil_append, if_true]
  refine F.h19 _ _ ⟨G, a, rfl, ⟨by omega, by omega⟩, ?_⟩
  cases e : cols G a [] with
  | none => exact absurd e (cols_iff.mpr ha.col)
  | some d =>
    obtain ⟨P, hl⟩ := cols_good _ (PC.nil G a) e
    exact ⟨congrArg (fun b => b || _) (flat_ltD d), trivial, d, P, hl, rfl⟩
/-- the longest way by any colours -/
theorem long_wp (F : F75 Φ) {G : Gr} (o : Ok G) (hn : 1 ≤ G.n ∧ G.n ≤ 7) {a : Nat} (ha : Chi G a) {cs : List Nat} (hd : ∀ q ∈ G.es, cs.getD q.1 0 ≠ cs.getD q.2 0) (hc : ∀ v, v < G.n → cs.getD v 0 < G.n) {Q : D → Prop}
    (q : ∀ m, a ≤ m + 1 → (∀ k, (∀ v, v < G.n → cs.getD v 0 < k) → m < k) → Q (nD m)) : Φ.sp 216 [nD G.n, .tuple ((arr G cs).map prD)] Q :=
  F.h216 _ _ ⟨G.n, arr G cs, fun v => cs.getD v 0, rfl, ⟨by omega, by omega⟩, arr_ok o hd, hc, fun m f f1 f2 f3 f4 => q m (ha.le hn.1 (roy o f2 f3)) fun k hk => by
    obtain ⟨v, hv, e⟩ := f4
    have a1 : f v ≤ cs.getD v 0 := f1 v hv
    have := hk v hv
    omega⟩
theorem l75_6 (F : F75 Φ) (G : Gr) (og : Ok G) (a b : Nat) (ha : Chi G a) (hn : 1 ≤ G.n ∧ G.n ≤ 7) (d : List Nat) (P : PC G a d) (hl : d.length = G.n) (o : List (Option D)) (g : Nat) (R : Kc) : wpS Φ [] sL75_6 (S75 G a b (some (ltD d) :: o)) g
    { nx := fun Γ g' => g' = g ∧ Γ = S75 G a b (some (ltD d) :: o), rt := R } := by
  have an := ha.le hn.1 (colb_n G)
  have lt : ∀ v, v < G.n → d.getD v 0 < a := fun v hv => P.lt _ (mem_getD (by omega))
  simp only [sL75_6, S75, wpB, wpS, wpE, wpL, wpO, wpOT, wpT, fin, getS, optK, intK.eq_1, boolK.eq_1, truK.eq_1, truK.eq_2, truK.eq_3, truK.eq_4, truK.eq_5, seqK.eq_1, seqK.eq_2, op2, op1, b1K.eq_1, b1K.eq_2, b1K.eq_3, b1K.eq_4, b1K.eq_5, b1K.eq_6, b1K.eq_7, b1K.eq_8, b1K.eq_9, b1K.eq_10, b1K.eq_11, b1K.eq_12, b1K.eq_13, b1K.eq_14, b1K.eq_15, itK, tgFlat, asOk, wpTg.eq_1, wpTg.eq_2, wpTgs.eq_1, wpTgs.eq_2, wipeS, List.set, sl0, List.map, List.replicate, List.length_cons, List.length_nil, Nat.sub_self, Nat.reduceSub, Nat.reduceAdd, List.cons_append, List.nil_append, if_true]
  refine F.h217 _ _ ⟨G, d, rfl, fun p hp => ?_, ?_⟩
  · have := og.rng p hp
    omega
  refine long_wp F og hn ha (fun q hq => ?_) (fun v hv => by have := lt v hv; omega) fun m h1 h2 => ?_
  · obtain ⟨e1, e2, e3⟩ := edge_adj og hq
    exact P.pr _ _ (by omega) (by omega) e1
  have hm := h2 a lt
  have hp := ha.pos
  simp only [nD, wpB, wpS, wpE, wpL, wpO, wpOT, wpT, fin, getS, optK, intK.eq_1, boolK.eq_1, truK.eq_1, truK.eq_2, truK.eq_3, truK.eq_4, truK.eq_5, seqK.eq_1, seqK.eq_2, op2, op1, b1K.eq_1, b1K.eq_2, b1K.eq_3, b1K.eq_4, b1K.eq_5, b1K.eq_6, b1K.eq_7, b1K.eq_8, b1K.eq_9, b1K.eq_10, b1K.eq_11, b1K.eq_12, b1K.eq_13, b1K.eq_14, b1K.eq_15, itK, tgFlat, asOk, wpTg.eq_1, wpTg.eq_2, wpTgs.eq_1, wpTgs.eq_2, wipeS, List.set, sl0, List.map, List.replicate, List.length_cons, List.length_nil, Nat.sub_self, Nat.reduceSub, Nat.reduceAdd, List.cons_append, List.nil_append, if_true]
  refine ⟨shp_nD m, ifF ?_ ⟨trivial, trivial⟩⟩
  rw [eqv_int, decide_eq_true (by omega)]
  rfl
theorem l75_9 (F : F75 Φ) (G : Gr) (og : Ok G) (a b : Nat) (ha : Chi G a) (hn : 1 ≤ G.n ∧ G.n ≤ 7) (ns : List Nat) (hnd : ns.Nodup) (hl : ns.length = G.n) (hlt : ∀ x ∈ ns, x < G.n) (o7 : Option D) (g : Nat) (R : Kc) (hR : ∀ g', R (.bool true) g') : wpB Φ [] [sL75_8, sL75_9] (S75 G a b [o7, some (ltD ns), none, none, none]) g
    { nx := fun _ _ => False, rt := R } := by
  refine wpB_seq F.M (fun Γ g' => Γ = S75 G a b [o7, some (ltD ns), some (.tuple ((arr G ns).map prD)), none, none]) ?_ ?_
  · simp only [sL75_8, S75, wpB, wpS, wpE, wpL, wpO, wpOT, wpT, fin, getS, optK, intK.eq_1, boolK.eq_1, truK.eq_1, truK.eq_2, truK.eq_3, truK.eq_4, truK.eq_5, seqK.eq_1, seqK.eq_2, op2, op1, b1K.eq_1, b1K.eq_2, b1K.eq_3, b1K.eq_4, b1K.eq_5, b1K.eq_6, b1K.eq_7, b1K.eq_8, b1K.eq_9, b1K.eq_10, b1K.eq_11, b1K.eq_12, b1K.eq_13, b1K.eq_14, b1K.eq_15, itK, tgFlat, asOk, wpTg.eq_1, wpTg.eq_2, wpTgs.eq_1, wpTgs.eq_2, wipeS, List.set, sl0, List.map, List.replicate, List.length_cons, List.length_nil, Nat.sub_self, Nat.reduceSub, Nat.reduceAdd, List.cons_append, List.nil_append, if_true]
    refine F.h217 _ _ ⟨G, ns, rfl, fun p hp => ?_, ⟨congrArg (fun b => b || _) (flats_map _ flat_prD _), rfl⟩⟩
    have := og.rng p hp
    omega
  rintro Γ g' rfl
  simp only [sL75_9, S75, wpB, wpS, wpE, wpL, wpO, wpOT, wpT, fin, getS, optK, intK.eq_1, boolK.eq_1, truK.eq_1, truK.eq_2, truK.eq_3, truK.eq_4, truK.eq_5, seqK.eq_1, seqK.eq_2, op2, op1, b1K.eq_1, b1K.eq_2, b1K.eq_3, b1K.eq_4, b1K.eq_5, b1K.eq_6, b1K.eq_7, b1K.eq_8, b1K.eq_9, b1K.eq_10, b1K.eq_11, b1K.eq_12, b1K.eq_13, b1K.eq_14, b1K.eq_15, itK, tgFlat, asOk, wpTg.eq_1, wpTg.eq_2, wpTgs.eq_1, wpTgs.eq_2, wipeS, List.set, sl0, List.map, List.replicate, List.length_cons, List.length_nil, Nat.sub_self, Nat.reduceSub, Nat.reduceAdd, List.cons_append, List.nil_append, if_true]
  refine long_wp F og hn ha (fun q hq e => ?_) (fun v hv => hlt _ (mem_getD (by omega))) fun m h1 h2 => ?_
  · obtain ⟨h3, h4⟩ := og.rng q hq
    have l1 : q.1 < ns.length := by omega
    have l2 : q.2 < ns.length := by omega
    rw [List.getD_eq_getElem?_getD, List.getD_eq_getElem?_getD, List.getElem?_eq_getElem l1, List.getElem?_eq_getElem l2] at e
    have := (List.getElem_inj hnd).mp (show ns[q.1] = ns[q.2] from e)
    omega
  simp only [nD, wpB, wpS, wpE, wpL, wpO, wpOT, wpT, fin, getS, optK, intK.eq_1, boolK.eq_1, truK.eq_1, truK.eq_2, truK.eq_3, truK.eq_4, truK.eq_5, seqK.eq_1, seqK.eq_2, op2, op1, b1K.eq_1, b1K.eq_2, b1K.eq_3, b1K.eq_4, b1K.eq_5, b1K.eq_6, b1K.eq_7, b1K.eq_8, b1K.eq_9, b1K.eq_10, b1K.eq_11, b1K.eq_12, b1K.eq_13, b1K.eq_14, b1K.eq_15, itK, tgFlat, asOk, wpTg.eq_1, wpTg.eq_2, wpTgs.eq_1, wpTgs.eq_2, wipeS, List.set, sl0, List.map, List.replicate, List.length_cons, List.length_nil, Nat.sub_self, Nat.reduceSub, Nat.reduceAdd, List.cons_append, List.nil_append, if_true]
  refine ifT (decide_eq_true (by omega)) ?_
  refine lcW_map prD (fun p => some (prD (pr p.1 p.2))) _ (fun p hp K' k => ?_) ?_
  · simp only [prD, wpB, wpS, wpE, wpL, wpO, wpOT, wpT, fin, getS, optK, intK.eq_1, boolK.eq_1, truK.eq_1, truK.eq_2, truK.eq_3, truK.eq_4, truK.eq_5, seqK.eq_1, seqK.eq_2, op2, op1, b1K.eq_1, b1K.eq_2, b1K.eq_3, b1K.eq_4, b1K.eq_5, b1K.eq_6, b1K.eq_7, b1K.eq_8, b1K.eq_9, b1K.eq_10, b1K.eq_11, b1K.eq_12, b1K.eq_13, b1K.eq_14, b1K.eq_15, itK, tgFlat, asOk, wpTg.eq_1, wpTg.eq_2, wpTgs.eq_1, wpTgs.eq_2, wipeS, List.set, sl0, List.map, List.replicate, List.length_cons, List.length_nil, Nat.sub_self, Nat.reduceSub, Nat.reduceAdd, List.cons_append, List.nil_append, if_true]
    exact F.h37 _ _ ⟨p.1, p.2, rfl, k⟩
  rw [fms, List.nil_append]
  have e : (arr G ns).map (fun p => prD (pr p.1 p.2)) = ((arr G ns).map fun p => pr p.1 p.2).map prD := by rw [List.map_map]; rfl
  rw [e]
  refine ⟨srtOk_map ord_prD _, ?_⟩
  rw [sortD_map ord_prD, arr_back og]
  refine ix1 G ?_
  simp only [wpB, wpS, wpE, wpL, wpO, wpOT, wpT, fin, getS, optK, intK.eq_1, boolK.eq_1, truK.eq_1, truK.eq_2, truK.eq_3, truK.eq_4, truK.eq_5, seqK.eq_1, seqK.eq_2, op2, op1, b1K.eq_1, b1K.eq_2, b1K.eq_3, b1K.eq_4, b1K.eq_5, b1K.eq_6, b1K.eq_7, b1K.eq_8, b1K.eq_9, b1K.eq_10, b1K.eq_11, b1K.eq_12, b1K.eq_13, b1K.eq_14, b1K.eq_15, itK, tgFlat, asOk, wpTg.eq_1, wpTg.eq_2, wpTgs.eq_1, wpTgs.eq_2, wipeS, List.set, sl0, List.map, List.replicate, List.length_cons, List.length_nil, Nat.sub_self, Nat.reduceSub, Nat.reduceAdd, List.cons_append, List.nil_append, if_true]
  refine ⟨shp_lprs _, ?_⟩
  rw [eqv_lprs, decide_eq_true rfl]
  exact ⟨rfl, hR _⟩
theorem wL75 (F : F75 Φ) : wpB Φ [] bL75 (List.replicate NL75.length none) 0 { nx := fun _ _ => False, rt := fun d _ => d = .bool true } := by
  have e : List.replicate NL75.length (none : Option D) = [none, none, none, none, none, none, none, none, none, none, none, none] := rfl
  rw [e]
  unfold bL75
  refine wpB_seq F.M (fun Γ g' => g' ≤ 2000 ∧ ∃ G : Gr, Ok G ∧ (1 ≤ G.n ∧ G.n ≤ 7) ∧ Γ = [none, none, some (grD G), none, none, none, none, none, none, none, none, none]) ?_ ?_
  · simp only [sL75_0, wpB, wpS, wpE, wpL, wpO, wpOT, wpT, fin, getS, optK, intK.eq_1, boolK.eq_1, truK.eq_1, truK.eq_2, truK.eq_3, truK.eq_4, truK.eq_5, seqK.eq_1, seqK.eq_2, op2, op1, b1K.eq_1, b1K.eq_2, b1K.eq_3, b1K.eq_4, b1K.eq_5, b1K.eq_6, b1K.eq_7, b1K.eq_8, b1K.eq_9, b1K.eq_10, b1K.eq_11, b1K.eq_12, b1K.eq_13, b1K.eq_14, b1K.eq_15, itK, tgFlat, asOk, wpTg.eq_1, wpTg.eq_2, wpTgs.eq_1, wpTgs.eq_2, wipeS, List.set, sl0, List.map, List.replicate, List.length_cons, List.length_nil, Nat.sub_self, Nat.reduceSub, Nat.reduceAdd, List.cons_append, List.nil_append, if_true]
    exact F.h40 _ _ _ ⟨1, 7, rfl, by omega, by omega, by omega, fun G o a b g' hg' => ⟨congrArg (fun b => b || _) (flat_grD G), by omega, G, o, ⟨a, b⟩, rfl⟩⟩
  rintro Γ g ⟨hg, G, og, hn, rfl⟩
  refine wpB_seq F.M _ (l75_1 F G hn g _) ?_
  rintro Γ g2 ⟨rfl, rfl⟩
  refine wpB_seq F.M _ (l75_2 F G hn _ _) ?_
  rintro Γ g3 ⟨rfl, a, b, ha, hb, rfl⟩
  refine wpB_seq F.M _ (l75_3 F G a b ha hb hn _ _ _) ?_
  rintro Γ g4 ⟨rfl, rfl⟩
  refine wpB_seq F.M _ (l75_4 F G a b ha hb hn _ _ _) ?_
  rintro Γ g5 ⟨rfl, rfl⟩
  refine wpB_seq F.M _ (l75_5 F G a b ha hn _ _ _) ?_
  rintro Γ g6 ⟨rfl, d, P, hl, rfl⟩
  refine wpB_seq F.M _ (l75_6 F G og a b ha hn d P hl _ _ _) ?_
  rintro Γ g7 ⟨rfl, rfl⟩
  refine wpB_seq F.M (fun Γ g' => ∃ ns : List Nat, ns.Nodup ∧ ns.length = G.n ∧ (∀ x ∈ ns, x < G.n) ∧ Γ = S75 G a b [some (ltD d), some (ltD ns), none, none, none]) ?_ ?_
  · simp only [sL75_7, S75, wpB, wpS, wpE, wpL, wpO, wpOT, wpT, fin, getS, optK, intK.eq_1, boolK.eq_1, truK.eq_1, truK.eq_2, truK.eq_3, truK.eq_4, truK.eq_5, seqK.eq_1, seqK.eq_2, op2, op1, b1K.eq_1, b1K.eq_2, b1K.eq_3, b1K.eq_4, b1K.eq_5, b1K.eq_6, b1K.eq_7, b1K.eq_8, b1K.eq_9, b1K.eq_10, b1K.eq_11, b1K.eq_12, b1K.eq_13, b1K.eq_14, b1K.eq_15, itK, tgFlat, asOk, wpTg.eq_1, wpTg.eq_2, wpTgs.eq_1, wpTgs.eq_2, wipeS, List.set, sl0, List.map, List.replicate, List.length_cons, List.length_nil, Nat.sub_self, Nat.reduceSub, Nat.reduceAdd, List.cons_append, List.nil_append, if_true]
    refine F.h43 _ _ _ ⟨rfl, by omega, fun dr hdr => ?_⟩
    refine F.h44 _ _ ⟨dr, 0, G.n, rfl, (fun e => by rw [e] at hdr; simp at hdr), by omega, fun ns h1 h2 h3 => ⟨congrArg (fun b => b || _) (flat_ltD ns), ns, h1, h2, h3, rfl⟩⟩
  rintro Γ g8 ⟨ns, h1, h2, h3, rfl⟩
  exact l75_9 F G og a b ha hn ns h1 h2 h3 _ _ _ (fun _ => rfl)
end
end W3
namespace W3
open PySem PySem.Spec PyProof.Rows L2
def fnm : Nat → Str := fun k => ([(0, "subsets"), (3, "pair"), (4, "vertices"), (5, "is_edge"), (6, "neighbours"), (10, "complement"), (14, "is_clique"), (18, "colours_from"), (19, "colouring"), (20, "colour_number"), (21, "greatest_clique"), (22, "greatest_loose"), (85, "degeneracy"), (105, "clique_parts"), (106, "other_edges"), (216, "longest"), (217, "arrows_by"), (32, "_law_cell"), (33, "_law_draws"), (34, "_law_pool"), (35, "_law_pick"), (36, "_law_unlike"), (37, "_law_pair"), (38, "_law_made"), (39, "_law_other"), (40, "_law_drawn"), (41, "_law_all_pairs"), (42, "_law_turned"), (43, "_law_draw_list"), (44, "_law_names")].lookup k).getD ""
def gnm : Nat → Str := fun k => if k = 0 then "MOST_VERTICES" else "NINE"
def topS (i : Nat) : Stmt := PySem.Challenge.pw_graphkinds_k75_whole_colours_and_complem.main.body.getD i (.Pass ⟨0, 0, 0, 0⟩)
def C0 : Mc := ⟨N0, defScope (topS 1), false, fnm, gnm, [], [], [], none, false⟩
theorem L0 : Looks (topS 1) C0 ["items"] [1] b0 := ⟨rfl, rfl, ⟨by rfl, by decide +kernel, by decide +kernel, by decide +kernel, by decide +kernel, by decide +kernel, by decide +kernel⟩, by decide +kernel, by decide +kernel⟩
def C3 : Mc := ⟨N3, defScope (topS 2), false, fnm, gnm, [], [], [], none, false⟩
theorem L3 : Looks (topS 2) C3 ["a", "b"] [] b3 := ⟨rfl, rfl, ⟨by rfl, by decide +kernel, by decide +kernel, by decide +kernel, by decide +kernel, by decide +kernel, by decide +kernel⟩, by decide +kernel, by decide +kernel⟩
def C4 : Mc := ⟨N4, defScope (topS 4), false, fnm, gnm, [], [], [], none, false⟩
theorem L4 : Looks (topS 4) C4 ["graph"] [] b4 := ⟨rfl, rfl, ⟨by rfl, by decide +kernel, by decide +kernel, by decide +kernel, by decide +kernel, by decide +kernel, by decide +kernel⟩, by decide +kernel, by decide +kernel⟩
def C5 : Mc := ⟨N5, defScope (topS 5), false, fnm, gnm, [3], [], [], none, false⟩
theorem L5 : Looks (topS 5) C5 ["graph", "a", "b"] [] b5 := ⟨rfl, rfl, ⟨by rfl, by decide +kernel, by decide +kernel, by decide +kernel, by decide +kernel, by decide +kernel, by decide +kernel⟩, by decide +kernel, by decide +kernel⟩
def C6 : Mc := ⟨N6, defScope (topS 6), false, fnm, gnm, [5], [], [], none, false⟩
theorem L6 : Looks (topS 6) C6 ["graph", "a"] [] b6 := ⟨rfl, rfl, ⟨by rfl, by decide +kernel, by decide +kernel, by decide +kernel, by decide +kernel, by decide +kernel, by decide +kernel⟩, by decide +kernel, by decide +kernel⟩
def C10 : Mc := ⟨N10, defScope (topS 7), false, fnm, gnm, [], [], [], none, false⟩
theorem L10 : Looks (topS 7) C10 ["graph"] [] b10 := ⟨rfl, rfl, ⟨by rfl, by decide +kernel, by decide +kernel, by decide +kernel, by decide +kernel, by decide +kernel, by decide +kernel⟩, by decide +kernel, by decide +kernel⟩
def C14 : Mc := ⟨N14, defScope (topS 8), false, fnm, gnm, [5], [], [], none, false⟩
theorem L14 : Looks (topS 8) C14 ["graph", "lot"] [] b14 := ⟨rfl, rfl, ⟨by rfl, by decide +kernel, by decide +kernel, by decide +kernel, by decide +kernel, by decide +kernel, by decide +kernel⟩, by decide +kernel, by decide +kernel⟩
def C18 : Mc := ⟨N18, defScope (topS 10), false, fnm, gnm, [5, 18], [], [], none, false⟩
theorem L18 : Looks (topS 10) C18 ["graph", "begun", "most"] [5] b18 := ⟨rfl, rfl, ⟨by rfl, by decide +kernel, by decide +kernel, by decide +kernel, by decide +kernel, by decide +kernel, by decide +kernel⟩, by decide +kernel, by decide +kernel⟩
def C19 : Mc := ⟨N19, defScope (topS 11), false, fnm, gnm, [18], [], [], none, false⟩
theorem L19 : Looks (topS 11) C19 ["graph", "most"] [] b19 := ⟨rfl, rfl, ⟨by rfl, by decide +kernel, by decide +kernel, by decide +kernel, by decide +kernel, by decide +kernel, by decide +kernel⟩, by decide +kernel, by decide +kernel⟩
def C20 : Mc := ⟨N20, defScope (topS 12), false, fnm, gnm, [19], [], [], none, false⟩
theorem L20 : Looks (topS 12) C20 ["graph"] [1] b20 := ⟨rfl, rfl, ⟨by rfl, by decide +kernel, by decide +kernel, by decide +kernel, by decide +kernel, by decide +kernel, by decide +kernel⟩, by decide +kernel, by decide +kernel⟩
def C21 : Mc := ⟨N21, defScope (topS 13), false, fnm, gnm, [0, 4, 14], [], [], none, true⟩
theorem L21 : Looks (topS 13) C21 ["graph"] [] b21 := ⟨rfl, rfl, ⟨by rfl, by decide +kernel, by decide +kernel, by decide +kernel, by decide +kernel, by decide +kernel, by decide +kernel⟩, by decide +kernel, by decide +kernel⟩
def C22 : Mc := ⟨N22, defScope (topS 14), false, fnm, gnm, [10, 21], [], [], none, false⟩
theorem L22 : Looks (topS 14) C22 ["graph"] [] b22 := ⟨rfl, rfl, ⟨by rfl, by decide +kernel, by decide +kernel, by decide +kernel, by decide +kernel, by decide +kernel, by decide +kernel⟩, by decide +kernel, by decide +kernel⟩
def C85 : Mc := ⟨N85, defScope (topS 15), false, fnm, gnm, [6], [], [], none, false⟩
theorem L85 : Looks (topS 15) C85 ["graph"] [1, 2] b85 := ⟨rfl, rfl, ⟨by rfl, by decide +kernel, by decide +kernel, by decide +kernel, by decide +kernel, by decide +kernel, by decide +kernel⟩, by decide +kernel, by decide +kernel⟩
def C105 : Mc := ⟨N105, defScope (topS 17), false, fnm, gnm, [19, 106], [], [], none, false⟩
theorem L105 : Looks (topS 17) C105 ["graph"] [1] b105 := ⟨rfl, rfl, ⟨by rfl, by decide +kernel, by decide +kernel, by decide +kernel, by decide +kernel, by decide +kernel, by decide +kernel⟩, by decide +kernel, by decide +kernel⟩
def C106 : Mc := ⟨N106, defScope (topS 18), false, fnm, gnm, [5], [], [], none, false⟩
theorem L106 : Looks (topS 18) C106 ["graph"] [] b106 := ⟨rfl, rfl, ⟨by rfl, by decide +kernel, by decide +kernel, by decide +kernel, by decide +kernel, by decide +kernel, by decide +kernel⟩, by decide +kernel, by decide +kernel⟩
def C216 : Mc := ⟨N216, defScope (topS 19), false, fnm, gnm, [], [], [], none, false⟩
theorem L216 : Looks (topS 19) C216 ["n", "arrows"] [2] b216 := ⟨rfl, rfl, ⟨by rfl, by decide +kernel, by decide +kernel, by decide +kernel, by decide +kernel, by decide +kernel, by decide +kernel⟩, by decide +kernel, by decide +kernel⟩
def C217 : Mc := ⟨N217, defScope (topS 20), false, fnm, gnm, [], [], [], none, false⟩
theorem L217 : Looks (topS 20) C217 ["graph", "colours"] [] b217 := ⟨rfl, rfl, ⟨by rfl, by decide +kernel, by decide +kernel, by decide +kernel, by decide +kernel, by decide +kernel, by decide +kernel⟩, by decide +kernel, by decide +kernel⟩
def C33 : Mc := ⟨N33, defScope (topS 23), false, fnm, gnm, [], [], [], none, false⟩
theorem L33 : Looks (topS 23) C33 ["cell", "amount"] [2] b33 := ⟨rfl, rfl, ⟨by rfl, by decide +kernel, by decide +kernel, by decide +kernel, by decide +kernel, by decide +kernel, by decide +kernel⟩, by decide +kernel, by decide +kernel⟩
def C36 : Mc := ⟨N36, defScope (topS 26), false, fnm, gnm, [], [], [], none, false⟩
theorem L36 : Looks (topS 26) C36 ["items"] [1] b36 := ⟨rfl, rfl, ⟨by rfl, by decide +kernel, by decide +kernel, by decide +kernel, by decide +kernel, by decide +kernel, by decide +kernel⟩, by decide +kernel, by decide +kernel⟩
def C37 : Mc := ⟨N37, defScope (topS 27), false, fnm, gnm, [], [], [], none, false⟩
theorem L37 : Looks (topS 27) C37 ["a", "b"] [] b37 := ⟨rfl, rfl, ⟨by rfl, by decide +kernel, by decide +kernel, by decide +kernel, by decide +kernel, by decide +kernel, by decide +kernel⟩, by decide +kernel, by decide +kernel⟩
def C38 : Mc := ⟨N38, defScope (topS 28), false, fnm, gnm, [36, 37], [], [], none, false⟩
theorem L38 : Looks (topS 28) C38 ["n", "pairs"] [] b38 := ⟨rfl, rfl, ⟨by rfl, by decide +kernel, by decide +kernel, by decide +kernel, by decide +kernel, by decide +kernel, by decide +kernel⟩, by decide +kernel, by decide +kernel⟩
def C39 : Mc := ⟨N39, defScope (topS 29), false, fnm, gnm, [], [], [], none, false⟩
theorem L39 : Looks (topS 29) C39 ["g"] [] b39 := ⟨rfl, rfl, ⟨by rfl, by decide +kernel, by decide +kernel, by decide +kernel, by decide +kernel, by decide +kernel, by decide +kernel⟩, by decide +kernel, by decide +kernel⟩
def C40 : Mc := ⟨N40, defScope (topS 30), false, fnm, gnm, [38, 39, 41, 42, 44], [35, 43], [], some 0, false⟩
theorem L40 : Looks (topS 30) C40 ["pool", "low", "most"] [6] b40 := ⟨rfl, rfl, ⟨by rfl, by decide +kernel, by decide +kernel, by decide +kernel, by decide +kernel, by decide +kernel, by decide +kernel⟩, by decide +kernel, by decide +kernel⟩
def C41 : Mc := ⟨N41, defScope (topS 31), false, fnm, gnm, [], [], [], none, false⟩
theorem L41 : Looks (topS 31) C41 ["n"] [1] b41 := ⟨rfl, rfl, ⟨by rfl, by decide +kernel, by decide +kernel, by decide +kernel, by decide +kernel, by decide +kernel, by decide +kernel⟩, by decide +kernel, by decide +kernel⟩
def C42 : Mc := ⟨N42, defScope (topS 32), false, fnm, gnm, [38], [], [], none, false⟩
theorem L42 : Looks (topS 32) C42 ["g", "names"] [] b42 := ⟨rfl, rfl, ⟨by rfl, by decide +kernel, by decide +kernel, by decide +kernel, by decide +kernel, by decide +kernel, by decide +kernel⟩, by decide +kernel, by decide +kernel⟩
def C43 : Mc := ⟨N43, defScope (topS 33), false, fnm, gnm, [], [35], [], some 0, false⟩
theorem L43 : Looks (topS 33) C43 ["pool"] [] b43 := ⟨rfl, rfl, ⟨by rfl, by decide +kernel, by decide +kernel, by decide +kernel, by decide +kernel, by decide +kernel, by decide +kernel⟩, by decide +kernel, by decide +kernel⟩
def C44 : Mc := ⟨N44, defScope (topS 34), false, fnm, gnm, [], [], [], none, false⟩
theorem L44 : Looks (topS 34) C44 ["draws", "at", "n"] [3, 4] b44 := ⟨rfl, rfl, ⟨by rfl, by decide +kernel, by decide +kernel, by decide +kernel, by decide +kernel, by decide +kernel, by decide +kernel⟩, by decide +kernel, by decide +kernel⟩
end W3
namespace W3
open PySem PySem.Spec PyProof.Rows L2 NdefX LamX
abbrev PrN := List D → (D → Prop) → Prop
abbrev PrP := List D → Nat → Kc → Prop
def mkFam (l : List (Nat × PrN)) (lp : List (Nat × PrP)) : Fam :=
  ⟨fun f ds Q => ∃ (s : PrN) (Q0 : D → Prop), l.lookup f = some s ∧ (∀ d, Q0 d → Q d) ∧ s ds Q0,
   fun f ds g Q => ∃ (s : PrP) (Q0 : Kc), lp.lookup f = some s ∧ (∀ d g, Q0 d g → Q d g) ∧ s ds g Q0⟩
section
variable {l : List (Nat × PrN)} {lp : List (Nat × PrP)}
theorem mkFam_mono : (mkFam l lp).Mono :=
  ⟨fun f ds P Q h ⟨s, Q0, e, k, z⟩ => ⟨s, Q0, e, fun d q => h d (k d q), z⟩, fun f ds g P Q h ⟨s, Q0, e, k, z⟩ => ⟨s, Q0, e, fun d g q => h d g (k d g q), z⟩⟩
def HasN (Φ : Fam) (f : Nat) (sp : PrN) : Prop := ∀ ds Q, sp ds Q → Φ.sp f ds Q
theorem has_of {f : Nat} {s : PrN} (e : l.lookup f = some s) : ∀ ds Q, s ds Q → (mkFam l lp).sp f ds Q := fun ds Q h => ⟨s, Q, e, fun _ h => h, h⟩
theorem hasP_of {f : Nat} {s : PrP} (e : lp.lookup f = some s) : ∀ ds g Q, s ds g Q → (mkFam l lp).spP f ds g Q := fun ds g Q h => ⟨s, Q, e, fun _ _ h => h, h⟩
variable {P : Program} {w : World} {K : PySem.W.Frag} {mg : Str → Option Value} {base : Heap}
theorem dn {T : List NTab} {k : Nat} {C : Mc} {x q : Str} {st : Stmt} {ps : List Str} {O : Own} {b : List Sc} (f : Nat) {s : PrN} (e : l.lookup f = some s) (d : DefAt K mg x q st) (L : Looks st C ps O b) (hpl : C.pl = none) (hc : Calls P w K mg base T (mkFam l lp) k C) (hl : C.lam = true → 2 ≤ k ∧ ∀ fa fd, mg x = some (.ref fa) → Fun K x q st fa fd → LamD mg base T q fd.code)
    (hb : ∀ (kV doc pm : Value) (an : Option Addr) (cdv ct : Value) (us : List Value), us.length = ps.length → bindArgs (PySem.W.fnOf x q (defArgs st) (defBody st) (defScope st) .none kV doc pm an cdv ct) ⟨us, []⟩ = pure (ps.zip us))
    (hlen : ∀ ds Q, s ds Q → ds.length = ps.length) (hw : ∀ ds Q, s ds Q → wpB (mkFam l lp) O b (sl0 C.N ds) 0 { nx := fun _ _ => Q .none, rt := fun d _ => Q d }) :
    DefOk P w K mg base (k + 1) x (spN T K ((mkFam l lp).sp f)) := by
  refine def_n mkFam_mono d L hpl hc hl hb (fun ds Q h => ?_) fun ds Q h => ?_
  · obtain ⟨s', Q0, e', _, h⟩ := h
    cases e.symm.trans e'
    exact hlen ds Q0 h
  · obtain ⟨s', Q0, e', k, h⟩ := h
    cases e.symm.trans e'
    exact wpB_mono mkFam_mono (K := { nx := fun _ _ => Q0 .none, rt := fun d _ => Q0 d }) ⟨fun _ _ q => k _ q, fun _ _ q => k _ q, fun _ _ z => False.elim z, fun _ _ z => False.elim z⟩ (hw ds Q0 h)
theorem dp {T : List NTab} {k : Nat} {C : Mc} {x q : Str} {st : Stmt} {p0 : Str} {ps : List Str} {O : Own} {b : List Sc} (f : Nat) {s : PrP} (e : lp.lookup f = some s) (d : DefAt K mg x q st) (L : Looks st C (p0 :: ps) O b) (hpl : C.pl = some 0) (hc : Calls P w K mg base T (mkFam l lp) k C) (hl : C.lam = true → 2 ≤ k ∧ ∀ fa fd, mg x = some (.ref fa) → Fun K x q st fa fd → LamD mg base T q fd.code)
    (hb : ∀ (kV doc pm : Value) (an : Option Addr) (cdv ct : Value) (us : List Value), us.length = (p0 :: ps).length → bindArgs (PySem.W.fnOf x q (defArgs st) (defBody st) (defScope st) .none kV doc pm an cdv ct) ⟨us, []⟩ = pure ((p0 :: ps).zip us))
    (hlen : ∀ ds g Q, s ds g Q → ds.length = ps.length) (hw : ∀ ds g Q, s ds g Q → wpB (mkFam l lp) O b (none :: sl0 C.N.tail ds) g { nx := fun _ g' => Q .none g', rt := Q }) :
    DefOk P w K mg base (k + 1) x (spPl T K ((mkFam l lp).spP f)) := by
  refine def_p mkFam_mono d L hpl hc hl hb (fun ds g Q h => ?_) fun ds g Q h => ?_
  · obtain ⟨s', Q0, e', _, h⟩ := h
    cases e.symm.trans e'
    exact hlen ds g Q0 h
  · obtain ⟨s', Q0, e', k, h⟩ := h
    cases e.symm.trans e'
    exact wpB_mono mkFam_mono (K := { nx := fun _ g' => Q0 .none g', rt := Q0 }) ⟨fun _ _ q => k _ _ q, fun _ _ q => k _ _ q, fun _ _ z => False.elim z, fun _ _ z => False.elim z⟩ (hw ds g Q0 h)
/-- a promise by hand, as the family has it -/
theorem dn_up {T : List NTab} {k : Nat} {x : Str} (f : Nat) {s : PrN} (e : l.lookup f = some s) (d : DefOk P w K mg base k x (spN T K s)) (m : ∀ ds (Q0 Q : D → Prop), (∀ d, Q0 d → Q d) → s ds Q0 → s ds Q) : DefOk P w K mg base k x (spN T K ((mkFam l lp).sp f)) :=
  d.imp fun vs H Q E ⟨ds, fp, h1, h2, s', Q0, e', k, h⟩ => by
    cases e.symm.trans e'
    exact ⟨ds, fp, h1, h2, m _ _ _ k h⟩
theorem dp_up {T : List NTab} {k : Nat} {x : Str} (f : Nat) {s : PrP} (e : lp.lookup f = some s) (d : DefOk P w K mg base k x (spPl T K s)) (m : ∀ ds g (Q0 Q : Kc), (∀ d g, Q0 d g → Q d g) → s ds g Q0 → s ds g Q) : DefOk P w K mg base k x (spPl T K ((mkFam l lp).spP f)) :=
  d.imp fun vs H Q E ⟨r, p, vs', ds, fp, g, h1, h2, h3, h4, h5, s', Q0, e', k, h⟩ => by
    cases e.symm.trans e'
    exact ⟨r, p, vs', ds, fp, g, h1, h2, h3, h4, h5, m _ _ _ _ k h⟩
theorem pick_up : ∀ ds g (Q0 Q : Kc), (∀ d g, Q0 d g → Q d g) → spPick ds g Q0 → spPick ds g Q := fun ds g Q0 Q k ⟨a, h1, h2, h3, h4⟩ => ⟨a, h1, h2, h3, fun r hr => k _ _ (h4 r hr)⟩
theorem draws_dn {T : List NTab} {k : Nat} {x : Str} (f : Nat) (e : l.lookup f = some spDraws) (d : DefOk P w K mg base k x (spN T K ((mkFam l lp).sp f))) : DefOk P w K mg base k x (spN T K spDraws) :=
  d.imp fun vs H Q E ⟨ds, fp, h1, h2, h⟩ => ⟨ds, fp, h1, h2, spDraws, _, e, fun _ h => h, h⟩
end
theorem all_nil {p : Nat → Prop} : ∀ f ∈ ([] : List Nat), p f := fun _ h => nomatch h
theorem all_cons {p : Nat → Prop} {a : Nat} {l : List Nat} (h : p a) (k : ∀ f ∈ l, p f) : ∀ f ∈ a :: l, p f := fun f hf => by
  rcases List.mem_cons.mp hf with e | hf
  · rw [e]; exact h
  · exact k f hf
theorem g_int {K : PySem.W.Frag} {mg : Str → Option Value} {x : Str} {i : Int} {k : Nat} (h : ∃ u, mg x = some u ∧ RelV (.int i) u) (e : gd k = .int i) : ∃ u v, mg x = some u ∧ RelV v u ∧ ∀ H, Rp K H v (gd k) [] :=
  let ⟨u, h, r⟩ := h
  ⟨u, .int i, h, r, fun H => by rw [e]; exact .int i⟩
end W3
namespace W3
open PySem PySem.Spec PyProof.Rows L2 NdefX LamX
theorem bi_mk {mg : Str → Option Value} (b0 : mg "len" = none) (b1 : mg "tuple" = none) (b2 : mg "list" = none) (b3 : mg "sum" = none) (b4 : mg "all" = none) (b5 : mg "any" = none) (b6 : mg "min" = none) (b7 : mg "max" = none) (b8 : mg "sorted" = none) (b9 : mg "int" = none) (b10 : mg "abs" = none) (b11 : mg "set" = none) (b12 : mg "range" = none) (b13 : mg "isinstance" = none) : ∀ b ∈ bNames, mg b = none := by
  intro b hb
  simp only [bNames, List.mem_cons, List.not_mem_nil, or_false] at hb
  rcases hb with rfl | rfl | rfl | rfl | rfl | rfl | rfl | rfl | rfl | rfl | rfl | rfl | rfl | rfl <;> assumption
theorem bind1 {K : PySem.W.Frag} {st : Stmt} {fa : Addr} {fd : FuncData} (F : Fun K "law" "law" st fa fd)
    (h : ∀ (kV doc pm : Value) (an : Option Addr) (cdv ct : Value) (s : Shared) (v : Value), BindsTo s (PySem.W.fnOf "law" "law" (defArgs st) (defBody st) (defScope st) .none kV doc pm an cdv ct) ⟨[v], []⟩ [("script", v)]) :
    ∀ (s : Shared) (v : Value), BindsTo s fd ⟨[v], []⟩ [("script", v)] := by
  obtain ⟨oc, od, kV, doc, pm, an, cdv, ct, osl, rfl, _, _⟩ := F.ex
  exact fun s v => h _ _ _ _ _ _ s v
end W3
namespace W3
open PySem PySem.Spec PyProof.Rows L2 NdefX LamX
theorem nolam {C : Mc} {p : Prop} (e : C.lam = false) : C.lam = true → p := fun h => by rw [e] at h; cases h
/-- the tables of the defs tf -/
def ltOf (K : PySem.W.Frag) (tf : List He.Defn) : List (Addr × Str) := tf.map fun p => ((He.cT K p).2, lamQ p.1)
def tabsOf (K : PySem.W.Frag) (tf : List He.Defn) : List NTab := (ltOf K tf).map fun p => (p.1, fun _ _ => p.2)
def apart (tf : List He.Defn) (K : PySem.W.Frag) : Bool := decide (tf.map fun p => (He.cT K p).2).Nodup
theorem tabs_nil {K : PySem.W.Frag} {tf : List He.Defn} {H : Hp} (h : ∀ p ∈ tf.map (He.cT K), H p.2 = some (.tbl #[])) : TabsN (tabsOf K tf) H := fun p hp => by
  obtain ⟨q, hq, rfl⟩ := List.mem_map.mp hp
  obtain ⟨d, hd, rfl⟩ := List.mem_map.mp hq
  exact TabN.nil (h _ (List.mem_map.mpr ⟨d, hd, rfl⟩))
theorem nodup_at {α β : Type} {f : α → β} : ∀ {l : List α}, (l.map f).Nodup → ∀ {x y : α}, x ∈ l → y ∈ l → f x = f y → x = y
  | a :: l, hn, x, y, hx, hy, e => by
    rw [List.map_cons, List.nodup_cons] at hn
    rcases List.mem_cons.mp hx with h1 | h1 <;> rcases List.mem_cons.mp hy with h2 | h2
    · rw [h1, h2]
    · rw [h1] at e
      exact absurd (List.mem_map.mpr ⟨y, h2, e.symm⟩) hn.1
    · rw [h2] at e
      exact absurd (List.mem_map.mpr ⟨x, h1, e⟩) hn.1
    · exact nodup_at hn.2 h1 h2 e
theorem lamD_of {K : PySem.W.Frag} {mg : Str → Option Value} {base : Heap} {tf : List He.Defn} (nd : apart tf K = true) {x : Str} {st : Stmt} (hx : (x, none) ∈ tf) (hT : ∀ p ∈ tf.map (He.cT K), TabB base mg p.1 p.2) (hg : mg x = some (.ref (He.ga K x)))
    {fa : Addr} {fd : FuncData} (hm : mg x = some (.ref fa)) (F : Fun K x x st fa fd) : LamD mg base (tabsOf K tf) x fd.code := by
  obtain ⟨oc, od, kV, doc, pm, an, cdv, ct, osl, rfl, lk, hcd⟩ := F.ex
  rw [hg] at hm
  cases hm
  obtain ⟨c, rfl⟩ := He.codeIn_ref hcd
  have e : He.codeOf K (x, none) = c := He.codeOf_eq (p := (x, none)) lk rfl
  refine ⟨⟨ltOf K tf, c, (He.cT K (x, none)).2, rfl, ?_, rfl, List.mem_map.mpr ⟨_, hx, rfl⟩, fun p hp h => ?_⟩⟩
  · have := hT _ (List.mem_map.mpr ⟨_, hx, rfl⟩)
    rw [show (He.cT K (x, none)).1 = c from e] at this
    exact this
  · obtain ⟨d, hd, rfl⟩ := List.mem_map.mp hp
    have : d = (x, none) := nodup_at (f := fun p => (He.cT K p).2) (of_decide_eq_true nd) hd hx h
    rw [this]
/-- a def with no defaults -/
theorem funD_fun {K : PySem.W.Frag} {x : Str} {st : Stmt} {f : Addr} {fd : FuncData} (F : FunD K x x (defArgs st) (defBody st) (defScope st) [] [] f fd) : Fun K x x st f fd := by
  obtain ⟨oc, od, dV, kV, doc, pm, an, cdv, ct, osl, rfl, lk, hcd, hD, _⟩ := F.ex
  rcases hD with ⟨_, e⟩ | ⟨h, _⟩
  · subst e
    exact ⟨⟨oc, od, kV, doc, pm, an, cdv, ct, osl, rfl, lk, hcd⟩, F.kp⟩
  · exact absurd rfl h
/-- a def as the head's Hook tells it -/
def dfO (x : Str) (st : Stmt) : He.DefD := { at_ := (x, none), name := x, qual := x, params := defArgs st, body := defBody st, scope := defScope st }
theorem defAt_of {K : PySem.W.Frag} {mg : Str → Option Value} {fa : List He.Fa} {fn : List He.DefD} (c : He.SaysD fa fn K) {x : Str} {st : Stmt} (h : dfO x st ∈ fn) (hg : mg x = some (.ref (He.ga K x))) : DefAt K mg x x st := by
  obtain ⟨fd, F⟩ := c.defs h
  exact ⟨⟨He.ga K x, fd, hg, funD_fun F⟩⟩
end W3
namespace W3
open PySem PySem.Spec PyProof.Rows L2 NdefX LamX
section
variable {P : Program} {w : World} {K : PySem.W.Frag} {mg : Str → Option Value} {base : Heap}
/-- a promise that nobody can ask for -/
theorem def_never {k : Nat} {x q : Str} {st : Stmt} {ps : List Str} (d : DefAt K mg x q st)
    (hb : ∀ (kV doc pm : Value) (an : Option Addr) (cdv ct : Value) (us : List Value), us.length = ps.length → bindArgs (PySem.W.fnOf x q (defArgs st) (defBody st) (defScope st) .none kV doc pm an cdv ct) ⟨us, []⟩ = pure (ps.zip us))
    {sp : Sp} (h : ∀ vs H Q E, ¬ sp vs H Q E) : DefOk P w K mg base k x sp := by
  obtain ⟨fa, fd, hm, F0⟩ := d.ex
  exact ⟨fa, fd, ps, ⟨fun vs H Q E z => absurd z (h _ _ _ _), fun A outer s H args us vs Q E hr e0 hb r hsp => absurd hsp (h _ _ _ _)⟩, hm, F0.kp, F0.binds hb⟩
theorem dn_tr {T : List NTab} {k : Nat} {x : Str} {l l' : List (Nat × PrN)} {lp lp' : List (Nat × PrP)} (f : Nat) {s : PrN} (e : l.lookup f = some s) (e' : l'.lookup f = some s) (d : DefOk P w K mg base k x (spN T K ((mkFam l lp).sp f))) : DefOk P w K mg base k x (spN T K ((mkFam l' lp').sp f)) :=
  d.imp fun vs H Q E ⟨ds, fp, h1, h2, s', Q0, e2, m, h⟩ => by
    cases e'.symm.trans e2
    exact ⟨ds, fp, h1, h2, s, Q0, e, m, h⟩
theorem spC_up (j : Nat) : ∀ ds (Q0 Q : D → Prop), (∀ d, Q0 d → Q d) → spC j ds Q0 → spC j ds Q := fun ds Q0 Q k ⟨g, c, most, h1, h2, h3⟩ => ⟨g, c, most, h1, h2, k _ h3⟩
/-- the search for colours, by the number of vertices without one -/
theorem def_cols {T : List NTab} {l : List (Nat × PrN)} {lp : List (Nat × PrP)} {k : Nat} {C : Mc} {st : Stmt} (d : DefAt K mg "colours_from" "colours_from" st) (L : Looks st C ["graph", "begun", "most"] [5] b18) (hN : C.N = N18) (hpl : C.pl = none) (hlam : C.lam = false) (hfs : C.fs = [5, 18]) (hfp : C.fsP = []) (hgs : C.gs = [])
    (n5 : C.fnm 5 = "is_edge") (n18 : C.fnm 18 = "colours_from") (bi : ∀ b ∈ bNames, mg b = none) (e5 : l.lookup 5 = some sp5) (h5 : DefOk P w K mg base k "is_edge" (spN T K ((mkFam l lp).sp 5)))
    (hb : ∀ (kV doc pm : Value) (an : Option Addr) (cdv ct : Value) (us : List Value), us.length = 3 → bindArgs (PySem.W.fnOf "colours_from" "colours_from" (defArgs st) (defBody st) (defScope st) .none kV doc pm an cdv ct) ⟨us, []⟩ = pure ((["graph", "begun", "most"] : List Str).zip us)) :
    ∀ j, DefOk P w K mg base (k + j) "colours_from" (spN T K (spC j))
  | 0 => def_never (ps := ["graph", "begun", "most"]) d hb fun vs H Q E ⟨ds, fp, h1, h2, g, c, most, h3, ⟨_, h4, h5, _⟩, _⟩ => by omega
  | j + 1 => by
    have ih := def_cols d L hN hpl hlam hfs hfp hgs n5 n18 bi e5 h5 hb j
    have M : (mkFam [(5, sp5), (18, spC j)] []).Mono := mkFam_mono
    refine def_n (F := spC (j + 1)) M d L hpl ⟨bi, ?_, ?_, ?_⟩ (nolam hlam) hb ?_ ?_
    · rw [hfs]
      refine all_cons ?_ (all_cons ?_ all_nil)
      · rw [n5]
        exact dn_tr 5 e5 rfl (h5.mono (Nat.le_add_right _ _))
      · rw [n18]
        exact dn_up 18 rfl ih (spC_up j)
    · rw [hfp]; exact all_nil
    · rw [hgs]; exact fun f hf => nomatch hf
    · rintro ds Q ⟨g, c, most, rfl, _⟩
      rfl
    · intro ds Q h
      rw [hN]
      exact w18s M (has_of rfl) (has_of rfl) h
end
end W3
namespace W3
open PySem PySem.Spec PyProof.Rows L2 NdefX LamX
def fl75 : List (Nat × PrN) := [(0, sp0), (3, sp3), (4, sp4), (5, sp5), (6, sp6), (10, sp10), (14, sp14), (18, sp18), (19, sp19), (20, sp20), (21, sp21), (22, sp22), (85, sp85), (105, sp105), (106, sp106), (216, sp216), (217, sp217), (33, spDraws), (36, sp36), (37, sp37), (38, sp38), (39, sp39), (41, sp41), (42, sp42), (44, sp44)]
def fp75 : List (Nat × PrP) := [(35, spPick), (40, sp40), (43, sp43)]
abbrev Fm75 : Fam := mkFam fl75 fp75
theorem h75_0 : Has Fm75 0 sp0 := has_of rfl
theorem h75_3 : Has Fm75 3 sp3 := has_of rfl
theorem h75_4 : Has Fm75 4 sp4 := has_of rfl
theorem h75_5 : Has Fm75 5 sp5 := has_of rfl
theorem h75_6 : Has Fm75 6 sp6 := has_of rfl
theorem h75_10 : Has Fm75 10 sp10 := has_of rfl
theorem h75_14 : Has Fm75 14 sp14 := has_of rfl
theorem h75_18 : Has Fm75 18 sp18 := has_of rfl
theorem h75_19 : Has Fm75 19 sp19 := has_of rfl
theorem h75_20 : Has Fm75 20 sp20 := has_of rfl
theorem h75_21 : Has Fm75 21 sp21 := has_of rfl
theorem h75_22 : Has Fm75 22 sp22 := has_of rfl
theorem h75_85 : Has Fm75 85 sp85 := has_of rfl
theorem h75_105 : Has Fm75 105 sp105 := has_of rfl
theorem h75_106 : Has Fm75 106 sp106 := has_of rfl
theorem h75_216 : Has Fm75 216 sp216 := has_of rfl
theorem h75_217 : Has Fm75 217 sp217 := has_of rfl
theorem h75_33 : Has Fm75 33 spDraws := has_of rfl
theorem h75_36 : Has Fm75 36 sp36 := has_of rfl
theorem h75_37 : Has Fm75 37 sp37 := has_of rfl
theorem h75_38 : Has Fm75 38 sp38 := has_of rfl
theorem h75_39 : Has Fm75 39 sp39 := has_of rfl
theorem h75_41 : Has Fm75 41 sp41 := has_of rfl
theorem h75_42 : Has Fm75 42 sp42 := has_of rfl
theorem h75_44 : Has Fm75 44 sp44 := has_of rfl
theorem h75_35 : HasP Fm75 35 spPick := hasP_of rfl
theorem h75_40 : HasP Fm75 40 sp40 := hasP_of rfl
theorem h75_43 : HasP Fm75 43 sp43 := hasP_of rfl
def CLw75 : Mc := ⟨NL75, defScope (topS 35), false, fnm, gnm, [10, 19, 20, 21, 22, 37, 44, 85, 105, 216, 217], [40, 43], [], some 1, false⟩
theorem LLw75 : LooksL (topS 35) CLw75 1 [] bL75 := ⟨rfl, rfl, ⟨by rfl, by decide +kernel, by decide +kernel, by decide +kernel, by decide +kernel, by decide +kernel, by decide +kernel⟩, by rfl, by rfl, by decide, by decide +kernel, by decide +kernel, by decide +kernel, by decide +kernel, by decide +kernel⟩
structure All75 (K : PySem.W.Frag) (mg : Str → Option Value) : Prop where
  d1 : DefAt K mg "subsets" "subsets" (topS 1)
  d2 : DefAt K mg "pair" "pair" (topS 2)
  d4 : DefAt K mg "vertices" "vertices" (topS 4)
  d5 : DefAt K mg "is_edge" "is_edge" (topS 5)
  d6 : DefAt K mg "neighbours" "neighbours" (topS 6)
  d7 : DefAt K mg "complement" "complement" (topS 7)
  d8 : DefAt K mg "is_clique" "is_clique" (topS 8)
  d10 : DefAt K mg "colours_from" "colours_from" (topS 10)
  d11 : DefAt K mg "colouring" "colouring" (topS 11)
  d12 : DefAt K mg "colour_number" "colour_number" (topS 12)
  d13 : DefAt K mg "greatest_clique" "greatest_clique" (topS 13)
  d14 : DefAt K mg "greatest_loose" "greatest_loose" (topS 14)
  d15 : DefAt K mg "degeneracy" "degeneracy" (topS 15)
  d17 : DefAt K mg "clique_parts" "clique_parts" (topS 17)
  d18 : DefAt K mg "other_edges" "other_edges" (topS 18)
  d19 : DefAt K mg "longest" "longest" (topS 19)
  d20 : DefAt K mg "arrows_by" "arrows_by" (topS 20)
  d22 : DefAt K mg "_law_cell" "_law_cell" (topS 22)
  d23 : DefAt K mg "_law_draws" "_law_draws" (topS 23)
  d24 : DefAt K mg "_law_pool" "_law_pool" (topS 24)
  d25 : DefAt K mg "_law_pick" "_law_pick" (topS 25)
  d26 : DefAt K mg "_law_unlike" "_law_unlike" (topS 26)
  d27 : DefAt K mg "_law_pair" "_law_pair" (topS 27)
  d28 : DefAt K mg "_law_made" "_law_made" (topS 28)
  d29 : DefAt K mg "_law_other" "_law_other" (topS 29)
  d30 : DefAt K mg "_law_drawn" "_law_drawn" (topS 30)
  d31 : DefAt K mg "_law_all_pairs" "_law_all_pairs" (topS 31)
  d32 : DefAt K mg "_law_turned" "_law_turned" (topS 32)
  d33 : DefAt K mg "_law_draw_list" "_law_draw_list" (topS 33)
  d34 : DefAt K mg "_law_names" "_law_names" (topS 34)
  d35 : DefAt K mg "law" "law" (topS 35)
  bi : ∀ b ∈ bNames, mg b = none
structure Lm75 (K : PySem.W.Frag) (mg : Str → Option Value) (base : Heap) (T : List NTab) : Prop where
  l13 : ∀ fa fd, mg "greatest_clique" = some (.ref fa) → Fun K "greatest_clique" "greatest_clique" (topS 13) fa fd → LamD mg base T "greatest_clique" fd.code
section
variable {w : World} {K : PySem.W.Frag} {mg : Str → Option Value} {base : Heap}
theorem Dsubsets {T : List NTab} (A : All75 K mg) (B : Lm75 K mg base T) : DefOk PySem.Challenge.pw_graphkinds_k75_whole_colours_and_complem w K mg base 1 "subsets" (spN T K (Fm75.sp 0)) := dn 0 rfl A.d1 L0 rfl ⟨A.bi, all_nil, all_nil, all_nil⟩ (nolam rfl) (by intro kV doc pm an cdv ct us h; match us, h with | [_], _ => rfl) (by intro ds Q h; unfold sp0 at h; first | (rcases h with h | h <;> first | (obtain ⟨rfl, _⟩ := h; rfl) | (obtain ⟨_, rfl, _⟩ := h; rfl) | (obtain ⟨_, _, rfl, _⟩ := h; rfl) | (obtain ⟨_, _, _, rfl, _⟩ := h; rfl) | (obtain ⟨_, _, _, _, rfl, _⟩ := h; rfl) | (obtain ⟨_, _, _, _, _, rfl, _⟩ := h; rfl) | (obtain ⟨_, _, _, _, _, _, rfl, _⟩ := h; rfl) | (obtain ⟨_, _, _, _, _, _, _, rfl, _⟩ := h; rfl)) | (obtain ⟨rfl, _⟩ := h; rfl) | (obtain ⟨_, rfl, _⟩ := h; rfl) | (obtain ⟨_, _, rfl, _⟩ := h; rfl) | (obtain ⟨_, _, _, rfl, _⟩ := h; rfl) | (obtain ⟨_, _, _, _, rfl, _⟩ := h; rfl) | (obtain ⟨_, _, _, _, _, rfl, _⟩ := h; rfl) | (obtain ⟨_, _, _, _, _, _, rfl, _⟩ := h; rfl) | (obtain ⟨_, _, _, _, _, _, _, rfl, _⟩ := h; rfl)) fun ds Q h => w0  h
theorem Dpair {T : List NTab} (A : All75 K mg) (B : Lm75 K mg base T) : DefOk PySem.Challenge.pw_graphkinds_k75_whole_colours_and_complem w K mg base 1 "pair" (spN T K (Fm75.sp 3)) := dn 3 rfl A.d2 L3 rfl ⟨A.bi, all_nil, all_nil, all_nil⟩ (nolam rfl) (by intro kV doc pm an cdv ct us h; match us, h with | [_, _], _ => rfl) (by intro ds Q h; unfold sp3 at h; first | (rcases h with h | h <;> first | (obtain ⟨rfl, _⟩ := h; rfl) | (obtain ⟨_, rfl, _⟩ := h; rfl) | (obtain ⟨_, _, rfl, _⟩ := h; rfl) | (obtain ⟨_, _, _, rfl, _⟩ := h; rfl) | (obtain ⟨_, _, _, _, rfl, _⟩ := h; rfl) | (obtain ⟨_, _, _, _, _, rfl, _⟩ := h; rfl) | (obtain ⟨_, _, _, _, _, _, rfl, _⟩ := h; rfl) | (obtain ⟨_, _, _, _, _, _, _, rfl, _⟩ := h; rfl)) | (obtain ⟨rfl, _⟩ := h; rfl) | (obtain ⟨_, rfl, _⟩ := h; rfl) | (obtain ⟨_, _, rfl, _⟩ := h; rfl) | (obtain ⟨_, _, _, rfl, _⟩ := h; rfl) | (obtain ⟨_, _, _, _, rfl, _⟩ := h; rfl) | (obtain ⟨_, _, _, _, _, rfl, _⟩ := h; rfl) | (obtain ⟨_, _, _, _, _, _, rfl, _⟩ := h; rfl) | (obtain ⟨_, _, _, _, _, _, _, rfl, _⟩ := h; rfl)) fun ds Q h => w3  h
theorem Dvertices {T : List NTab} (A : All75 K mg) (B : Lm75 K mg base T) : DefOk PySem.Challenge.pw_graphkinds_k75_whole_colours_and_complem w K mg base 1 "vertices" (spN T K (Fm75.sp 4)) := dn 4 rfl A.d4 L4 rfl ⟨A.bi, all_nil, all_nil, all_nil⟩ (nolam rfl) (by intro kV doc pm an cdv ct us h; match us, h with | [_], _ => rfl) (by intro ds Q h; unfold sp4 at h; first | (rcases h with h | h <;> first | (obtain ⟨rfl, _⟩ := h; rfl) | (obtain ⟨_, rfl, _⟩ := h; rfl) | (obtain ⟨_, _, rfl, _⟩ := h; rfl) | (obtain ⟨_, _, _, rfl, _⟩ := h; rfl) | (obtain ⟨_, _, _, _, rfl, _⟩ := h; rfl) | (obtain ⟨_, _, _, _, _, rfl, _⟩ := h; rfl) | (obtain ⟨_, _, _, _, _, _, rfl, _⟩ := h; rfl) | (obtain ⟨_, _, _, _, _, _, _, rfl, _⟩ := h; rfl)) | (obtain ⟨rfl, _⟩ := h; rfl) | (obtain ⟨_, rfl, _⟩ := h; rfl) | (obtain ⟨_, _, rfl, _⟩ := h; rfl) | (obtain ⟨_, _, _, rfl, _⟩ := h; rfl) | (obtain ⟨_, _, _, _, rfl, _⟩ := h; rfl) | (obtain ⟨_, _, _, _, _, rfl, _⟩ := h; rfl) | (obtain ⟨_, _, _, _, _, _, rfl, _⟩ := h; rfl) | (obtain ⟨_, _, _, _, _, _, _, rfl, _⟩ := h; rfl)) fun ds Q h => w4  h
theorem Dcomplement {T : List NTab} (A : All75 K mg) (B : Lm75 K mg base T) : DefOk PySem.Challenge.pw_graphkinds_k75_whole_colours_and_complem w K mg base 1 "complement" (spN T K (Fm75.sp 10)) := dn 10 rfl A.d7 L10 rfl ⟨A.bi, all_nil, all_nil, all_nil⟩ (nolam rfl) (by intro kV doc pm an cdv ct us h; match us, h with | [_], _ => rfl) (by intro ds Q h; unfold sp10 at h; first | (rcases h with h | h <;> first | (obtain ⟨rfl, _⟩ := h; rfl) | (obtain ⟨_, rfl, _⟩ := h; rfl) | (obtain ⟨_, _, rfl, _⟩ := h; rfl) | (obtain ⟨_, _, _, rfl, _⟩ := h; rfl) | (obtain ⟨_, _, _, _, rfl, _⟩ := h; rfl) | (obtain ⟨_, _, _, _, _, rfl, _⟩ := h; rfl) | (obtain ⟨_, _, _, _, _, _, rfl, _⟩ := h; rfl) | (obtain ⟨_, _, _, _, _, _, _, rfl, _⟩ := h; rfl)) | (obtain ⟨rfl, _⟩ := h; rfl) | (obtain ⟨_, rfl, _⟩ := h; rfl) | (obtain ⟨_, _, rfl, _⟩ := h; rfl) | (obtain ⟨_, _, _, rfl, _⟩ := h; rfl) | (obtain ⟨_, _, _, _, rfl, _⟩ := h; rfl) | (obtain ⟨_, _, _, _, _, rfl, _⟩ := h; rfl) | (obtain ⟨_, _, _, _, _, _, rfl, _⟩ := h; rfl) | (obtain ⟨_, _, _, _, _, _, _, rfl, _⟩ := h; rfl)) fun ds Q h => w10  h
theorem Dlongest {T : List NTab} (A : All75 K mg) (B : Lm75 K mg base T) : DefOk PySem.Challenge.pw_graphkinds_k75_whole_colours_and_complem w K mg base 1 "longest" (spN T K (Fm75.sp 216)) := dn 216 rfl A.d19 L216 rfl ⟨A.bi, all_nil, all_nil, all_nil⟩ (nolam rfl) (by intro kV doc pm an cdv ct us h; match us, h with | [_, _], _ => rfl) (by intro ds Q h; unfold sp216 at h; first | (rcases h with h | h <;> first | (obtain ⟨rfl, _⟩ := h; rfl) | (obtain ⟨_, rfl, _⟩ := h; rfl) | (obtain ⟨_, _, rfl, _⟩ := h; rfl) | (obtain ⟨_, _, _, rfl, _⟩ := h; rfl) | (obtain ⟨_, _, _, _, rfl, _⟩ := h; rfl) | (obtain ⟨_, _, _, _, _, rfl, _⟩ := h; rfl) | (obtain ⟨_, _, _, _, _, _, rfl, _⟩ := h; rfl) | (obtain ⟨_, _, _, _, _, _, _, rfl, _⟩ := h; rfl)) | (obtain ⟨rfl, _⟩ := h; rfl) | (obtain ⟨_, rfl, _⟩ := h; rfl) | (obtain ⟨_, _, rfl, _⟩ := h; rfl) | (obtain ⟨_, _, _, rfl, _⟩ := h; rfl) | (obtain ⟨_, _, _, _, rfl, _⟩ := h; rfl) | (obtain ⟨_, _, _, _, _, rfl, _⟩ := h; rfl) | (obtain ⟨_, _, _, _, _, _, rfl, _⟩ := h; rfl) | (obtain ⟨_, _, _, _, _, _, _, rfl, _⟩ := h; rfl)) fun ds Q h => w216  h
theorem Darrows_by {T : List NTab} (A : All75 K mg) (B : Lm75 K mg base T) : DefOk PySem.Challenge.pw_graphkinds_k75_whole_colours_and_complem w K mg base 1 "arrows_by" (spN T K (Fm75.sp 217)) := dn 217 rfl A.d20 L217 rfl ⟨A.bi, all_nil, all_nil, all_nil⟩ (nolam rfl) (by intro kV doc pm an cdv ct us h; match us, h with | [_, _], _ => rfl) (by intro ds Q h; unfold sp217 at h; first | (rcases h with h | h <;> first | (obtain ⟨rfl, _⟩ := h; rfl) | (obtain ⟨_, rfl, _⟩ := h; rfl) | (obtain ⟨_, _, rfl, _⟩ := h; rfl) | (obtain ⟨_, _, _, rfl, _⟩ := h; rfl) | (obtain ⟨_, _, _, _, rfl, _⟩ := h; rfl) | (obtain ⟨_, _, _, _, _, rfl, _⟩ := h; rfl) | (obtain ⟨_, _, _, _, _, _, rfl, _⟩ := h; rfl) | (obtain ⟨_, _, _, _, _, _, _, rfl, _⟩ := h; rfl)) | (obtain ⟨rfl, _⟩ := h; rfl) | (obtain ⟨_, rfl, _⟩ := h; rfl) | (obtain ⟨_, _, rfl, _⟩ := h; rfl) | (obtain ⟨_, _, _, rfl, _⟩ := h; rfl) | (obtain ⟨_, _, _, _, rfl, _⟩ := h; rfl) | (obtain ⟨_, _, _, _, _, rfl, _⟩ := h; rfl) | (obtain ⟨_, _, _, _, _, _, rfl, _⟩ := h; rfl) | (obtain ⟨_, _, _, _, _, _, _, rfl, _⟩ := h; rfl)) fun ds Q h => w217  h
theorem D_law_cell {T : List NTab} (A : All75 K mg) (B : Lm75 K mg base T) : DefOk PySem.Challenge.pw_graphkinds_k75_whole_colours_and_complem w K mg base 1 "_law_cell" (spCell K) := def_cell A.d22 ⟨by rfl, by decide +kernel, by decide +kernel, by decide +kernel, by decide +kernel, by decide +kernel, by decide +kernel⟩ (by decide +kernel) (by decide +kernel) (by decide +kernel) (by decide +kernel) A.bi (by intro kV doc pm an cdv ct us h; match us, h with | [_, _], _ => rfl)
theorem D_law_draws {T : List NTab} (A : All75 K mg) (B : Lm75 K mg base T) : DefOk PySem.Challenge.pw_graphkinds_k75_whole_colours_and_complem w K mg base 1 "_law_draws" (spN T K (Fm75.sp 33)) := dn 33 rfl A.d23 L33 rfl ⟨A.bi, all_nil, all_nil, all_nil⟩ (nolam rfl) (by intro kV doc pm an cdv ct us h; match us, h with | [_, _], _ => rfl) (by intro ds Q h; unfold spDraws at h; first | (rcases h with h | h <;> first | (obtain ⟨rfl, _⟩ := h; rfl) | (obtain ⟨_, rfl, _⟩ := h; rfl) | (obtain ⟨_, _, rfl, _⟩ := h; rfl) | (obtain ⟨_, _, _, rfl, _⟩ := h; rfl) | (obtain ⟨_, _, _, _, rfl, _⟩ := h; rfl) | (obtain ⟨_, _, _, _, _, rfl, _⟩ := h; rfl) | (obtain ⟨_, _, _, _, _, _, rfl, _⟩ := h; rfl) | (obtain ⟨_, _, _, _, _, _, _, rfl, _⟩ := h; rfl)) | (obtain ⟨rfl, _⟩ := h; rfl) | (obtain ⟨_, rfl, _⟩ := h; rfl) | (obtain ⟨_, _, rfl, _⟩ := h; rfl) | (obtain ⟨_, _, _, rfl, _⟩ := h; rfl) | (obtain ⟨_, _, _, _, rfl, _⟩ := h; rfl) | (obtain ⟨_, _, _, _, _, rfl, _⟩ := h; rfl) | (obtain ⟨_, _, _, _, _, _, rfl, _⟩ := h; rfl) | (obtain ⟨_, _, _, _, _, _, _, rfl, _⟩ := h; rfl)) fun ds Q h => w33  h
theorem D_law_pick {T : List NTab} (A : All75 K mg) (B : Lm75 K mg base T) : DefOk PySem.Challenge.pw_graphkinds_k75_whole_colours_and_complem w K mg base 1 "_law_pick" (spPl T K (Fm75.spP 35)) := dp_up 35 rfl (def_pick A.d25 ⟨by rfl, by decide +kernel, by decide +kernel, by decide +kernel, by decide +kernel, by decide +kernel, by decide +kernel⟩ (by decide +kernel) (by decide +kernel) ⟨by rfl, by rfl⟩ A.bi (by intro kV doc pm an cdv ct us h; match us, h with | [_, _], _ => rfl)) pick_up
theorem D_law_unlike {T : List NTab} (A : All75 K mg) (B : Lm75 K mg base T) : DefOk PySem.Challenge.pw_graphkinds_k75_whole_colours_and_complem w K mg base 1 "_law_unlike" (spN T K (Fm75.sp 36)) := dn 36 rfl A.d26 L36 rfl ⟨A.bi, all_nil, all_nil, all_nil⟩ (nolam rfl) (by intro kV doc pm an cdv ct us h; match us, h with | [_], _ => rfl) (by intro ds Q h; unfold sp36 at h; first | (rcases h with h | h <;> first | (obtain ⟨rfl, _⟩ := h; rfl) | (obtain ⟨_, rfl, _⟩ := h; rfl) | (obtain ⟨_, _, rfl, _⟩ := h; rfl) | (obtain ⟨_, _, _, rfl, _⟩ := h; rfl) | (obtain ⟨_, _, _, _, rfl, _⟩ := h; rfl) | (obtain ⟨_, _, _, _, _, rfl, _⟩ := h; rfl) | (obtain ⟨_, _, _, _, _, _, rfl, _⟩ := h; rfl) | (obtain ⟨_, _, _, _, _, _, _, rfl, _⟩ := h; rfl)) | (obtain ⟨rfl, _⟩ := h; rfl) | (obtain ⟨_, rfl, _⟩ := h; rfl) | (obtain ⟨_, _, rfl, _⟩ := h; rfl) | (obtain ⟨_, _, _, rfl, _⟩ := h; rfl) | (obtain ⟨_, _, _, _, rfl, _⟩ := h; rfl) | (obtain ⟨_, _, _, _, _, rfl, _⟩ := h; rfl) | (obtain ⟨_, _, _, _, _, _, rfl, _⟩ := h; rfl) | (obtain ⟨_, _, _, _, _, _, _, rfl, _⟩ := h; rfl)) fun ds Q h => w36  h
theorem D_law_pair {T : List NTab} (A : All75 K mg) (B : Lm75 K mg base T) : DefOk PySem.Challenge.pw_graphkinds_k75_whole_colours_and_complem w K mg base 1 "_law_pair" (spN T K (Fm75.sp 37)) := dn 37 rfl A.d27 L37 rfl ⟨A.bi, all_nil, all_nil, all_nil⟩ (nolam rfl) (by intro kV doc pm an cdv ct us h; match us, h with | [_, _], _ => rfl) (by intro ds Q h; unfold sp37 at h; first | (rcases h with h | h <;> first | (obtain ⟨rfl, _⟩ := h; rfl) | (obtain ⟨_, rfl, _⟩ := h; rfl) | (obtain ⟨_, _, rfl, _⟩ := h; rfl) | (obtain ⟨_, _, _, rfl, _⟩ := h; rfl) | (obtain ⟨_, _, _, _, rfl, _⟩ := h; rfl) | (obtain ⟨_, _, _, _, _, rfl, _⟩ := h; rfl) | (obtain ⟨_, _, _, _, _, _, rfl, _⟩ := h; rfl) | (obtain ⟨_, _, _, _, _, _, _, rfl, _⟩ := h; rfl)) | (obtain ⟨rfl, _⟩ := h; rfl) | (obtain ⟨_, rfl, _⟩ := h; rfl) | (obtain ⟨_, _, rfl, _⟩ := h; rfl) | (obtain ⟨_, _, _, rfl, _⟩ := h; rfl) | (obtain ⟨_, _, _, _, rfl, _⟩ := h; rfl) | (obtain ⟨_, _, _, _, _, rfl, _⟩ := h; rfl) | (obtain ⟨_, _, _, _, _, _, rfl, _⟩ := h; rfl) | (obtain ⟨_, _, _, _, _, _, _, rfl, _⟩ := h; rfl)) fun ds Q h => w37  h
theorem D_law_other {T : List NTab} (A : All75 K mg) (B : Lm75 K mg base T) : DefOk PySem.Challenge.pw_graphkinds_k75_whole_colours_and_complem w K mg base 1 "_law_other" (spN T K (Fm75.sp 39)) := dn 39 rfl A.d29 L39 rfl ⟨A.bi, all_nil, all_nil, all_nil⟩ (nolam rfl) (by intro kV doc pm an cdv ct us h; match us, h with | [_], _ => rfl) (by intro ds Q h; unfold sp39 at h; first | (rcases h with h | h <;> first | (obtain ⟨rfl, _⟩ := h; rfl) | (obtain ⟨_, rfl, _⟩ := h; rfl) | (obtain ⟨_, _, rfl, _⟩ := h; rfl) | (obtain ⟨_, _, _, rfl, _⟩ := h; rfl) | (obtain ⟨_, _, _, _, rfl, _⟩ := h; rfl) | (obtain ⟨_, _, _, _, _, rfl, _⟩ := h; rfl) | (obtain ⟨_, _, _, _, _, _, rfl, _⟩ := h; rfl) | (obtain ⟨_, _, _, _, _, _, _, rfl, _⟩ := h; rfl)) | (obtain ⟨rfl, _⟩ := h; rfl) | (obtain ⟨_, rfl, _⟩ := h; rfl) | (obtain ⟨_, _, rfl, _⟩ := h; rfl) | (obtain ⟨_, _, _, rfl, _⟩ := h; rfl) | (obtain ⟨_, _, _, _, rfl, _⟩ := h; rfl) | (obtain ⟨_, _, _, _, _, rfl, _⟩ := h; rfl) | (obtain ⟨_, _, _, _, _, _, rfl, _⟩ := h; rfl) | (obtain ⟨_, _, _, _, _, _, _, rfl, _⟩ := h; rfl)) fun ds Q h => w39  h
theorem D_law_all_pairs {T : List NTab} (A : All75 K mg) (B : Lm75 K mg base T) : DefOk PySem.Challenge.pw_graphkinds_k75_whole_colours_and_complem w K mg base 1 "_law_all_pairs" (spN T K (Fm75.sp 41)) := dn 41 rfl A.d31 L41 rfl ⟨A.bi, all_nil, all_nil, all_nil⟩ (nolam rfl) (by intro kV doc pm an cdv ct us h; match us, h with | [_], _ => rfl) (by intro ds Q h; unfold sp41 at h; first | (rcases h with h | h <;> first | (obtain ⟨rfl, _⟩ := h; rfl) | (obtain ⟨_, rfl, _⟩ := h; rfl) | (obtain ⟨_, _, rfl, _⟩ := h; rfl) | (obtain ⟨_, _, _, rfl, _⟩ := h; rfl) | (obtain ⟨_, _, _, _, rfl, _⟩ := h; rfl) | (obtain ⟨_, _, _, _, _, rfl, _⟩ := h; rfl) | (obtain ⟨_, _, _, _, _, _, rfl, _⟩ := h; rfl) | (obtain ⟨_, _, _, _, _, _, _, rfl, _⟩ := h; rfl)) | (obtain ⟨rfl, _⟩ := h; rfl) | (obtain ⟨_, rfl, _⟩ := h; rfl) | (obtain ⟨_, _, rfl, _⟩ := h; rfl) | (obtain ⟨_, _, _, rfl, _⟩ := h; rfl) | (obtain ⟨_, _, _, _, rfl, _⟩ := h; rfl) | (obtain ⟨_, _, _, _, _, rfl, _⟩ := h; rfl) | (obtain ⟨_, _, _, _, _, _, rfl, _⟩ := h; rfl) | (obtain ⟨_, _, _, _, _, _, _, rfl, _⟩ := h; rfl)) fun ds Q h => w41  h
theorem D_law_names {T : List NTab} (A : All75 K mg) (B : Lm75 K mg base T) : DefOk PySem.Challenge.pw_graphkinds_k75_whole_colours_and_complem w K mg base 1 "_law_names" (spN T K (Fm75.sp 44)) := dn 44 rfl A.d34 L44 rfl ⟨A.bi, all_nil, all_nil, all_nil⟩ (nolam rfl) (by intro kV doc pm an cdv ct us h; match us, h with | [_, _, _], _ => rfl) (by intro ds Q h; unfold sp44 at h; first | (rcases h with h | h <;> first | (obtain ⟨rfl, _⟩ := h; rfl) | (obtain ⟨_, rfl, _⟩ := h; rfl) | (obtain ⟨_, _, rfl, _⟩ := h; rfl) | (obtain ⟨_, _, _, rfl, _⟩ := h; rfl) | (obtain ⟨_, _, _, _, rfl, _⟩ := h; rfl) | (obtain ⟨_, _, _, _, _, rfl, _⟩ := h; rfl) | (obtain ⟨_, _, _, _, _, _, rfl, _⟩ := h; rfl) | (obtain ⟨_, _, _, _, _, _, _, rfl, _⟩ := h; rfl)) | (obtain ⟨rfl, _⟩ := h; rfl) | (obtain ⟨_, rfl, _⟩ := h; rfl) | (obtain ⟨_, _, rfl, _⟩ := h; rfl) | (obtain ⟨_, _, _, rfl, _⟩ := h; rfl) | (obtain ⟨_, _, _, _, rfl, _⟩ := h; rfl) | (obtain ⟨_, _, _, _, _, rfl, _⟩ := h; rfl) | (obtain ⟨_, _, _, _, _, _, rfl, _⟩ := h; rfl) | (obtain ⟨_, _, _, _, _, _, _, rfl, _⟩ := h; rfl)) fun ds Q h => w44  h
theorem Dis_edge {T : List NTab} (A : All75 K mg) (B : Lm75 K mg base T) : DefOk PySem.Challenge.pw_graphkinds_k75_whole_colours_and_complem w K mg base 2 "is_edge" (spN T K (Fm75.sp 5)) := dn 5 rfl A.d5 L5 rfl ⟨A.bi, (all_cons ((Dpair A B).mono (by decide)) all_nil), all_nil, all_nil⟩ (nolam rfl) (by intro kV doc pm an cdv ct us h; match us, h with | [_, _, _], _ => rfl) (by intro ds Q h; unfold sp5 at h; first | (rcases h with h | h <;> first | (obtain ⟨rfl, _⟩ := h; rfl) | (obtain ⟨_, rfl, _⟩ := h; rfl) | (obtain ⟨_, _, rfl, _⟩ := h; rfl) | (obtain ⟨_, _, _, rfl, _⟩ := h; rfl) | (obtain ⟨_, _, _, _, rfl, _⟩ := h; rfl) | (obtain ⟨_, _, _, _, _, rfl, _⟩ := h; rfl) | (obtain ⟨_, _, _, _, _, _, rfl, _⟩ := h; rfl) | (obtain ⟨_, _, _, _, _, _, _, rfl, _⟩ := h; rfl)) | (obtain ⟨rfl, _⟩ := h; rfl) | (obtain ⟨_, rfl, _⟩ := h; rfl) | (obtain ⟨_, _, rfl, _⟩ := h; rfl) | (obtain ⟨_, _, _, rfl, _⟩ := h; rfl) | (obtain ⟨_, _, _, _, rfl, _⟩ := h; rfl) | (obtain ⟨_, _, _, _, _, rfl, _⟩ := h; rfl) | (obtain ⟨_, _, _, _, _, _, rfl, _⟩ := h; rfl) | (obtain ⟨_, _, _, _, _, _, _, rfl, _⟩ := h; rfl)) fun ds Q h => w5 h75_3 h
theorem D_law_pool {T : List NTab} (A : All75 K mg) (B : Lm75 K mg base T) : DefOk PySem.Challenge.pw_graphkinds_k75_whole_colours_and_complem w K mg base 2 "_law_pool" (spPool T K) := def_pool A.d24 ⟨by rfl, by decide +kernel, by decide +kernel, by decide +kernel, by decide +kernel, by decide +kernel, by decide +kernel⟩ (by decide +kernel) (by decide +kernel) ⟨⟨by rfl, by rfl⟩, by rfl⟩ A.bi ((D_law_cell A B).mono (by decide)) (draws_dn 33 rfl ((D_law_draws A B).mono (by decide))) (by intro kV doc pm an cdv ct us h; match us, h with | [_], _ => rfl)
theorem D_law_made {T : List NTab} (A : All75 K mg) (B : Lm75 K mg base T) : DefOk PySem.Challenge.pw_graphkinds_k75_whole_colours_and_complem w K mg base 2 "_law_made" (spN T K (Fm75.sp 38)) := dn 38 rfl A.d28 L38 rfl ⟨A.bi, (all_cons ((D_law_unlike A B).mono (by decide)) (all_cons ((D_law_pair A B).mono (by decide)) all_nil)), all_nil, all_nil⟩ (nolam rfl) (by intro kV doc pm an cdv ct us h; match us, h with | [_, _], _ => rfl) (by intro ds Q h; unfold sp38 at h; first | (rcases h with h | h <;> first | (obtain ⟨rfl, _⟩ := h; rfl) | (obtain ⟨_, rfl, _⟩ := h; rfl) | (obtain ⟨_, _, rfl, _⟩ := h; rfl) | (obtain ⟨_, _, _, rfl, _⟩ := h; rfl) | (obtain ⟨_, _, _, _, rfl, _⟩ := h; rfl) | (obtain ⟨_, _, _, _, _, rfl, _⟩ := h; rfl) | (obtain ⟨_, _, _, _, _, _, rfl, _⟩ := h; rfl) | (obtain ⟨_, _, _, _, _, _, _, rfl, _⟩ := h; rfl)) | (obtain ⟨rfl, _⟩ := h; rfl) | (obtain ⟨_, rfl, _⟩ := h; rfl) | (obtain ⟨_, _, rfl, _⟩ := h; rfl) | (obtain ⟨_, _, _, rfl, _⟩ := h; rfl) | (obtain ⟨_, _, _, _, rfl, _⟩ := h; rfl) | (obtain ⟨_, _, _, _, _, rfl, _⟩ := h; rfl) | (obtain ⟨_, _, _, _, _, _, rfl, _⟩ := h; rfl) | (obtain ⟨_, _, _, _, _, _, _, rfl, _⟩ := h; rfl)) fun ds Q h => w38 h75_36 h75_37 h
theorem D_law_draw_list {T : List NTab} (A : All75 K mg) (B : Lm75 K mg base T) : DefOk PySem.Challenge.pw_graphkinds_k75_whole_colours_and_complem w K mg base 2 "_law_draw_list" (spPl T K (Fm75.spP 43)) := dp 43 rfl A.d33 L43 rfl ⟨A.bi, all_nil, (all_cons ((D_law_pick A B).mono (by decide)) all_nil), all_nil⟩ (nolam rfl) (by intro kV doc pm an cdv ct us h; match us, h with | [_], _ => rfl) (by intro ds g Q h; unfold sp43 at h; first | (rcases h with h | h <;> first | (obtain ⟨rfl, _⟩ := h; rfl) | (obtain ⟨_, rfl, _⟩ := h; rfl) | (obtain ⟨_, _, rfl, _⟩ := h; rfl) | (obtain ⟨_, _, _, rfl, _⟩ := h; rfl) | (obtain ⟨_, _, _, _, rfl, _⟩ := h; rfl) | (obtain ⟨_, _, _, _, _, rfl, _⟩ := h; rfl) | (obtain ⟨_, _, _, _, _, _, rfl, _⟩ := h; rfl) | (obtain ⟨_, _, _, _, _, _, _, rfl, _⟩ := h; rfl)) | (obtain ⟨rfl, _⟩ := h; rfl) | (obtain ⟨_, rfl, _⟩ := h; rfl) | (obtain ⟨_, _, rfl, _⟩ := h; rfl) | (obtain ⟨_, _, _, rfl, _⟩ := h; rfl) | (obtain ⟨_, _, _, _, rfl, _⟩ := h; rfl) | (obtain ⟨_, _, _, _, _, rfl, _⟩ := h; rfl) | (obtain ⟨_, _, _, _, _, _, rfl, _⟩ := h; rfl) | (obtain ⟨_, _, _, _, _, _, _, rfl, _⟩ := h; rfl)) fun ds g Q h => w43 h75_35 h
theorem Dneighbours {T : List NTab} (A : All75 K mg) (B : Lm75 K mg base T) : DefOk PySem.Challenge.pw_graphkinds_k75_whole_colours_and_complem w K mg base 3 "neighbours" (spN T K (Fm75.sp 6)) := dn 6 rfl A.d6 L6 rfl ⟨A.bi, (all_cons ((Dis_edge A B).mono (by decide)) all_nil), all_nil, all_nil⟩ (nolam rfl) (by intro kV doc pm an cdv ct us h; match us, h with | [_, _], _ => rfl) (by intro ds Q h; unfold sp6 at h; first | (rcases h with h | h <;> first | (obtain ⟨rfl, _⟩ := h; rfl) | (obtain ⟨_, rfl, _⟩ := h; rfl) | (obtain ⟨_, _, rfl, _⟩ := h; rfl) | (obtain ⟨_, _, _, rfl, _⟩ := h; rfl) | (obtain ⟨_, _, _, _, rfl, _⟩ := h; rfl) | (obtain ⟨_, _, _, _, _, rfl, _⟩ := h; rfl) | (obtain ⟨_, _, _, _, _, _, rfl, _⟩ := h; rfl) | (obtain ⟨_, _, _, _, _, _, _, rfl, _⟩ := h; rfl)) | (obtain ⟨rfl, _⟩ := h; rfl) | (obtain ⟨_, rfl, _⟩ := h; rfl) | (obtain ⟨_, _, rfl, _⟩ := h; rfl) | (obtain ⟨_, _, _, rfl, _⟩ := h; rfl) | (obtain ⟨_, _, _, _, rfl, _⟩ := h; rfl) | (obtain ⟨_, _, _, _, _, rfl, _⟩ := h; rfl) | (obtain ⟨_, _, _, _, _, _, rfl, _⟩ := h; rfl) | (obtain ⟨_, _, _, _, _, _, _, rfl, _⟩ := h; rfl)) fun ds Q h => w6 h75_5 h
theorem Dis_clique {T : List NTab} (A : All75 K mg) (B : Lm75 K mg base T) : DefOk PySem.Challenge.pw_graphkinds_k75_whole_colours_and_complem w K mg base 3 "is_clique" (spN T K (Fm75.sp 14)) := dn 14 rfl A.d8 L14 rfl ⟨A.bi, (all_cons ((Dis_edge A B).mono (by decide)) all_nil), all_nil, all_nil⟩ (nolam rfl) (by intro kV doc pm an cdv ct us h; match us, h with | [_, _], _ => rfl) (by intro ds Q h; unfold sp14 at h; first | (rcases h with h | h <;> first | (obtain ⟨rfl, _⟩ := h; rfl) | (obtain ⟨_, rfl, _⟩ := h; rfl) | (obtain ⟨_, _, rfl, _⟩ := h; rfl) | (obtain ⟨_, _, _, rfl, _⟩ := h; rfl) | (obtain ⟨_, _, _, _, rfl, _⟩ := h; rfl) | (obtain ⟨_, _, _, _, _, rfl, _⟩ := h; rfl) | (obtain ⟨_, _, _, _, _, _, rfl, _⟩ := h; rfl) | (obtain ⟨_, _, _, _, _, _, _, rfl, _⟩ := h; rfl)) | (obtain ⟨rfl, _⟩ := h; rfl) | (obtain ⟨_, rfl, _⟩ := h; rfl) | (obtain ⟨_, _, rfl, _⟩ := h; rfl) | (obtain ⟨_, _, _, rfl, _⟩ := h; rfl) | (obtain ⟨_, _, _, _, rfl, _⟩ := h; rfl) | (obtain ⟨_, _, _, _, _, rfl, _⟩ := h; rfl) | (obtain ⟨_, _, _, _, _, _, rfl, _⟩ := h; rfl) | (obtain ⟨_, _, _, _, _, _, _, rfl, _⟩ := h; rfl)) fun ds Q h => w14 h75_5 h
theorem Dother_edges {T : List NTab} (A : All75 K mg) (B : Lm75 K mg base T) : DefOk PySem.Challenge.pw_graphkinds_k75_whole_colours_and_complem w K mg base 3 "other_edges" (spN T K (Fm75.sp 106)) := dn 106 rfl A.d18 L106 rfl ⟨A.bi, (all_cons ((Dis_edge A B).mono (by decide)) all_nil), all_nil, all_nil⟩ (nolam rfl) (by intro kV doc pm an cdv ct us h; match us, h with | [_], _ => rfl) (by intro ds Q h; unfold sp106 at h; first | (rcases h with h | h <;> first | (obtain ⟨rfl, _⟩ := h; rfl) | (obtain ⟨_, rfl, _⟩ := h; rfl) | (obtain ⟨_, _, rfl, _⟩ := h; rfl) | (obtain ⟨_, _, _, rfl, _⟩ := h; rfl) | (obtain ⟨_, _, _, _, rfl, _⟩ := h; rfl) | (obtain ⟨_, _, _, _, _, rfl, _⟩ := h; rfl) | (obtain ⟨_, _, _, _, _, _, rfl, _⟩ := h; rfl) | (obtain ⟨_, _, _, _, _, _, _, rfl, _⟩ := h; rfl)) | (obtain ⟨rfl, _⟩ := h; rfl) | (obtain ⟨_, rfl, _⟩ := h; rfl) | (obtain ⟨_, _, rfl, _⟩ := h; rfl) | (obtain ⟨_, _, _, rfl, _⟩ := h; rfl) | (obtain ⟨_, _, _, _, rfl, _⟩ := h; rfl) | (obtain ⟨_, _, _, _, _, rfl, _⟩ := h; rfl) | (obtain ⟨_, _, _, _, _, _, rfl, _⟩ := h; rfl) | (obtain ⟨_, _, _, _, _, _, _, rfl, _⟩ := h; rfl)) fun ds Q h => w106 h75_5 h
theorem D_law_turned {T : List NTab} (A : All75 K mg) (B : Lm75 K mg base T) : DefOk PySem.Challenge.pw_graphkinds_k75_whole_colours_and_complem w K mg base 3 "_law_turned" (spN T K (Fm75.sp 42)) := dn 42 rfl A.d32 L42 rfl ⟨A.bi, (all_cons ((D_law_made A B).mono (by decide)) all_nil), all_nil, all_nil⟩ (nolam rfl) (by intro kV doc pm an cdv ct us h; match us, h with | [_, _], _ => rfl) (by intro ds Q h; unfold sp42 at h; first | (rcases h with h | h <;> first | (obtain ⟨rfl, _⟩ := h; rfl) | (obtain ⟨_, rfl, _⟩ := h; rfl) | (obtain ⟨_, _, rfl, _⟩ := h; rfl) | (obtain ⟨_, _, _, rfl, _⟩ := h; rfl) | (obtain ⟨_, _, _, _, rfl, _⟩ := h; rfl) | (obtain ⟨_, _, _, _, _, rfl, _⟩ := h; rfl) | (obtain ⟨_, _, _, _, _, _, rfl, _⟩ := h; rfl) | (obtain ⟨_, _, _, _, _, _, _, rfl, _⟩ := h; rfl)) | (obtain ⟨rfl, _⟩ := h; rfl) | (obtain ⟨_, rfl, _⟩ := h; rfl) | (obtain ⟨_, _, rfl, _⟩ := h; rfl) | (obtain ⟨_, _, _, rfl, _⟩ := h; rfl) | (obtain ⟨_, _, _, _, rfl, _⟩ := h; rfl) | (obtain ⟨_, _, _, _, _, rfl, _⟩ := h; rfl) | (obtain ⟨_, _, _, _, _, _, rfl, _⟩ := h; rfl) | (obtain ⟨_, _, _, _, _, _, _, rfl, _⟩ := h; rfl)) fun ds Q h => w42 h75_38 h
theorem Dgreatest_clique {T : List NTab} (A : All75 K mg) (B : Lm75 K mg base T) : DefOk PySem.Challenge.pw_graphkinds_k75_whole_colours_and_complem w K mg base 4 "greatest_clique" (spN T K (Fm75.sp 21)) := dn 21 rfl A.d13 L21 rfl ⟨A.bi, (all_cons ((Dsubsets A B).mono (by decide)) (all_cons ((Dvertices A B).mono (by decide)) (all_cons ((Dis_clique A B).mono (by decide)) all_nil))), all_nil, all_nil⟩ (fun _ => ⟨by decide, B.l13⟩) (by intro kV doc pm an cdv ct us h; match us, h with | [_], _ => rfl) (by intro ds Q h; unfold sp21 at h; first | (rcases h with h | h <;> first | (obtain ⟨rfl, _⟩ := h; rfl) | (obtain ⟨_, rfl, _⟩ := h; rfl) | (obtain ⟨_, _, rfl, _⟩ := h; rfl) | (obtain ⟨_, _, _, rfl, _⟩ := h; rfl) | (obtain ⟨_, _, _, _, rfl, _⟩ := h; rfl) | (obtain ⟨_, _, _, _, _, rfl, _⟩ := h; rfl) | (obtain ⟨_, _, _, _, _, _, rfl, _⟩ := h; rfl) | (obtain ⟨_, _, _, _, _, _, _, rfl, _⟩ := h; rfl)) | (obtain ⟨rfl, _⟩ := h; rfl) | (obtain ⟨_, rfl, _⟩ := h; rfl) | (obtain ⟨_, _, rfl, _⟩ := h; rfl) | (obtain ⟨_, _, _, rfl, _⟩ := h; rfl) | (obtain ⟨_, _, _, _, rfl, _⟩ := h; rfl) | (obtain ⟨_, _, _, _, _, rfl, _⟩ := h; rfl) | (obtain ⟨_, _, _, _, _, _, rfl, _⟩ := h; rfl) | (obtain ⟨_, _, _, _, _, _, _, rfl, _⟩ := h; rfl)) fun ds Q h => w21 h75_0 h75_4 h75_14 h
theorem Ddegeneracy {T : List NTab} (A : All75 K mg) (B : Lm75 K mg base T) : DefOk PySem.Challenge.pw_graphkinds_k75_whole_colours_and_complem w K mg base 4 "degeneracy" (spN T K (Fm75.sp 85)) := dn 85 rfl A.d15 L85 rfl ⟨A.bi, (all_cons ((Dneighbours A B).mono (by decide)) all_nil), all_nil, all_nil⟩ (nolam rfl) (by intro kV doc pm an cdv ct us h; match us, h with | [_], _ => rfl) (by intro ds Q h; unfold sp85 at h; first | (rcases h with h | h <;> first | (obtain ⟨rfl, _⟩ := h; rfl) | (obtain ⟨_, rfl, _⟩ := h; rfl) | (obtain ⟨_, _, rfl, _⟩ := h; rfl) | (obtain ⟨_, _, _, rfl, _⟩ := h; rfl) | (obtain ⟨_, _, _, _, rfl, _⟩ := h; rfl) | (obtain ⟨_, _, _, _, _, rfl, _⟩ := h; rfl) | (obtain ⟨_, _, _, _, _, _, rfl, _⟩ := h; rfl) | (obtain ⟨_, _, _, _, _, _, _, rfl, _⟩ := h; rfl)) | (obtain ⟨rfl, _⟩ := h; rfl) | (obtain ⟨_, rfl, _⟩ := h; rfl) | (obtain ⟨_, _, rfl, _⟩ := h; rfl) | (obtain ⟨_, _, _, rfl, _⟩ := h; rfl) | (obtain ⟨_, _, _, _, rfl, _⟩ := h; rfl) | (obtain ⟨_, _, _, _, _, rfl, _⟩ := h; rfl) | (obtain ⟨_, _, _, _, _, _, rfl, _⟩ := h; rfl) | (obtain ⟨_, _, _, _, _, _, _, rfl, _⟩ := h; rfl)) fun ds Q h => w85 h75_6 h
theorem D_law_drawn {T : List NTab} (A : All75 K mg) (B : Lm75 K mg base T) : DefOk PySem.Challenge.pw_graphkinds_k75_whole_colours_and_complem w K mg base 4 "_law_drawn" (spPl T K (Fm75.spP 40)) := dp 40 rfl A.d30 L40 rfl ⟨A.bi, (all_cons ((D_law_made A B).mono (by decide)) (all_cons ((D_law_other A B).mono (by decide)) (all_cons ((D_law_all_pairs A B).mono (by decide)) (all_cons ((D_law_turned A B).mono (by decide)) (all_cons ((D_law_names A B).mono (by decide)) all_nil))))), (all_cons ((D_law_pick A B).mono (by decide)) (all_cons ((D_law_draw_list A B).mono (by decide)) all_nil)), all_nil⟩ (nolam rfl) (by intro kV doc pm an cdv ct us h; match us, h with | [_, _, _], _ => rfl) (by intro ds g Q h; unfold sp40 at h; first | (rcases h with h | h <;> first | (obtain ⟨rfl, _⟩ := h; rfl) | (obtain ⟨_, rfl, _⟩ := h; rfl) | (obtain ⟨_, _, rfl, _⟩ := h; rfl) | (obtain ⟨_, _, _, rfl, _⟩ := h; rfl) | (obtain ⟨_, _, _, _, rfl, _⟩ := h; rfl) | (obtain ⟨_, _, _, _, _, rfl, _⟩ := h; rfl) | (obtain ⟨_, _, _, _, _, _, rfl, _⟩ := h; rfl) | (obtain ⟨_, _, _, _, _, _, _, rfl, _⟩ := h; rfl)) | (obtain ⟨rfl, _⟩ := h; rfl) | (obtain ⟨_, rfl, _⟩ := h; rfl) | (obtain ⟨_, _, rfl, _⟩ := h; rfl) | (obtain ⟨_, _, _, rfl, _⟩ := h; rfl) | (obtain ⟨_, _, _, _, rfl, _⟩ := h; rfl) | (obtain ⟨_, _, _, _, _, rfl, _⟩ := h; rfl) | (obtain ⟨_, _, _, _, _, _, rfl, _⟩ := h; rfl) | (obtain ⟨_, _, _, _, _, _, _, rfl, _⟩ := h; rfl)) fun ds g Q h => w40 mkFam_mono h75_35 h75_38 h75_39 h75_41 h75_42 h75_43 h75_44 h
theorem Dgreatest_loose {T : List NTab} (A : All75 K mg) (B : Lm75 K mg base T) : DefOk PySem.Challenge.pw_graphkinds_k75_whole_colours_and_complem w K mg base 5 "greatest_loose" (spN T K (Fm75.sp 22)) := dn 22 rfl A.d14 L22 rfl ⟨A.bi, (all_cons ((Dcomplement A B).mono (by decide)) (all_cons ((Dgreatest_clique A B).mono (by decide)) all_nil)), all_nil, all_nil⟩ (nolam rfl) (by intro kV doc pm an cdv ct us h; match us, h with | [_], _ => rfl) (by intro ds Q h; unfold sp22 at h; first | (rcases h with h | h <;> first | (obtain ⟨rfl, _⟩ := h; rfl) | (obtain ⟨_, rfl, _⟩ := h; rfl) | (obtain ⟨_, _, rfl, _⟩ := h; rfl) | (obtain ⟨_, _, _, rfl, _⟩ := h; rfl) | (obtain ⟨_, _, _, _, rfl, _⟩ := h; rfl) | (obtain ⟨_, _, _, _, _, rfl, _⟩ := h; rfl) | (obtain ⟨_, _, _, _, _, _, rfl, _⟩ := h; rfl) | (obtain ⟨_, _, _, _, _, _, _, rfl, _⟩ := h; rfl)) | (obtain ⟨rfl, _⟩ := h; rfl) | (obtain ⟨_, rfl, _⟩ := h; rfl) | (obtain ⟨_, _, rfl, _⟩ := h; rfl) | (obtain ⟨_, _, _, rfl, _⟩ := h; rfl) | (obtain ⟨_, _, _, _, rfl, _⟩ := h; rfl) | (obtain ⟨_, _, _, _, _, rfl, _⟩ := h; rfl) | (obtain ⟨_, _, _, _, _, _, rfl, _⟩ := h; rfl) | (obtain ⟨_, _, _, _, _, _, _, rfl, _⟩ := h; rfl)) fun ds Q h => w22 h75_10 h75_21 h
theorem Dcolours_from {T : List NTab} (A : All75 K mg) (B : Lm75 K mg base T) : DefOk PySem.Challenge.pw_graphkinds_k75_whole_colours_and_complem w K mg base 11 "colours_from" (spN T K (Fm75.sp 18)) := dn_up 18 (s := sp18) rfl (def_cols (C := C18) A.d10 L18 rfl rfl rfl rfl rfl rfl rfl rfl A.bi rfl (Dis_edge A B) (by intro kV doc pm an cdv ct us h; match us, h with | [_, _, _], _ => rfl) 9) (spC_up 9)
theorem Dcolouring {T : List NTab} (A : All75 K mg) (B : Lm75 K mg base T) : DefOk PySem.Challenge.pw_graphkinds_k75_whole_colours_and_complem w K mg base 12 "colouring" (spN T K (Fm75.sp 19)) := dn 19 rfl A.d11 L19 rfl ⟨A.bi, (all_cons ((Dcolours_from A B).mono (by decide)) all_nil), all_nil, all_nil⟩ (nolam rfl) (by intro kV doc pm an cdv ct us h; match us, h with | [_, _], _ => rfl) (by intro ds Q h; unfold sp19 at h; first | (rcases h with h | h <;> first | (obtain ⟨rfl, _⟩ := h; rfl) | (obtain ⟨_, rfl, _⟩ := h; rfl) | (obtain ⟨_, _, rfl, _⟩ := h; rfl) | (obtain ⟨_, _, _, rfl, _⟩ := h; rfl) | (obtain ⟨_, _, _, _, rfl, _⟩ := h; rfl) | (obtain ⟨_, _, _, _, _, rfl, _⟩ := h; rfl) | (obtain ⟨_, _, _, _, _, _, rfl, _⟩ := h; rfl) | (obtain ⟨_, _, _, _, _, _, _, rfl, _⟩ := h; rfl)) | (obtain ⟨rfl, _⟩ := h; rfl) | (obtain ⟨_, rfl, _⟩ := h; rfl) | (obtain ⟨_, _, rfl, _⟩ := h; rfl) | (obtain ⟨_, _, _, rfl, _⟩ := h; rfl) | (obtain ⟨_, _, _, _, rfl, _⟩ := h; rfl) | (obtain ⟨_, _, _, _, _, rfl, _⟩ := h; rfl) | (obtain ⟨_, _, _, _, _, _, rfl, _⟩ := h; rfl) | (obtain ⟨_, _, _, _, _, _, _, rfl, _⟩ := h; rfl)) fun ds Q h => w19 h75_18 h
theorem Dcolour_number {T : List NTab} (A : All75 K mg) (B : Lm75 K mg base T) : DefOk PySem.Challenge.pw_graphkinds_k75_whole_colours_and_complem w K mg base 13 "colour_number" (spN T K (Fm75.sp 20)) := dn 20 rfl A.d12 L20 rfl ⟨A.bi, (all_cons ((Dcolouring A B).mono (by decide)) all_nil), all_nil, all_nil⟩ (nolam rfl) (by intro kV doc pm an cdv ct us h; match us, h with | [_], _ => rfl) (by intro ds Q h; unfold sp20 at h; first | (rcases h with h | h <;> first | (obtain ⟨rfl, _⟩ := h; rfl) | (obtain ⟨_, rfl, _⟩ := h; rfl) | (obtain ⟨_, _, rfl, _⟩ := h; rfl) | (obtain ⟨_, _, _, rfl, _⟩ := h; rfl) | (obtain ⟨_, _, _, _, rfl, _⟩ := h; rfl) | (obtain ⟨_, _, _, _, _, rfl, _⟩ := h; rfl) | (obtain ⟨_, _, _, _, _, _, rfl, _⟩ := h; rfl) | (obtain ⟨_, _, _, _, _, _, _, rfl, _⟩ := h; rfl)) | (obtain ⟨rfl, _⟩ := h; rfl) | (obtain ⟨_, rfl, _⟩ := h; rfl) | (obtain ⟨_, _, rfl, _⟩ := h; rfl) | (obtain ⟨_, _, _, rfl, _⟩ := h; rfl) | (obtain ⟨_, _, _, _, rfl, _⟩ := h; rfl) | (obtain ⟨_, _, _, _, _, rfl, _⟩ := h; rfl) | (obtain ⟨_, _, _, _, _, _, rfl, _⟩ := h; rfl) | (obtain ⟨_, _, _, _, _, _, _, rfl, _⟩ := h; rfl)) fun ds Q h => w20 h75_19 h
theorem Dclique_parts {T : List NTab} (A : All75 K mg) (B : Lm75 K mg base T) : DefOk PySem.Challenge.pw_graphkinds_k75_whole_colours_and_complem w K mg base 13 "clique_parts" (spN T K (Fm75.sp 105)) := dn 105 rfl A.d17 L105 rfl ⟨A.bi, (all_cons ((Dcolouring A B).mono (by decide)) (all_cons ((Dother_edges A B).mono (by decide)) all_nil)), all_nil, all_nil⟩ (nolam rfl) (by intro kV doc pm an cdv ct us h; match us, h with | [_], _ => rfl) (by intro ds Q h; unfold sp105 at h; first | (rcases h with h | h <;> first | (obtain ⟨rfl, _⟩ := h; rfl) | (obtain ⟨_, rfl, _⟩ := h; rfl) | (obtain ⟨_, _, rfl, _⟩ := h; rfl) | (obtain ⟨_, _, _, rfl, _⟩ := h; rfl) | (obtain ⟨_, _, _, _, rfl, _⟩ := h; rfl) | (obtain ⟨_, _, _, _, _, rfl, _⟩ := h; rfl) | (obtain ⟨_, _, _, _, _, _, rfl, _⟩ := h; rfl) | (obtain ⟨_, _, _, _, _, _, _, rfl, _⟩ := h; rfl)) | (obtain ⟨rfl, _⟩ := h; rfl) | (obtain ⟨_, rfl, _⟩ := h; rfl) | (obtain ⟨_, _, rfl, _⟩ := h; rfl) | (obtain ⟨_, _, _, rfl, _⟩ := h; rfl) | (obtain ⟨_, _, _, _, rfl, _⟩ := h; rfl) | (obtain ⟨_, _, _, _, _, rfl, _⟩ := h; rfl) | (obtain ⟨_, _, _, _, _, _, rfl, _⟩ := h; rfl) | (obtain ⟨_, _, _, _, _, _, _, rfl, _⟩ := h; rfl)) fun ds Q h => w105 h75_19 h75_106 h
theorem F75_of : F75 Fm75 := ⟨mkFam_mono, h75_10, h75_19, h75_20, h75_21, h75_22, h75_37, h75_44, h75_85, h75_105, h75_216, h75_217, h75_40, h75_43⟩
theorem law75 {T : List NTab} (A : All75 K mg) (B : Lm75 K mg base T) {fa : Addr} {fd : FuncData} (F0 : Fun K "law" "law" (topS 35) fa fd) : FnOk PySem.Challenge.pw_graphkinds_k75_whole_colours_and_complem w K mg base L2.CX0 14 fa fd ["script"] (spLaw T K) := def_law (C := CLw75) mkFam_mono F0 LLw75 ⟨A.bi, (all_cons ((Dcomplement A B).mono (by decide)) (all_cons ((Dcolouring A B).mono (by decide)) (all_cons ((Dcolour_number A B).mono (by decide)) (all_cons ((Dgreatest_clique A B).mono (by decide)) (all_cons ((Dgreatest_loose A B).mono (by decide)) (all_cons ((D_law_pair A B).mono (by decide)) (all_cons ((D_law_names A B).mono (by decide)) (all_cons ((Ddegeneracy A B).mono (by decide)) (all_cons ((Dclique_parts A B).mono (by decide)) (all_cons ((Dlongest A B).mono (by decide)) (all_cons ((Darrows_by A B).mono (by decide)) all_nil))))))))))), (all_cons ((D_law_drawn A B).mono (by decide)) (all_cons ((D_law_draw_list A B).mono (by decide)) all_nil)), all_nil⟩ (nolam rfl) ((D_law_pool A B).mono (by decide)) (wL75 F75_of)
end
end W3
namespace W3
open PySem PySem.Spec PyProof.Rows L2 NdefX LamX
def tf75 : List He.Defn := [("greatest_clique", none)]
def fn75 : List He.DefD := [dfO "subsets" (topS 1), dfO "pair" (topS 2), dfO "vertices" (topS 4), dfO "is_edge" (topS 5), dfO "neighbours" (topS 6), dfO "complement" (topS 7), dfO "is_clique" (topS 8), dfO "colours_from" (topS 10), dfO "colouring" (topS 11), dfO "colour_number" (topS 12), dfO "greatest_clique" (topS 13), dfO "greatest_loose" (topS 14), dfO "degeneracy" (topS 15), dfO "clique_parts" (topS 17), dfO "other_edges" (topS 18), dfO "longest" (topS 19), dfO "arrows_by" (topS 20), dfO "_law_cell" (topS 22), dfO "_law_draws" (topS 23), dfO "_law_pool" (topS 24), dfO "_law_pick" (topS 25), dfO "_law_unlike" (topS 26), dfO "_law_pair" (topS 27), dfO "_law_made" (topS 28), dfO "_law_other" (topS 29), dfO "_law_drawn" (topS 30), dfO "_law_all_pairs" (topS 31), dfO "_law_turned" (topS 32), dfO "_law_draw_list" (topS 33), dfO "_law_names" (topS 34), dfO "law" (topS 35)]
def fa75 : List He.Fa := [.glo "subsets", .glo "pair", .glo "vertices", .glo "is_edge", .glo "neighbours", .glo "complement", .glo "is_clique", .glo "colours_from", .glo "colouring", .glo "colour_number", .glo "greatest_clique", .glo "greatest_loose", .glo "degeneracy", .glo "clique_parts", .glo "other_edges", .glo "longest", .glo "arrows_by", .glo "_law_cell", .glo "_law_draws", .glo "_law_pool", .glo "_law_pick", .glo "_law_unlike", .glo "_law_pair", .glo "_law_made", .glo "_law_other", .glo "_law_drawn", .glo "_law_all_pairs", .glo "_law_turned", .glo "_law_draw_list", .glo "_law_names", .glo "law", .free "len", .free "tuple", .free "list", .free "sum", .free "all", .free "any", .free "min", .free "max", .free "sorted", .free "int", .free "abs", .free "set", .free "range", .free "isinstance"]
abbrev hk75 : PySem.W.Hook := He.hookX 4 fa75 fn75 [] tf75 (apart tf75)
def ob75 (s : PySem.W.SharedT) : He.AlX := He.obsX 4 fa75 fn75 [] tf75 (apart tf75) (HandSHeadRun.getT s)
theorem ob75_eq (s : PySem.W.SharedT) : ob75 s = hk75.obs s.abs := He.obsX_eq (HandSHeadRun.getT_eq s)
theorem facts75 {w : World} {K : PySem.W.Frag} {h : Heap} {mg : Str → Option Value} {fa : Addr} (X : K.In h) (G : h.Ns mainGlobals mg) (hfa : mg ("law" : Str) = some (.ref fa)) (c : He.SaysX fa75 fn75 [] tf75 (apart tf75) w h K) : LawAtS PySem.Challenge.rw_graphkinds_k75_whole_colours_and_complem w K L2.CX0 50 63 "script" mg fa h := by
  have gl : ∀ {x : Str} (i : Nat), fa75[i]? = some (.glo x) → mg x = some (.ref (He.ga K x)) := fun i e => He.glo_ok X G (c.t.d.fact i e)
  have fr : ∀ {x : Str} (i : Nat), fa75[i]? = some (.free x) → mg x = none := fun i e => He.free_ok X G (c.t.d.fact i e)
  have A : All75 K mg := ⟨defAt_of c.t.d (List.mem_of_getElem? (i := 0) rfl) (gl 0 rfl), defAt_of c.t.d (List.mem_of_getElem? (i := 1) rfl) (gl 1 rfl), defAt_of c.t.d (List.mem_of_getElem? (i := 2) rfl) (gl 2 rfl), defAt_of c.t.d (List.mem_of_getElem? (i := 3) rfl) (gl 3 rfl), defAt_of c.t.d (List.mem_of_getElem? (i := 4) rfl) (gl 4 rfl), defAt_of c.t.d (List.mem_of_getElem? (i := 5) rfl) (gl 5 rfl), defAt_of c.t.d (List.mem_of_getElem? (i := 6) rfl) (gl 6 rfl), defAt_of c.t.d (List.mem_of_getElem? (i := 7) rfl) (gl 7 rfl), defAt_of c.t.d (List.mem_of_getElem? (i := 8) rfl) (gl 8 rfl), defAt_of c.t.d (List.mem_of_getElem? (i := 9) rfl) (gl 9 rfl), defAt_of c.t.d (List.mem_of_getElem? (i := 10) rfl) (gl 10 rfl), defAt_of c.t.d (List.mem_of_getElem? (i := 11) rfl) (gl 11 rfl), defAt_of c.t.d (List.mem_of_getElem? (i := 12) rfl) (gl 12 rfl), defAt_of c.t.d (List.mem_of_getElem? (i := 13) rfl) (gl 13 rfl), defAt_of c.t.d (List.mem_of_getElem? (i := 14) rfl) (gl 14 rfl), defAt_of c.t.d (List.mem_of_getElem? (i := 15) rfl) (gl 15 rfl), defAt_of c.t.d (List.mem_of_getElem? (i := 16) rfl) (gl 16 rfl), defAt_of c.t.d (List.mem_of_getElem? (i := 17) rfl) (gl 17 rfl), defAt_of c.t.d (List.mem_of_getElem? (i := 18) rfl) (gl 18 rfl), defAt_of c.t.d (List.mem_of_getElem? (i := 19) rfl) (gl 19 rfl), defAt_of c.t.d (List.mem_of_getElem? (i := 20) rfl) (gl 20 rfl), defAt_of c.t.d (List.mem_of_getElem? (i := 21) rfl) (gl 21 rfl), defAt_of c.t.d (List.mem_of_getElem? (i := 22) rfl) (gl 22 rfl), defAt_of c.t.d (List.mem_of_getElem? (i := 23) rfl) (gl 23 rfl), defAt_of c.t.d (List.mem_of_getElem? (i := 24) rfl) (gl 24 rfl), defAt_of c.t.d (List.mem_of_getElem? (i := 25) rfl) (gl 25 rfl), defAt_of c.t.d (List.mem_of_getElem? (i := 26) rfl) (gl 26 rfl), defAt_of c.t.d (List.mem_of_getElem? (i := 27) rfl) (gl 27 rfl), defAt_of c.t.d (List.mem_of_getElem? (i := 28) rfl) (gl 28 rfl), defAt_of c.t.d (List.mem_of_getElem? (i := 29) rfl) (gl 29 rfl), defAt_of c.t.d (List.mem_of_getElem? (i := 30) rfl) (gl 30 rfl), bi_mk (fr 31 rfl) (fr 32 rfl) (fr 33 rfl) (fr 34 rfl) (fr 35 rfl) (fr 36 rfl) (fr 37 rfl) (fr 38 rfl) (fr 39 rfl) (fr 40 rfl) (fr 41 rfl) (fr 42 rfl) (fr 43 rfl) (fr 44 rfl)⟩
  obtain ⟨fa', fd, hm', F0⟩ := A.d35.ex
  rw [hfa] at hm'
  cases hm'
  refine ⟨fd, tf75.map (He.cT K), spLaw (tabsOf K tf75) K, fun p hp => ?_, fun p hp => ?_, fun p hp => ?_, bind1 F0 (by intro kV doc pm an cdv ct s v; exact .of_eq rfl), fun H a ns _ _ hH hS => ⟨a, ns, rfl, hS, tabs_nil hH, fun _ => rfl⟩, fun base _ _ hT =>
    (law75 A ⟨fun _ _ => lamD_of c.more (List.mem_of_getElem? (i := 0) rfl) hT (gl 10 rfl)⟩ F0).mono (by decide)⟩
  · obtain ⟨d, hd, rfl⟩ := List.mem_map.mp hp
    exact c.empty d hd
  · obtain ⟨d, hd, rfl⟩ := List.mem_map.mp hp
    exact c.out d hd
  · obtain ⟨d, hd, rfl⟩ := List.mem_map.mp hp
    exact PySem.W.codeHd_of_K X (c.hd d hd)
def nm75 : List Str := (["subsets", "pair", "vertices", "is_edge", "neighbours", "complement", "is_clique", "colours_from", "colouring", "colour_number", "greatest_clique", "greatest_loose", "degeneracy", "clique_parts", "other_edges", "longest", "arrows_by", "_law_cell", "_law_draws", "_law_pool"] : List Str) ++ (["_law_pick", "_law_unlike", "_law_pair", "_law_made", "_law_other", "_law_drawn", "_law_all_pairs", "_law_turned", "_law_draw_list", "_law_names", "__name__"] : List Str)
set_option maxHeartbeats 0 in
theorem run75 (w : World) : HandSHeadRun.RunEq (PySem.W.OpenLaw.row PySem.Challenge.rw_graphkinds_k75_whole_colours_and_complem) (PySem.W.view (PySem.W.OpenLaw.row PySem.Challenge.rw_graphkinds_k75_whole_colours_and_complem).prog [35]) hk75 ob75 4000 nm75 w := by
  intro os
  kernel_rfl
end W3
open PySem PySem.W PySem.Calls PyProof.Rows
set_option maxHeartbeats 0 in
theorem PySem.Challenge.cw_graphkinds_k75_whole_colours_and_complem_holds : PySem.Challenge.rw_graphkinds_k75_whole_colours_and_complem.Holds := by
  w_on; o_law
  refine HandSHeadRun.head_any (r := (PySem.W.OpenLaw.row PySem.Challenge.rw_graphkinds_k75_whole_colours_and_complem)) (q := view (PySem.W.OpenLaw.row PySem.Challenge.rw_graphkinds_k75_whole_colours_and_complem).prog [35]) (H := W3.hk75) (ob := W3.ob75) (M := 4000) (loose := W3.nm75) (d := HandSHeadRun.topDef (PySem.W.OpenLaw.row PySem.Challenge.rw_graphkinds_k75_whole_colours_and_complem).prog 35) (kwd := []) W3.ob75_eq
    (by kernel_rfl) (fun s => by kernel_rfl) W3.run75 (by kernel_rfl) (by kernel_rfl) (by kernel_rfl) (by rfl) (by first | assumption | decide +kernel) (by decide +kernel) ⟨rfl, rfl, rfl, rfl, rfl, by decide +kernel⟩ ?hw ?hc
  case hw => w_witness2
  case hc =>
    refine LamX.walk_ofTsE (l := PySem.Challenge.rw_graphkinds_k75_whole_colours_and_complem) (n := 63) (k := 50) (x := "script") (CX := fun _ => L2.CX0) rfl (by decide) (by kernel_rfl) ⟨rfl, by decide, by decide⟩ ?F (fun _ _ _ _ _ z => z)
    intro w mg fa h Y G hmg0
    obtain ⟨K, KX, c⟩ := Y
    have hmg : mg ("law" : PySem.Str) = some (.ref fa) := by
      have e : (HandSHeadRun.topDef (PySem.W.OpenLaw.row PySem.Challenge.rw_graphkinds_k75_whole_colours_and_complem).prog 35).name = ("law" : PySem.Str) := by kernel_rfl
      rw [← e]
      exact hmg0
    exact ⟨K, KX, _root_.W3.facts75 KX G hmg c⟩
