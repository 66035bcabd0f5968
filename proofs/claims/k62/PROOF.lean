import PyProof.Rows.All
import HandS.HeadWalk
import Wide.All
import OpenK.AllK
import Wide.FinOn
import HandS.ForMost
import HandS.SortInts
import HandS.Lambda
import HandS.TupAny
import HandS.TupMul
import HandS.Style
import HandS.IsInst
import HandS.Deep
import HandS.Conv
import HandS.Rev
import HandS.Zip
import HandS.TupSets
import HandS.SortOrd
import HandS.DictTup
import HandS.SortRule
import HandS.List
import KE.KRevSl
import PyProof.ListRange
import HandS.Walk
import HandS.WordsDict
import HandS.TryOnly
import HandS.RevRange
import KE.GoesEnum
import KE.GoesMore
import PyProof.Rows.ChunkLeaf
import HandS.Iter
import HandS.Nested
import HandS.Ends
import HandS.EndTab
import KE.KeyNested
import KE.SortData
import HandS.Dict
import HandS.Text
import HandS.SetFor
import HandS.Strs
import PySem.Challenge.RW_roundfall_k62_classes_told
set_option Elab.async false
set_option linter.all false
set_option maxRecDepth 100000
set_option maxHeartbeats 2000000
namespace DD
open PySem L2
/-- data: what a value stands for. fz: a list that is only read (the script); dic, dit: dicts with flat keys, with tuples of flat keys -/
inductive D where
  | non | bl (b : Bool) | int (i : Int) | str (s : Str)
  | tup (ds : List D) | lst (ds : List D) | fz (ds : List D)
  | dic (ks : List Key) (ds : List D) | dit (ks : List (List Key)) (ds : List D)
  /-- a dict while it is walked: only read -/
  | fd (ks : List Key) (ds : List D)
  /-- an instance of the class C with one field, the dict at q, only read: what the dict holds -/
  | dk (C q : Addr) (ks : List Key) (ds : List D)
deriving Inhabited
/-- the tables of code objects that the law's defs fill -/
class Tbl where
  T : List (Addr × Str)
section
variable [Tb : Tbl]
/-- all but the tables stays, the tables grow -/
structure Ext (H H' : Hp) : Prop where
  to : ∀ a o, H a = some o → (∀ ps, o ≠ .tbl ps) → H' a = some o
  tab : LamX.Tabs Tb.T H → LamX.Tabs Tb.T H'
  dom : ∀ a, H' a = none → H a = none
theorem Ext.refl (H : Hp) : Ext H H := ⟨fun _ _ h _ => h, fun h => h, fun _ h => h⟩
theorem Ext.trans {H H1 H2 : Hp} (a : Ext H H1) (b : Ext H1 H2) : Ext H H2 := ⟨fun x o h n => b.to x o (a.to x o h n) n, fun h => b.tab (a.tab h), fun x h => a.dom x (b.dom x h)⟩
theorem Ext.of {H H' : Hp} (e : ∀ a o, H a = some o → H' a = some o) : Ext H H' := ⟨fun a o h _ => e a o h, fun h => h.ext e, fun a h => by
  cases q : H a with
  | none => rfl
  | some o => rw [e a o q] at h; cases h⟩
theorem Ext.new {H : Hp} {p : Addr} {o : HO} (h : H p = none) : Ext H (upd H p o) := .of fun a u e => by
  rw [upd_ne (ne_of_none e h)]; exact e
theorem Ext.back {H H' : Hp} (e : Ext H H') {a : Addr} (h : H' a = none) : H a = none := e.dom a h
theorem Ext.tup {H H' : Hp} (e : Ext H H') {a : Addr} {xs : List V} (h : H a = some (.tup xs)) : H' a = some (.tup xs) := e.to a _ h (fun _ z => by cases z)
theorem Ext.lst {H H' : Hp} (e : Ext H H') {a : Addr} {xs : List V} (h : H a = some (.lst xs)) : H' a = some (.lst xs) := e.to a _ h (fun _ z => by cases z)
theorem Ext.frz {H H' : Hp} (e : Ext H H') {a : Addr} {ob : Obj} {u : HO} (h : H a = some (.frz ob u)) : H' a = some (.frz ob u) := e.to a _ h (fun _ z => by cases z)
theorem Ext.dK {H H' : Hp} (e : Ext H H') {a : Addr} {xs : List (Key × V)} (h : H a = some (.dK xs)) : H' a = some (.dK xs) := e.to a _ h (fun _ z => by cases z)
theorem Ext.dT {H H' : Hp} (e : Ext H H') {a : Addr} {xs : List (List Key × V)} (h : H a = some (.dT xs)) : H' a = some (.dT xs) := e.to a _ h (fun _ z => by cases z)
theorem Ext.code {H H' : Hp} (e : Ext H H') {a c : Addr} {q : Str} (h : H a = some (LamX.CodeO c q)) : H' a = some (LamX.CodeO c q) := e.to a _ h LamX.codeO_ne
theorem Ext.tabs {H H' : Hp} (e : Ext H H') (h : LamX.Tabs Tb.T H) : LamX.Tabs Tb.T H' := e.tab h
theorem Ext.sqt {K : PySem.W.Frag} {H H' : Hp} (e : Ext H H') {a : Addr} {xs : List V} (h : SqT K H a xs) : SqT K H' a xs := by
  rcases h with (h | ⟨o, h⟩) | h
  · exact .inl (.inl (e.tup h))
  · exact .inl (.inr ⟨o, e.frz h⟩)
  · exact .inr h
theorem Ext.sql {K : PySem.W.Frag} {H H' : Hp} (e : Ext H H') {a : Addr} {xs : List V} (h : SqL K H a xs) : SqL K H' a xs := by
  rcases h with (h | ⟨o, h⟩) | h
  · exact .inl (.inl (e.lst h))
  · exact .inl (.inr ⟨o, e.frz h⟩)
  · exact .inr h
end
/-- the value v stands for d in the heap H; the cells that may change lie in N -/
def Fz (K : PySem.W.Frag) (H : Hp) (a : Addr) (vs : List V) : Prop :=
  (∃ o, H a = some (.frz o (.lst vs))) ∨
    ∃ (o : Obj) (its : Array Value) (n : Nat), K.lookup a = some o ∧ o.cls = .type "list" ∧ o.dict = none ∧ o.data = .seq its n ∧ its.size ≤ sizeLine ∧ Vals vs its.toList
theorem Fz.sql {K : PySem.W.Frag} {H : Hp} {a : Addr} {vs : List V} (h : Fz K H a vs) : SqL K H a vs := by
  rcases h with h | h
  · exact .inl (.inr h)
  · exact .inr h
/-- what is known of the class of a desk -/
structure DkC (K : PySem.W.Frag) (C : Addr) : Prop where
  cl : Cls K C
  ha : PySem.W.findIn K (.ref C) "__class__" = some (some (.builtin "object.__class__"))
  hn : PySem.W.specialIn K (.builtin "object.__class__") "__get__" = some (some (.builtin "getset_descriptor.__get__"))
  htk : PySem.W.takesIn K (.builtin "object.__class__") = some true
  hm : PySem.W.mroIn K C (.type "object") = some true
  no : ∀ T ∈ ["int", "bool", "str", "list", "tuple", "dict"], PySem.W.kitOne K (.ref C) (.type T) = some false
  nk : NoAttr K C "kept_runs"
mutual
def Rp (K : PySem.W.Frag) (N : Addr → Prop) (H : Hp) : D → V → Prop
  | .non, v => v = .non
  | .bl b, v => v = .bl b
  | .int i, v => v = .int i
  | .str x, v => v = .str x
  | .tup ds, v => ∃ a vs, v = .ref a ∧ SqT K H a vs ∧ Rps K N H ds vs
  | .lst ds, v => ∃ a vs, v = .ref a ∧ N a ∧ H a = some (.lst vs) ∧ Rps K N H ds vs
  | .fz ds, v => ∃ a vs, v = .ref a ∧ Fz K H a vs ∧ Rps K N H ds vs
  | .dic ks ds, v => ∃ a kvs, v = .ref a ∧ N a ∧ H a = some (.dK kvs) ∧ kvs.map (·.1) = ks ∧ Rps K N H ds (kvs.map (·.2))
  | .dit ks ds, v => ∃ a kvs, v = .ref a ∧ N a ∧ H a = some (.dT kvs) ∧ kvs.map (·.1) = ks ∧ Rps K N H ds (kvs.map (·.2))
  | .fd ks ds, v => ∃ a kvs, v = .ref a ∧ (∃ od, H a = some (.frz od (.dK kvs))) ∧ kvs.map (·.1) = ks ∧ Rps K N H ds (kvs.map (·.2))
  | .dk C q ks ds, v => ∃ p dx kvs, v = .ref p ∧ DkC K C ∧ H p = some (.ins C dx [("kept_runs", .ref q)]) ∧ (∃ od, H q = some (.frz od (.dK kvs))) ∧ kvs.map (·.1) = ks ∧ Rps K N H ds (kvs.map (·.2))
def Rps (K : PySem.W.Frag) (N : Addr → Prop) (H : Hp) : List D → List V → Prop
  | [], vs => vs = []
  | d :: ds, vs => ∃ v ws, vs = v :: ws ∧ Rp K N H d v ∧ Rps K N H ds ws
end
def MutO : HO → Prop
  | .lst _ => True
  | .dK _ => True
  | .dT _ => True
  | _ => False
theorem MutO.notbl {o : HO} (h : MutO o) (ps : Array Value) : o ≠ .tbl ps := by
  intro z; subst z; exact h
theorem tbl_upd {H : Hp} {p : Addr} {o o' : HO} (hp : H p = some o) (n1 : ∀ ps, o ≠ .tbl ps) (n2 : ∀ c q, o ≠ LamX.CodeO c q) {P : Addr} {q : Str} (h : LamX.TabS H P q) : LamX.TabS (upd H p o') P q := by
  obtain ⟨ps, h1, h2, h3⟩ := h
  refine ⟨ps, ?_, h2, fun pos cv e => ?_⟩
  · rw [upd_ne (fun z => by rw [z, hp] at h1; exact n1 _ (Option.some.inj h1))]; exact h1
  · obtain ⟨c, e1, e2⟩ := h3 pos cv e
    exact ⟨c, e1, by rw [upd_ne (fun z => by rw [z, hp] at e2; exact n2 _ _ (Option.some.inj e2))]; exact e2⟩
theorem tbl_mut {H : Hp} {p : Addr} {o o' : HO} (hp : H p = some o) (hm : MutO o) {P : Addr} {q : Str} (h : LamX.TabS H P q) : LamX.TabS (upd H p o') P q :=
  tbl_upd hp hm.notbl (fun c q z => by subst z; exact hm) h
theorem upd_none {H : Hp} {p b : Addr} {o : HO} (h : upd H p o b = none) : H b = none := by
  by_cases e : b = p
  · subst e; rw [upd_same] at h; cases h
  · rw [upd_ne e] at h; exact h
theorem Ext.mut [Tb : Tbl] {H H' : Hp} {p : Addr} {o o' : HO} (e : Ext H H') (hn : H p = none) (hp : H' p = some o) (hm : MutO o) : Ext H (upd H' p o') :=
  ⟨fun b u h nt => by rw [upd_ne (fun z => by rw [z, hn] at h; cases h)]; exact e.to b u h nt, fun h => fun r hr => tbl_mut hp hm (e.tab h r hr), fun b h => e.dom b (upd_none h)⟩
section
variable {K : PySem.W.Frag} {N N' : Addr → Prop} {H H' : Hp}
mutual
theorem Rp.keep (ht : ∀ a xs, SqT K H a xs → SqT K H' a xs) (hf : ∀ a xs, Fz K H a xs → Fz K H' a xs) (hz : ∀ a od u, H a = some (.frz od u) → H' a = some (.frz od u)) (hi : ∀ a C dx fs, H a = some (.ins C dx fs) → H' a = some (.ins C dx fs)) (hn : ∀ a o, MutO o → N a → H a = some o → N' a ∧ H' a = some o) : ∀ (d : D) (v : V), Rp K N H d v → Rp K N' H' d v
  | .non, v, h => by simp only [Rp] at h ⊢; exact h
  | .bl b, v, h => by simp only [Rp] at h ⊢; exact h
  | .int i, v, h => by simp only [Rp] at h ⊢; exact h
  | .str x, v, h => by simp only [Rp] at h ⊢; exact h
  | .tup ds, v, h => by
    simp only [Rp] at h ⊢
    obtain ⟨a, vs, e, s, r⟩ := h
    exact ⟨a, vs, e, ht a vs s, Rps.keep ht hf hz hi hn ds vs r⟩
  | .fz ds, v, h => by
    simp only [Rp] at h ⊢
    obtain ⟨a, vs, e, s, r⟩ := h
    exact ⟨a, vs, e, hf a vs s, Rps.keep ht hf hz hi hn ds vs r⟩
  | .lst ds, v, h => by
    simp only [Rp] at h ⊢
    obtain ⟨a, vs, e, n, s, r⟩ := h
    exact ⟨a, vs, e, (hn a (.lst vs) trivial n s).1, (hn a (.lst vs) trivial n s).2, Rps.keep ht hf hz hi hn ds vs r⟩
  | .dic ks ds, v, h => by
    simp only [Rp] at h ⊢
    obtain ⟨a, kvs, e, n, s, k, r⟩ := h
    exact ⟨a, kvs, e, (hn a (.dK kvs) trivial n s).1, (hn a (.dK kvs) trivial n s).2, k, Rps.keep ht hf hz hi hn ds _ r⟩
  | .dit ks ds, v, h => by
    simp only [Rp] at h ⊢
    obtain ⟨a, kvs, e, n, s, k, r⟩ := h
    exact ⟨a, kvs, e, (hn a (.dT kvs) trivial n s).1, (hn a (.dT kvs) trivial n s).2, k, Rps.keep ht hf hz hi hn ds _ r⟩
  | .fd ks ds, v, h => by
    simp only [Rp] at h ⊢
    obtain ⟨a, kvs, e, ⟨od, s⟩, k, r⟩ := h
    exact ⟨a, kvs, e, ⟨od, hz a od _ s⟩, k, Rps.keep ht hf hz hi hn ds _ r⟩
  | .dk C q ks ds, v, h => by
    simp only [Rp] at h ⊢
    obtain ⟨a, dx, kvs, e, c, t, ⟨od, s⟩, k, r⟩ := h
    exact ⟨a, dx, kvs, e, c, hi a C dx _ t, ⟨od, hz q od _ s⟩, k, Rps.keep ht hf hz hi hn ds _ r⟩
theorem Rps.keep (ht : ∀ a xs, SqT K H a xs → SqT K H' a xs) (hf : ∀ a xs, Fz K H a xs → Fz K H' a xs) (hz : ∀ a od u, H a = some (.frz od u) → H' a = some (.frz od u)) (hi : ∀ a C dx fs, H a = some (.ins C dx fs) → H' a = some (.ins C dx fs)) (hn : ∀ a o, MutO o → N a → H a = some o → N' a ∧ H' a = some o) : ∀ (ds : List D) (vs : List V), Rps K N H ds vs → Rps K N' H' ds vs
  | [], vs, h => by simp only [Rps] at h ⊢; exact h
  | d :: ds, vs, h => by
    simp only [Rps] at h ⊢
    obtain ⟨v, ws, e, r, q⟩ := h
    exact ⟨v, ws, e, Rp.keep ht hf hz hi hn d v r, Rps.keep ht hf hz hi hn ds ws q⟩
end
theorem Ext.fz [Tb : Tbl] (e : Ext H H') {a : Addr} {xs : List V} (h : Fz K H a xs) : Fz K H' a xs := by
  rcases h with ⟨o, h⟩ | h
  · exact .inl ⟨o, e.frz h⟩
  · exact .inr h
theorem Rp.ext [Tb : Tbl] {d : D} {v : V} (e : Ext H H') (h : Rp K N H d v) : Rp K N H' d v := Rp.keep (fun _ _ => e.sqt) (fun _ _ => e.fz) (fun _ _ _ z => e.frz z) (fun a _ _ _ z => e.to a _ z (fun _ y => by cases y)) (fun a o m n s => ⟨n, e.to a o s m.notbl⟩) d v h
theorem Rps.ext [Tb : Tbl] {d : List D} {v : List V} (e : Ext H H') (h : Rps K N H d v) : Rps K N H' d v := Rps.keep (fun _ _ => e.sqt) (fun _ _ => e.fz) (fun _ _ _ z => e.frz z) (fun a _ _ _ z => e.to a _ z (fun _ y => by cases y)) (fun a o m n s => ⟨n, e.to a o s m.notbl⟩) d v h
/-- weaker footprints: only of cells that stand -/
theorem Rp.imp {d : D} {v : V} (hn : ∀ a o, H a = some o → N a → N' a) (h : Rp K N H d v) : Rp K N' H d v := Rp.keep (fun _ _ z => z) (fun _ _ z => z) (fun _ _ _ z => z) (fun _ _ _ _ z => z) (fun a o _ n s => ⟨hn a o s n, s⟩) d v h
theorem Rps.imp {d : List D} {v : List V} (hn : ∀ a o, H a = some o → N a → N' a) (h : Rps K N H d v) : Rps K N' H d v := Rps.keep (fun _ _ z => z) (fun _ _ z => z) (fun _ _ _ z => z) (fun _ _ _ _ z => z) (fun a o _ n s => ⟨hn a o s n, s⟩) d v h
/-- a cell outside the footprint is written: a list, a dict -/
theorem mut_sqt {p : Addr} {o o' : HO} (hp : H p = some o) (ho : ∀ xs, o ≠ .tup xs) (hz : ∀ ob u, o ≠ .frz ob u) {a : Addr} {xs : List V} (h : SqT K H a xs) : SqT K (upd H p o') a xs := by
  rcases h with (h | ⟨ob, h⟩) | h
  · refine .inl (.inl ?_)
    rw [upd_ne]; exact h
    intro e; subst e; rw [hp] at h; cases h; exact ho _ rfl
  · refine .inl (.inr ⟨ob, ?_⟩)
    rw [upd_ne]; exact h
    intro e; subst e; rw [hp] at h; cases h; exact hz _ _ rfl
  · exact .inr h
theorem mut_fz {p : Addr} {o o' : HO} (hp : H p = some o) (hz : ∀ ob u, o ≠ .frz ob u) {a : Addr} {xs : List V} (h : Fz K H a xs) : Fz K (upd H p o') a xs := by
  rcases h with ⟨ob, h⟩ | h
  · refine .inl ⟨ob, ?_⟩
    rw [upd_ne]; exact h
    intro e; subst e; rw [hp] at h; cases h; exact hz _ _ rfl
  · exact .inr h
theorem Rp.mut {p : Addr} {o o' : HO} (hp : H p = some o) (hm : MutO o) (hN : ∀ a o, H a = some o → N a → a ≠ p) {d : D} {v : V} (h : Rp K N H d v) : Rp K N (upd H p o') d v :=
  Rp.keep (fun _ _ z => mut_sqt hp (by intro xs e; subst e; exact hm) (by intro ob u e; subst e; exact hm) z) (fun _ _ z => mut_fz hp (by intro ob u e; subst e; exact hm) z) (fun a od u z => by rw [upd_ne (fun e => by rw [e, hp] at z; cases z; exact hm)]; exact z) (fun a _ _ _ z => by rw [upd_ne (fun e => by rw [e, hp] at z; cases z; exact hm)]; exact z) (fun a o _ n s => ⟨n, by rw [upd_ne (hN a o s n)]; exact s⟩) d v h
theorem Rps.mut {p : Addr} {o o' : HO} (hp : H p = some o) (hm : MutO o) (hN : ∀ a o, H a = some o → N a → a ≠ p) {d : List D} {v : List V} (h : Rps K N H d v) : Rps K N (upd H p o') d v :=
  Rps.keep (fun _ _ z => mut_sqt hp (by intro xs e; subst e; exact hm) (by intro ob u e; subst e; exact hm) z) (fun _ _ z => mut_fz hp (by intro ob u e; subst e; exact hm) z) (fun a od u z => by rw [upd_ne (fun e => by rw [e, hp] at z; cases z; exact hm)]; exact z) (fun a _ _ _ z => by rw [upd_ne (fun e => by rw [e, hp] at z; cases z; exact hm)]; exact z) (fun a o _ n s => ⟨n, by rw [upd_ne (hN a o s n)]; exact s⟩) d v h
theorem Rps.length : ∀ {ds : List D} {vs : List V}, Rps K N H ds vs → ds.length = vs.length
  | [], vs, h => by simp only [Rps] at h; subst h; rfl
  | d :: ds, vs, h => by
    simp only [Rps] at h
    obtain ⟨v, ws, e, _, q⟩ := h
    subst e
    simp [Rps.length q]
theorem Rps.get : ∀ {ds : List D} {vs : List V} {i : Nat} {d : D}, Rps K N H ds vs → ds[i]? = some d → ∃ v, vs[i]? = some v ∧ Rp K N H d v
  | [], vs, i, d, h, e => by simp at e
  | d' :: ds, vs, i, d, h, e => by
    simp only [Rps] at h
    obtain ⟨v, ws, e', r, q⟩ := h
    subst e'
    cases i with
    | zero => simp at e; subst e; exact ⟨v, by simp, r⟩
    | succ j => 
      obtain ⟨u, h1, h2⟩ := Rps.get (i := j) q (by simpa using e)
      exact ⟨u, by simpa using h1, h2⟩
theorem Rps.append : ∀ {ds es : List D} {vs ws : List V}, Rps K N H ds vs → Rps K N H es ws → Rps K N H (ds ++ es) (vs ++ ws)
  | [], es, vs, ws, h, h' => by simp only [Rps] at h; subst h; exact h'
  | d :: ds, es, vs, ws, h, h' => by
    simp only [Rps] at h
    obtain ⟨v, us, e, r, q⟩ := h
    subst e
    simp only [List.cons_append, Rps]
    exact ⟨v, us ++ ws, rfl, r, Rps.append q h'⟩
theorem Rps.one {d : D} {v : V} (h : Rp K N H d v) : Rps K N H [d] [v] := by simp only [Rps]; exact ⟨v, [], rfl, h, rfl⟩
theorem Rps.nil : Rps K N H [] [] := by simp only [Rps]
theorem Rps.cons {d : D} {v : V} {ds : List D} {vs : List V} (h : Rp K N H d v) (q : Rps K N H ds vs) : Rps K N H (d :: ds) (v :: vs) := by simp only [Rps]; exact ⟨v, vs, rfl, h, q⟩
theorem Rps.take : ∀ {ds : List D} {vs : List V} (n : Nat), Rps K N H ds vs → Rps K N H (ds.take n) (vs.take n)
  | ds, vs, 0, h => by simp only [List.take_zero]; exact Rps.nil
  | [], vs, n + 1, h => by simp only [Rps] at h; subst h; simp only [List.take_nil]; exact Rps.nil
  | d :: ds, vs, n + 1, h => by
    simp only [Rps] at h
    obtain ⟨v, us, e, r, q⟩ := h
    subst e
    simp only [List.take_succ_cons]
    exact Rps.cons r (Rps.take n q)
theorem Rps.drop : ∀ {ds : List D} {vs : List V} (n : Nat), Rps K N H ds vs → Rps K N H (ds.drop n) (vs.drop n)
  | ds, vs, 0, h => by simpa only [List.drop_zero] using h
  | [], vs, n + 1, h => by simp only [Rps] at h; subst h; simp only [List.drop_nil]; exact Rps.nil
  | d :: ds, vs, n + 1, h => by
    simp only [Rps] at h
    obtain ⟨v, us, e, r, q⟩ := h
    subst e
    simp only [List.drop_succ_cons]
    exact Rps.drop n q
theorem Rps.reverse : ∀ {ds : List D} {vs : List V}, Rps K N H ds vs → Rps K N H ds.reverse vs.reverse
  | [], vs, h => by simp only [Rps] at h; subst h; exact Rps.nil
  | d :: ds, vs, h => by
    simp only [Rps] at h
    obtain ⟨v, us, e, r, q⟩ := h
    subst e
    simp only [List.reverse_cons]
    exact Rps.append (Rps.reverse q) (Rps.one r)
theorem Rps.set : ∀ {ds : List D} {vs : List V} {d : D} {v : V} (i : Nat), Rps K N H ds vs → Rp K N H d v → Rps K N H (ds.set i d) (vs.set i v)
  | [], vs, d, v, i, h, r => by simp only [Rps] at h; subst h; simp only [List.set_nil]; exact Rps.nil
  | d' :: ds, vs, d, v, i, h, r => by
    simp only [Rps] at h
    obtain ⟨v', us, e, r', q⟩ := h
    subst e
    cases i with
    | zero => simp only [List.set_cons_zero]; exact Rps.cons r q
    | succ j => simp only [List.set_cons_succ]; exact Rps.cons r' (Rps.set j q r)
theorem Rps.dropLast {ds : List D} {vs : List V} (h : Rps K N H ds vs) : Rps K N H ds.dropLast vs.dropLast := by
  rw [List.dropLast_eq_take, List.dropLast_eq_take, h.length]; exact h.take _
theorem Rps.ints : ∀ {ns : List Int} {vs : List V}, Rps K N H (ns.map D.int) vs → vs = ns.map V.int
  | [], vs, h => by simpa only [List.map_nil, Rps] using h
  | n :: ns, vs, h => by
    simp only [List.map_cons, Rps, Rp] at h
    obtain ⟨v, us, e, r, q⟩ := h
    subst e; subst r
    rw [Rps.ints q]; rfl
theorem Rps.of_ints : ∀ (ns : List Int), Rps K N H (ns.map D.int) (ns.map V.int)
  | [] => Rps.nil
  | n :: ns => Rps.cons (by simp only [Rp]) (Rps.of_ints ns)
end
mutual
def imm : D → Bool
  | .non => true | .bl _ => true | .int _ => true | .str _ => true
  | .tup ds => immL ds
  | .lst _ => false
  | .fz ds => immL ds
  | .dic _ _ => false
  | .dit _ _ => false
  | .fd _ _ => false
  | .dk _ _ _ _ => false
def immL : List D → Bool
  | [] => true
  | d :: ds => imm d && immL ds
end
section
variable {K : PySem.W.Frag} {N N' : Addr → Prop} {H H' : Hp}
mutual
theorem Rp.im (ht : ∀ a xs, SqT K H a xs → SqT K H' a xs) (hf : ∀ a xs, Fz K H a xs → Fz K H' a xs) : ∀ (d : D) (v : V), imm d = true → Rp K N H d v → Rp K N' H' d v
  | .non, v, i, h => by simp only [Rp] at h ⊢; exact h
  | .bl b, v, i, h => by simp only [Rp] at h ⊢; exact h
  | .int _, v, i, h => by simp only [Rp] at h ⊢; exact h
  | .str x, v, i, h => by simp only [Rp] at h ⊢; exact h
  | .tup ds, v, i, h => by
    simp only [Rp] at h ⊢
    obtain ⟨a, vs, e, s, r⟩ := h
    exact ⟨a, vs, e, ht a vs s, Rps.im ht hf ds vs (by simpa only [imm] using i) r⟩
  | .fz ds, v, i, h => by
    simp only [Rp] at h ⊢
    obtain ⟨a, vs, e, s, r⟩ := h
    exact ⟨a, vs, e, hf a vs s, Rps.im ht hf ds vs (by simpa only [imm] using i) r⟩
  | .lst ds, v, i, h => by simp [imm] at i
  | .dic ks ds, v, i, h => by simp [imm] at i
  | .dit ks ds, v, i, h => by simp [imm] at i
  | .fd ks ds, v, i, h => by simp [imm] at i
  | .dk C q ks ds, v, i, h => by simp [imm] at i
theorem Rps.im (ht : ∀ a xs, SqT K H a xs → SqT K H' a xs) (hf : ∀ a xs, Fz K H a xs → Fz K H' a xs) : ∀ (ds : List D) (vs : List V), immL ds = true → Rps K N H ds vs → Rps K N' H' ds vs
  | [], vs, i, h => by simp only [Rps] at h ⊢; exact h
  | d :: ds, vs, i, h => by
    simp only [Rps] at h ⊢
    simp only [immL, Bool.and_eq_true] at i
    obtain ⟨v, ws, e, r, q⟩ := h
    exact ⟨v, ws, e, Rp.im ht hf d v i.1 r, Rps.im ht hf ds ws i.2 q⟩
end
theorem Rp.any {d : D} {v : V} (i : imm d = true) (h : Rp K N H d v) : Rp K N' H d v := Rp.im (fun _ _ z => z) (fun _ _ z => z) d v i h
theorem Rps.any {ds : List D} {vs : List V} (i : immL ds = true) (h : Rps K N H ds vs) : Rps K N' H ds vs := Rps.im (fun _ _ z => z) (fun _ _ z => z) ds vs i h
end
theorem immL_iff {ds : List D} : immL ds = true ↔ ∀ d ∈ ds, imm d = true := by
  induction ds with
  | nil => simp [immL]
  | cons d ds ih => simp [immL, ih]
end DD
set_option Elab.async false
set_option linter.all false
set_option maxRecDepth 100000
set_option maxHeartbeats 2000000
namespace DD
open PySem L2
inductive BinK | add | sub | mul | fdiv | mod | pow | shl | shr | band | bor
deriving DecidableEq
inductive CmpK | eq | ne | lt | le | gt | ge | isin | notin
deriving DecidableEq
inductive BI | len | abs | int | str | list | tuple | sum | min | max | sorted
deriving DecidableEq
/-- a target: a name, names in brackets -/
inductive Tg | nm (i : Nat) | tp (is : List Nat)
mutual
inductive CE
  | var (i : Nat)
  | glob (k : Nat)
  | non | bl (b : Bool) | int (i : Int) | str (x : Str)
  | bin (k : BinK) (a b : CE)
  | neg (a : CE)
  | cmp (k : CmpK) (a b : CE)
  | cmp2 (k k' : CmpK) (a b c : CE)
  | isN (n : Bool) (a : CE)
  | isB (n : Bool) (b : Bool) (a : CE)
  | and (a b : CE) | or (a b : CE) | not (a : CE)
  | tup (as : CAs) | lst (as : CAs) | dnil
  | ix (a b : CE)
  | sl (a : CE) (lo hi : CO)
  | bi (b : BI) (as : CAs)
  | isi (T : String) (a : CE)
  | isi2 (T U : String) (a : CE)
  | call (k : Nat) (as : CAs)
  | lrev (a : CE)
  | lrv (a : CE)
  | mcl (k : Nat) (as : CAs)
  | srt (a : CE)
  | dget1 (a k : CE)
  | dget2 (a k d : CE)
  | lc (own : List (Str × Nat)) (t : Tg) (it : CI) (c : CE) (e : CE)
  | lcd (own : List (Str × Nat)) (t : Tg) (i : Nat) (c : CE) (e : CE)
  /-- a name's function called -/
  | app (i : Nat) (as : CAs)
  /-- a def called that is handed a name's function first -/
  | callC (k i : Nat) (as : CAs)
  /-- a def called with a lambda made for it, which captures the slots cap -/
  | callL (k l : Nat) (cap : List Nat) (as : CAs)
  /-- the same, the lambda in the second place, a name in the first -/
  | callL1 (k l : Nat) (cap : List Nat) (i : Nat) (as : CAs)
  /-- an operation of its own -/
  | op (k : Nat) (as : CAs)
  /-- a method of the object in a slot called, which is only read -/
  | meth (k i : Nat) (as : CAs)
inductive CAs
  | nil | cons (c : CE) (cs : CAs)
inductive CO
  | none | some (c : CE)
/-- what is walked -/
inductive CI
  | op (k : Nat) (c : CE) | val (c : CE) | rng1 (a : CE) | rng2 (a b : CE) | rng3 (a b c : CE) | rrng2 (a b : CE) | enum (c : CE) | zip (a b : CE)
end
theorem dte {p : Prop} {i : Decidable p} : (@decide p i = true) = p := by cases i <;> simp_all
mutual
def toPy : D → PyData
  | .non => .none | .bl b => .bool b | .int i => .int i | .str x => .str x
  | .tup ds => .tuple (toPys ds)
  | .lst ds => .list (toPys ds)
  | .fz ds => .list (toPys ds)
  | .dic _ _ => .dict [] | .dit _ _ => .dict [] | .fd _ _ => .dict [] | .dk _ _ _ _ => .dict []
def toPys : List D → List PyData
  | [] => []
  | d :: ds => toPy d :: toPys ds
end
def shp (d : D) : Bool := SeqAt.shaped (toPy d)
/-- x == y -/
def dEq (a b : D) : Option Bool :=
  match a, b with
  | .int i, .int j => some (decide (i = j))
  | .str x, .str y => some (decide (x = y))
  | a, b => if shp a && shp b then some (PyData.eqv (toPy a) (toPy b)) else none
def lim : Nat := 100000
def hasK (q : Key) (ks : List Key) : Bool := ks.any fun k => decide (k = q)
noncomputable def dBin (k : BinK) (a b : D) : Option D :=
  match k, a, b with
  | .add, .int i, .int j => some (.int (i + j))
  | .sub, .int i, .int j => some (.int (i - j))
  | .mul, .int i, .int j => if (@decide (-(2 ^ 64) < i) (Classical.propDecidable _) && @decide (i < 2 ^ 64) (Classical.propDecidable _)) || (@decide (-(2 ^ 64) < j) (Classical.propDecidable _) && @decide (j < 2 ^ 64) (Classical.propDecidable _)) then some (.int (i * j)) else none
  | .fdiv, .int i, .int j => if @decide (0 < j) (Classical.propDecidable _) && @decide (j < 1073741824) (Classical.propDecidable _) then some (.int (i / j)) else none
  | .mod, .int i, .int j => if @decide (0 < j) (Classical.propDecidable _) then some (.int (i % j)) else none
  | .pow, .int i, .int j => if @decide (0 ≤ j) (Classical.propDecidable _) && @decide (j ≤ 1000000) (Classical.propDecidable _) && @decide (i.natAbs < 2 ^ 64) (Classical.propDecidable _) then some (.int (i ^ j.toNat)) else none
  | .shl, .int i, .int j => if @decide (0 ≤ j) (Classical.propDecidable _) && @decide (j ≤ 1000000) (Classical.propDecidable _) && @decide (i.natAbs < 2 ^ 64) (Classical.propDecidable _) then some (.int (i * 2 ^ j.toNat)) else none
  | .shr, .int i, .int j => if @decide (0 ≤ j) (Classical.propDecidable _) then some (.int (i / 2 ^ j.toNat)) else none
  | .band, .int i, .int j => some (.int (Builtin.bitAnd i j))
  | .bor, .int i, .int j => some (.int (Builtin.bitOr i j))
  | .add, .str x, .str y => if x.length + y.length ≤ lim then some (.str (x ++ y)) else none
  | .add, .tup xs, .tup ys => if xs.length + ys.length ≤ lim then some (.tup (xs ++ ys)) else none
  | .add, .lst xs, .lst ys => if xs.length + ys.length ≤ lim then some (.lst (xs ++ ys)) else none
  | .mul, .lst xs, .int k => if @decide (0 ≤ k) (Classical.propDecidable _) && @decide (k ≤ lim) (Classical.propDecidable _) && @decide (xs.length * k.toNat ≤ lim) (Classical.propDecidable _) then some (.lst (List.replicate k.toNat xs).flatten) else none
  | .mul, .tup xs, .int k => if @decide (2 ≤ k) (Classical.propDecidable _) && @decide (k ≤ 1000) (Classical.propDecidable _) && @decide (1 ≤ xs.length) (Classical.propDecidable _) && @decide (xs.length ≤ 1000) (Classical.propDecidable _) then some (.tup (List.replicate k.toNat xs).flatten) else none
  | _, _, _ => none
def dCmp (k : CmpK) (a b : D) : Option Bool :=
  match k with
  | .eq => dEq a b
  | .ne => (dEq a b).map not
  | .lt => match a, b with | .int i, .int j => some (decide (i < j)) | _, _ => none
  | .le => match a, b with | .int i, .int j => some (decide (i ≤ j)) | _, _ => none
  | .gt => match a, b with | .int i, .int j => some (decide (j < i)) | _, _ => none
  | .ge => match a, b with | .int i, .int j => some (decide (j ≤ i)) | _, _ => none
  | .isin => match b with
    | .tup ds => if shp a && shp (.tup ds) then some (ds.any fun z => PyData.eqv (toPy z) (toPy a)) else none
    | .lst ds => if shp a && shp (.lst ds) then some (ds.any fun z => PyData.eqv (toPy z) (toPy a)) else none
    | .fz ds => if shp a && shp (.lst ds) then some (ds.any fun z => PyData.eqv (toPy z) (toPy a)) else none
    | .dic ks _ => match a with | .int i => some (hasK (.inl i) ks) | .str x => some (hasK (.inr x) ks) | _ => none
    | _ => none
  | .notin => match b with
    | .tup ds => if shp a && shp (.tup ds) then some (!(ds.any fun z => PyData.eqv (toPy z) (toPy a))) else none
    | .lst ds => if shp a && shp (.lst ds) then some (!(ds.any fun z => PyData.eqv (toPy z) (toPy a))) else none
    | .fz ds => if shp a && shp (.lst ds) then some (!(ds.any fun z => PyData.eqv (toPy z) (toPy a))) else none
    | .dic ks _ => match a with | .int i => some (!hasK (.inl i) ks) | .str x => some (!hasK (.inr x) ks) | _ => none
    | _ => none
def keyD : D → Option Key
  | .int i => some (.inl i) | .str x => some (.inr x) | _ => none
def lookD : List Key → List D → Key → Option D
  | k :: ks, d :: ds, q => if q = k then some d else lookD ks ds q
  | _, _, _ => none
def keyV : Key → D
  | .inl i => .int i
  | .inr x => .str x
/-- what a walk over a dict tells -/
def keysD : D → Option (List D)
  | .dic ks _ => some (ks.map keyV)
  | .dit ks _ => some (ks.map fun k => .tup (k.map keyV))
  | _ => none
def prsOf : List Key → List D → Option (List (Int × Int))
  | [], [] => some []
  | .inl k :: ks, .int v :: ds => (prsOf ks ds).map ((k, v) :: ·)
  | _, _ => none
def sortP (ps : List (Int × Int)) : List (Int × Int) := ps.mergeSort fun a b => !SrtO.lexB b a
def prD (p : Int × Int) : D := .tup [.int p.1, .int p.2]
/-- sorted(d.items()) -/
def dSrt : D → Option D
  | .dic ks ds => (prsOf ks ds).map fun ps => .lst ((sortP ps).map prD)
  | _ => none
/-- d.get(k) -/
def dGet (a b : D) : Option (Option D) :=
  match a with
  | .dic ks ds => (keyD b).map fun q => lookD ks ds q
  | _ => none
def dIx (a b : D) : Option D :=
  match a, b with
  | .tup ds, .int i => atI ds i
  | .lst ds, .int i => atI ds i
  | .fz ds, .int i => atI ds i
  | .str x, .int i => if x.length ≤ lim then (atI x.cps.toList i).map fun c => .str ⟨#[c]⟩ else none
  | .dic ks ds, k => (keyD k).bind fun q => lookD ks ds q
  | .fd ks ds, k => (keyD k).bind fun q => lookD ks ds q
  | _, _ => none
def cutD {α : Type} (xs : List α) (lo hi : Option Int) : List α := (xs.drop (HT.sIx xs.length 0 lo)).take (HT.sIx xs.length xs.length hi - HT.sIx xs.length 0 lo)
def dSl (a : D) (lo hi : Option Int) : Option D :=
  match a with
  | .tup ds => some (.tup (cutD ds lo hi))
  | .lst ds => some (.lst (cutD ds lo hi))
  | .fz ds => some (.lst (cutD ds lo hi))
  | _ => none
def intsOf : List D → Option (List Int)
  | [] => some []
  | .int i :: ds => (intsOf ds).map (i :: ·)
  | _ => none
def dLen (as : List D) : Option D :=
  match as with
  | [.tup ds] => if ds.length ≤ lim then some (.int ds.length) else none
  | [.lst ds] => if ds.length ≤ lim then some (.int ds.length) else none
  | [.fz ds] => if ds.length ≤ lim then some (.int ds.length) else none
  | [.str x] => if x.length ≤ lim then some (.int x.length) else none
  | [.dic ks _] => some (.int ks.length)
  | _ => none
def dAbs (as : List D) : Option D := match as with | [.int i] => some (.int (if i < 0 then -i else i)) | _ => none
def dInt (as : List D) : Option D := match as with | [.int i] => some (.int i) | [.bl b] => some (.int (if b then 1 else 0)) | _ => none
noncomputable def dStr (as : List D) : Option D := match as with | [.int i] => if @decide (i.natAbs.log2 < 1920) (Classical.propDecidable _) then some (.str (toString i)) else none | _ => none
def dList (as : List D) : Option D := match as with | [.tup ds] => some (.lst ds) | [.lst ds] => some (.lst ds) | [.fz ds] => some (.lst ds) | _ => none
def dTuple (as : List D) : Option D := match as with | [.lst ds] => some (.tup ds) | [.fz ds] => some (.tup ds) | [.tup ds] => some (.tup ds) | _ => none
def dSum (as : List D) : Option D := match as with | [.lst ds] => (intsOf ds).map fun ns => .int ns.sum | [.fz ds] => (intsOf ds).map fun ns => .int ns.sum | _ => none
def minL : List Int → Option D | n :: ns => some (.int (ns.foldl min n)) | [] => none
def maxL : List Int → Option D | n :: ns => some (.int (ns.foldl max n)) | [] => none
def dMin (as : List D) : Option D := match as with | [.int i, .int j] => some (.int (if j < i then j else i)) | [.lst ds] => (intsOf ds).bind minL | [.tup ds] => (intsOf ds).bind minL | _ => none
def dMax (as : List D) : Option D := match as with | [.int i, .int j] => some (.int (if j > i then j else i)) | [.lst ds] => (intsOf ds).bind maxL | [.tup ds] => (intsOf ds).bind maxL | _ => none
def sortI (ns : List Int) : List Int := ns.mergeSort fun a b => decide (a ≤ b)
/-- three whole numbers from 0 to 63 in a tuple -/
def triOf : D → Option (List Int)
  | .tup [.int a, .int b, .int c] => if decide (0 ≤ a) && decide (a < 64) && decide (0 ≤ b) && decide (b < 64) && decide (0 ≤ c) && decide (c < 64) then some [a, b, c] else none
  | _ => none
def trisOf : List D → Option (List (List Int))
  | [] => some []
  | d :: ds => (triOf d).bind fun t => (trisOf ds).map (t :: ·)
def triD (ns : List Int) : D := .tup (ns.map .int)
def sortT (ts : List (List Int)) : List (List Int) := ts.mergeSort fun a b => decide (TS.code 64 a ≤ TS.code 64 b)
def kintsOf : List Key → Option (List Int)
  | [] => some []
  | .inl i :: ks => (kintsOf ks).map (i :: ·)
  | _ => none
theorem kintsOf_of (ns : List Int) : kintsOf (ns.map Sum.inl) = some ns := by
  induction ns with
  | nil => rfl
  | cons n ns ih => simp [kintsOf, ih]
theorem kintsOf_spec : ∀ {ks : List Key} {ns : List Int}, kintsOf ks = some ns → ks = ns.map Sum.inl
  | [], ns, h => by cases h; rfl
  | .inl i :: ks, ns, h => by
    simp only [kintsOf] at h
    cases e : kintsOf ks with
    | none => rw [e] at h; cases h
    | some ms => rw [e] at h; cases h; rw [kintsOf_spec e]; rfl
  | .inr x :: ks, ns, h => by simp [kintsOf] at h
def dSorted (as : List D) : Option D := match as with
  | [.lst ds] => match intsOf ds with
    | some ns => some (.lst ((sortI ns).map .int))
    | none => if ds.length < 64 then (trisOf ds).map fun ts => .lst ((sortT ts).map triD) else none
  | [.fz ds] => (intsOf ds).map fun ns => .lst ((sortI ns).map .int)
  | [.dic ks _] => if ks.length < 64 then (kintsOf ks).map fun ns => .lst ((sortI ns).map .int) else none
  | _ => none
noncomputable def dBI (b : BI) (as : List D) : Option D :=
  match b with
  | .len => dLen as | .abs => dAbs as | .int => dInt as | .str => dStr as | .list => dList as | .tuple => dTuple as | .sum => dSum as | .min => dMin as | .max => dMax as | .sorted => dSorted as
def tyD : D → String
  | .non => "NoneType" | .bl _ => "bool" | .int _ => "int" | .str _ => "str" | .tup _ => "tuple" | .lst _ => "list" | .fz _ => "list" | .dic _ _ => "dict" | .dit _ _ => "dict" | .fd _ _ => "dict" | .dk _ _ _ _ => "Desk"
def isDk : D → Bool | .dk _ _ _ _ => true | _ => false
def dIsi (T : String) (d : D) : Option Bool := if isDk d then some false else kitB (tyD d) T
/-- a made function: its object, its code object, that one's name, what its captured names hold -/
structure CV where
  a : Addr
  c : Addr
  q : Str
  ws : List V
  ds : List D
inductive Sl | sh (d : D) | ow (d : D) | cl (v : CV)
abbrev Rho := List (Option Sl)
inductive Fl | sh | bo | fr
deriving DecidableEq
/-- G: what must stay; S: where shared cells may lie; N0: new since the entry -/
structure Bs where
  S : Addr → Prop
  N0 : Addr → Prop
  G : Hp
  P : List (Nat × Addr)
def isMut : D → Bool
  | .lst _ => true | .dic _ _ => true | .dit _ _ => true | _ => false
def Own (ρ : Rho) (σ : St) (a : Addr) : Prop := ∃ (i : Nat) (d : D), ρ[i]? = some (some (.ow d)) ∧ σ[i]? = some (some (.ref a))
def Nsh (B : Bs) (ρ : Rho) (σ : St) : Addr → Prop := fun a => B.S a ∧ ¬ Own ρ σ a
/-- a value whose own cell stands apart from what it holds -/
def Sep (K : PySem.W.Frag) (N T : Addr → Prop) (H : Hp) : D → V → Prop
  | .lst ds, v => ∃ a vs, v = .ref a ∧ T a ∧ H a = some (.lst vs) ∧ Rps K (fun b => N b ∧ b ≠ a) H ds vs
  | .dic ks ds, v => ∃ a kvs, v = .ref a ∧ T a ∧ H a = some (.dK kvs) ∧ kvs.map (·.1) = ks ∧ Rps K (fun b => N b ∧ b ≠ a) H ds (kvs.map (·.2))
  | .dit ks ds, v => ∃ a kvs, v = .ref a ∧ T a ∧ H a = some (.dT kvs) ∧ kvs.map (·.1) = ks ∧ Rps K (fun b => N b ∧ b ≠ a) H ds (kvs.map (·.2))
  | d, v => Rp K N H d v
section
variable {K : PySem.W.Frag} {N N' T T' : Addr → Prop} {H H' : Hp} {d : D} {v : V}
theorem Sep.rp (h : Sep K N T H d v) : Rp K (fun a => N a ∨ T a) H d v := by
  cases d <;> simp only [Sep] at h <;> try exact Rp.imp (fun a _ _ n => .inl n) h
  · obtain ⟨a, vs, e, t, s, r⟩ := h
    simp only [Rp]; exact ⟨a, vs, e, .inr t, s, Rps.imp (fun b _ _ n => .inl n.1) r⟩
  · obtain ⟨a, vs, e, t, s, k, r⟩ := h
    simp only [Rp]; exact ⟨a, vs, e, .inr t, s, k, Rps.imp (fun b _ _ n => .inl n.1) r⟩
  · obtain ⟨a, vs, e, t, s, k, r⟩ := h
    simp only [Rp]; exact ⟨a, vs, e, .inr t, s, k, Rps.imp (fun b _ _ n => .inl n.1) r⟩
theorem Sep.imp (hn : ∀ a o, H a = some o → N a → N' a) (ht : ∀ a o, H a = some o → T a → T' a) (h : Sep K N T H d v) : Sep K N' T' H d v := by
  cases d <;> simp only [Sep] at h ⊢ <;> try exact Rp.imp hn h
  · obtain ⟨a, vs, e, t, s, r⟩ := h
    exact ⟨a, vs, e, ht a _ s t, s, Rps.imp (fun b o q n => ⟨hn b o q n.1, n.2⟩) r⟩
  · obtain ⟨a, vs, e, t, s, k, r⟩ := h
    exact ⟨a, vs, e, ht a _ s t, s, k, Rps.imp (fun b o q n => ⟨hn b o q n.1, n.2⟩) r⟩
  · obtain ⟨a, vs, e, t, s, k, r⟩ := h
    exact ⟨a, vs, e, ht a _ s t, s, k, Rps.imp (fun b o q n => ⟨hn b o q n.1, n.2⟩) r⟩
theorem Sep.ext [Tb : Tbl] (e : Ext H H') (h : Sep K N T H d v) : Sep K N T H' d v := by
  cases d <;> simp only [Sep] at h ⊢ <;> try exact Rp.ext e h
  · obtain ⟨a, vs, q, t, s, r⟩ := h
    exact ⟨a, vs, q, t, e.lst s, r.ext e⟩
  · obtain ⟨a, vs, q, t, s, k, r⟩ := h
    exact ⟨a, vs, q, t, e.dK s, k, r.ext e⟩
  · obtain ⟨a, vs, q, t, s, k, r⟩ := h
    exact ⟨a, vs, q, t, e.dT s, k, r.ext e⟩
theorem Sep.of_rp (hm : isMut d = false) (h : Rp K N H d v) : Sep K N T H d v := by
  cases d <;> simp [isMut] at hm <;> exact h
theorem Sep.to_rp (hm : isMut d = false) (h : Sep K N T H d v) : Rp K N H d v := by
  cases d <;> simp [isMut] at hm <;> exact h
end
section
variable [Tb : Tbl]
structure StOk (K : PySem.W.Frag) (B : Bs) (ρ : Rho) (σ : St) (H : Hp) : Prop where
  len : ρ.length = σ.length
  keep : Ext B.G H
  fresh : ∀ a, H a = none → B.S a ∧ B.N0 a
  sh : ∀ (i : Nat) (d : D), ρ[i]? = some (some (.sh d)) → ∃ v, σ[i]? = some (some v) ∧ Rp K (Nsh B ρ σ) H d v
  ow : ∀ (i : Nat) (d : D), ρ[i]? = some (some (.ow d)) → ∃ v, σ[i]? = some (some v) ∧ isMut d = true ∧ Sep K (Nsh B ρ σ) (fun a => B.S a ∧ B.N0 a ∧ B.G a = none) H d v
  dis : ∀ (i j : Nat) (d e : D) (a : Addr), ρ[i]? = some (some (.ow d)) → ρ[j]? = some (some (.ow e)) → σ[i]? = some (some (.ref a)) → σ[j]? = some (some (.ref a)) → i = j
  pin : ∀ (i : Nat) (a : Addr), (i, a) ∈ B.P → σ[i]? = some (some (.ref a))
  tabs : LamX.Tabs Tb.T H
  clo : ∀ (i : Nat) (v : CV), ρ[i]? = some (some (.cl v)) → σ[i]? = some (some (.ref v.a)) ∧ H v.c = some (LamX.CodeO v.c v.q) ∧ Rps K (Nsh B ρ σ) H v.ds v.ws
def Res (K : PySem.W.Frag) (B : Bs) (ρ : Rho) (σ : St) (H H' : Hp) : Fl → D → V → Prop
  | .sh, d, v => Rp K (Nsh B ρ σ) H' d v
  | .fr, d, v => Sep K (Nsh B ρ σ) (fun a => H a = none) H' d v
  | .bo, d, v => Sep K (Nsh B ρ σ) (Own ρ σ) H' d v
section
variable {K : PySem.W.Frag} {B : Bs} {ρ : Rho} {σ : St} {H H1 H2 H' : Hp} {fl : Fl} {d : D} {v : V}
theorem StOk.ext (S : StOk K B ρ σ H) (e : Ext H H') : StOk K B ρ σ H' :=
  ⟨S.len, S.keep.trans e, fun a h => S.fresh a (e.back h), fun i d h => let ⟨v, h1, h2⟩ := S.sh i d h; ⟨v, h1, h2.ext e⟩,
    fun i d h => let ⟨v, h1, h2, h3⟩ := S.ow i d h; ⟨v, h1, h2, h3.ext e⟩, S.dis, S.pin, e.tabs S.tabs, fun i v h => let ⟨h1, h2, h3⟩ := S.clo i v h; ⟨h1, e.code h2, h3.ext e⟩⟩
theorem Sep.tracked {N T : Addr → Prop} {a : Addr} (hm : isMut d = true) (h : Sep K N T H d (.ref a)) : ∃ o, H a = some o ∧ MutO o ∧ T a := by
  cases d <;> simp [isMut] at hm <;> simp only [Sep] at h
  · obtain ⟨b, vs, e, t, s, _⟩ := h; cases e; exact ⟨_, s, trivial, t⟩
  · obtain ⟨b, vs, e, t, s, _⟩ := h; cases e; exact ⟨_, s, trivial, t⟩
  · obtain ⟨b, vs, e, t, s, _⟩ := h; cases e; exact ⟨_, s, trivial, t⟩
theorem StOk.own (S : StOk K B ρ σ H) {a : Addr} (h : Own ρ σ a) : ∃ o, H a = some o ∧ MutO o ∧ B.S a ∧ B.N0 a ∧ B.G a = none := by
  obtain ⟨i, d, h1, h2⟩ := h
  obtain ⟨v, h3, h4, h5⟩ := S.ow i d h1
  rw [h2] at h3; cases h3
  obtain ⟨o, q1, q2, q3⟩ := h5.tracked h4
  exact ⟨o, q1, q2, q3⟩
theorem StOk.new (S : StOk K B ρ σ H) {a : Addr} (h : H a = none) : Nsh B ρ σ a :=
  ⟨(S.fresh a h).1, fun o => by obtain ⟨_, q, _⟩ := S.own o; rw [h] at q; cases q⟩
theorem Res.ext (e : Ext H1 H2) (h : Res K B ρ σ H H1 fl d v) : Res K B ρ σ H H2 fl d v := by
  cases fl with
  | sh => exact Rp.ext e h
  | fr => exact Sep.ext e h
  | bo => exact Sep.ext e h
theorem Res.back (e : Ext H H1) (h : Res K B ρ σ H1 H2 fl d v) : Res K B ρ σ H H2 fl d v := by
  cases fl with
  | sh => exact h
  | fr => exact Sep.imp (fun _ _ _ n => n) (fun a _ _ t => e.back t) h
  | bo => exact h
theorem Res.any (h : Res K B ρ σ H H1 fl d v) : Rp K (fun _ => True) H1 d v := by
  cases fl with
  | sh => exact Rp.imp (fun _ _ _ _ => trivial) h
  | fr => exact Rp.imp (fun _ _ _ _ => trivial) (Sep.rp h)
  | bo => exact Rp.imp (fun _ _ _ _ => trivial) (Sep.rp h)
/-- a result that may be kept: not an owned cell -/
def shb (fl : Fl) (d : D) : Bool := (fl != .bo) || !isMut d
theorem Res.shb (S : StOk K B ρ σ H) (hs : shb fl d = true) (h : Res K B ρ σ H H1 fl d v) : Rp K (Nsh B ρ σ) H1 d v := by
  cases fl with
  | sh => exact h
  | fr => exact Rp.imp (fun a _ _ n => n.elim id fun t => S.new t) (Sep.rp h)
  | bo =>
    simp [DD.shb] at hs
    exact Sep.to_rp hs h
/-- the items of a list, a tuple -/
theorem Res.lst {ds : List D} (h : Res K B ρ σ H H1 fl (.lst ds) v) (S : StOk K B ρ σ H) : ∃ a vs, v = .ref a ∧ H1 a = some (.lst vs) ∧ Rps K (Nsh B ρ σ) H1 ds vs := by
  cases fl with
  | sh => 
    simp only [Res, Rp] at h
    obtain ⟨a, vs, e, _, s, r⟩ := h; exact ⟨a, vs, e, s, r⟩
  | fr => 
    simp only [Res, Sep] at h
    obtain ⟨a, vs, e, _, s, r⟩ := h; exact ⟨a, vs, e, s, Rps.imp (fun _ _ _ n => n.1) r⟩
  | bo => 
    simp only [Res, Sep] at h
    obtain ⟨a, vs, e, _, s, r⟩ := h; exact ⟨a, vs, e, s, Rps.imp (fun _ _ _ n => n.1) r⟩
theorem Res.dic {ks : List Key} {ds : List D} (h : Res K B ρ σ H H1 fl (.dic ks ds) v) : ∃ a kvs, v = .ref a ∧ H1 a = some (.dK kvs) ∧ kvs.map (·.1) = ks ∧ Rps K (Nsh B ρ σ) H1 ds (kvs.map (·.2)) := by
  cases fl with
  | sh => 
    simp only [Res, Rp] at h
    obtain ⟨a, vs, e, _, s, r⟩ := h; exact ⟨a, vs, e, s, r⟩
  | fr => 
    simp only [Res, Sep] at h
    obtain ⟨a, vs, e, _, s, k, r⟩ := h; exact ⟨a, vs, e, s, k, Rps.imp (fun _ _ _ n => n.1) r⟩
  | bo => 
    simp only [Res, Sep] at h
    obtain ⟨a, vs, e, _, s, k, r⟩ := h; exact ⟨a, vs, e, s, k, Rps.imp (fun _ _ _ n => n.1) r⟩
theorem Res.fd {ks : List Key} {ds : List D} (h : Res K B ρ σ H H1 fl (.fd ks ds) v) : ∃ a kvs, v = .ref a ∧ (∃ od, H1 a = some (.frz od (.dK kvs))) ∧ kvs.map (·.1) = ks ∧ Rps K (Nsh B ρ σ) H1 ds (kvs.map (·.2)) := by
  cases fl with
  | sh => simpa only [Res, Rp] using h
  | fr => simpa only [Res, Sep, Rp] using h
  | bo => simpa only [Res, Sep, Rp] using h
theorem Res.rp (hm : isMut d = false) (h : Res K B ρ σ H H1 fl d v) : Rp K (Nsh B ρ σ) H1 d v := by
  cases fl with
  | sh => exact h
  | fr => exact Sep.to_rp hm h
  | bo => exact Sep.to_rp hm h
theorem Res.fz {ds : List D} (h : Res K B ρ σ H H1 fl (.fz ds) v) : ∃ a vs, v = .ref a ∧ Fz K H1 a vs ∧ Rps K (Nsh B ρ σ) H1 ds vs := by
  have q := h.rp rfl
  simpa only [Rp] using q
theorem Res.tup {ds : List D} (h : Res K B ρ σ H H1 fl (.tup ds) v) : ∃ a vs, v = .ref a ∧ SqT K H1 a vs ∧ Rps K (Nsh B ρ σ) H1 ds vs := by
  have q := h.rp rfl
  simpa only [Rp] using q
theorem Res.int {i : Int} (h : Res K B ρ σ H H1 fl (.int i) v) : v = .int i := by have q := h.rp rfl; simpa only [Rp] using q
theorem Res.bl {i : Bool} (h : Res K B ρ σ H H1 fl (.bl i) v) : v = .bl i := by have q := h.rp rfl; simpa only [Rp] using q
theorem Res.str {i : Str} (h : Res K B ρ σ H H1 fl (.str i) v) : v = .str i := by have q := h.rp rfl; simpa only [Rp] using q
theorem Res.non (h : Res K B ρ σ H H1 fl .non v) : v = .non := by have q := h.rp rfl; simpa only [Rp] using q
theorem Res.seqL {d : D} {ds : List D} (hd : d = .lst ds ∨ d = .fz ds) (h : Res K B ρ σ H H1 fl d v) (S : StOk K B ρ σ H) : ∃ a vs, v = .ref a ∧ SqL K H1 a vs ∧ Rps K (Nsh B ρ σ) H1 ds vs := by
  rcases hd with rfl | rfl
  · obtain ⟨a, vs, e, s, r⟩ := h.lst S
    exact ⟨a, vs, e, SqL.of s, r⟩
  · obtain ⟨a, vs, e, s, r⟩ := h.fz
    exact ⟨a, vs, e, s.sql, r⟩
/-- a new list, a new tuple -/
theorem Res.newL (S : StOk K B ρ σ H) {p : Addr} {ds : List D} {vs : List V} (e : Ext H H1) (hp : H1 p = none) (r : Rps K (Nsh B ρ σ) H1 ds vs) : Res K B ρ σ H (upd H1 p (.lst vs)) .fr (.lst ds) (.ref p) := by
  refine ⟨p, vs, rfl, e.back hp, upd_same, Rps.ext (Ext.new hp) (Rps.imp (fun b o q n => ⟨n, fun z => ?_⟩) r)⟩
  subst z; rw [hp] at q; cases q
theorem Res.newT {p : Addr} {ds : List D} {vs : List V} (hp : H1 p = none) (r : Rps K (Nsh B ρ σ) H1 ds vs) : Res K B ρ σ H (upd H1 p (.tup vs)) .fr (.tup ds) (.ref p) := by
  show Rp K _ _ _ _
  simp only [Rp]
  exact ⟨p, vs, rfl, SqT.of upd_same, Rps.ext (Ext.new hp) r⟩
theorem Res.of_rp (hm : isMut d = false) (h : Rp K (Nsh B ρ σ) H1 d v) : Res K B ρ σ H H1 fl d v := by
  cases fl with
  | sh => exact h
  | fr => exact Sep.of_rp hm h
  | bo => exact Sep.of_rp hm h
end
end
section
variable {K : PySem.W.Frag} {N : Addr → Prop} {H : Hp}
mutual
theorem Rp.dp : ∀ (d : D) (v : V), (toPy d).canLay0 = true → Rp K N H d v → Dp K H v (toPy d)
  | .non, v, s, h => by simp only [Rp] at h; subst h; exact Dp.non
  | .bl b, v, s, h => by simp only [Rp] at h; subst h; exact Dp.bl b
  | .int i, v, s, h => by simp only [Rp] at h; subst h; exact Dp.int i
  | .str x, v, s, h => by simp only [Rp] at h; subst h; exact Dp.str x
  | .tup ds, v, s, h => by
    simp only [Rp] at h
    obtain ⟨a, vs, rfl, t, r⟩ := h
    simp only [toPy, PyData.canLay0] at s ⊢
    exact Dp.tup t (Rps.dp ds vs s r)
  | .lst ds, v, s, h => by
    simp only [Rp] at h
    obtain ⟨a, vs, rfl, _, t, r⟩ := h
    simp only [toPy, PyData.canLay0] at s ⊢
    exact Dp.lst (SqL.of t) (Rps.dp ds vs s r)
  | .fz ds, v, s, h => by
    simp only [Rp] at h
    obtain ⟨a, vs, rfl, t, r⟩ := h
    simp only [toPy, PyData.canLay0] at s ⊢
    exact Dp.lst t.sql (Rps.dp ds vs s r)
  | .dic _ _, v, s, h => by simp [toPy, PyData.canLay0] at s
  | .dit _ _, v, s, h => by simp [toPy, PyData.canLay0] at s
  | .fd _ _, v, s, h => by simp [toPy, PyData.canLay0] at s
  | .dk _ _ _ _, v, s, h => by simp [toPy, PyData.canLay0] at s
theorem Rps.dp : ∀ (ds : List D) (vs : List V), PyData.canLayAll0 (toPys ds) = true → Rps K N H ds vs → DpAll K H vs (toPys ds)
  | [], vs, s, h => by simp only [Rps] at h; subst h; exact DpAll.nil
  | d :: ds, vs, s, h => by
    simp only [Rps] at h
    obtain ⟨v, ws, rfl, r, q⟩ := h
    simp only [toPys, PyData.canLayAll0, Bool.and_eq_true] at s ⊢
    exact DpAll.cons (Rp.dp d v s.1 r) (Rps.dp ds ws s.2 q)
end
theorem Rp.dpS {d : D} {v : V} (s : shp d = true) (h : Rp K N H d v) : Dp K H v (toPy d) := Rp.dp d v (SeqAt.canLay_of_shaped s) h
end
end DD
set_option Elab.async false
set_option linter.all false
set_option maxRecDepth 100000
set_option maxHeartbeats 2000000
namespace DD
open PySem L2 PyProof.Rows
section
variable {prog : Program} {w : World} {A : Around} {E : Value → Shared → Prop} {s : Shared} {l : Addr}
theorem iter_intTup {xs : Array (Int × Tok)} {Q : Value → Shared → Prop} (hl : s.heap.IsTuple l (intItems xs))
    (h : ∀ s₂ : Shared, s₂ = { s with heap := s.heap.push { cls := .type "tuple_iterator", data := .fields #[.ref l, .int 0 0] } } →
      (s₂.heap.IsTupleIter s.heap.objs.size l 0 ∧ s₂.heap.IsTuple l (intItems xs)) → (∀ b ∈ [s.heap.objs.size, l], b < s₂.heap.objs.size) → l ≠ s.heap.objs.size → Q (.ref s.heap.objs.size) s₂) :
    wpAny (model prog w) A (pyIter (.ref l)) Q E s := by
  have hlt : l < s.heap.objs.size := by obtain ⟨_, e, _⟩ := hl; exact Heap.lt_size e
  refine wpAny_pyIter_tuple hl (h _ rfl ⟨⟨_, Heap.get?_push_size _ rfl, rfl, rfl⟩, hl.push _⟩ (fun b hb => ?_) (Nat.ne_of_lt hlt))
  show b < (s.heap.push _).objs.size
  rw [Heap.size_push]
  rcases List.mem_cons.mp hb with rfl | hb
  · exact Nat.lt_succ_self _
  · rcases List.mem_cons.mp hb with rfl | hb
    · exact Nat.lt_succ_of_lt hlt
    · cases hb
theorem old_keptT {h' : Heap} (hk : ∀ b o, b ∉ [s.heap.objs.size] → (s.heap.push { cls := .type "tuple_iterator", data := .fields #[.ref l, .int 0 0] }).get? b = some o → h'.get? b = some o) :
    ∀ b o, s.heap.get? b = some o → h'.get? b = some o := fun b o e => by
  refine hk b o (fun hm => ?_) (Heap.get?_push_of_some _ e)
  rcases List.mem_cons.mp hm with e1 | hm
  · exact absurd (e1 ▸ Heap.lt_size e) (Nat.lt_irrefl _)
  · cases hm
theorem max_intTup {xs : Array (Int × Tok)} {Q : Value → Shared → Prop} (hh : A.handled = none) (hl : s.heap.IsTuple l (intItems xs)) (hne : 0 < xs.size)
    (h : ∀ v h' tk, (intItems xs)[argBest (fun i j => decide (numAt xs i > numAt xs j)) (xs.size - 1)]? = some v → (∀ b o, s.heap.get? b = some o → h'.get? b = some o) → Q v { s with heap := h', toks := tk }) :
    wpAny (model prog w) A (call (.builtin "max") [.ref l]) Q E s := by
  refine call_max_walk (iter_intTup hl fun s₂ e st hfp hlI => ?_)
  subst e
  refine ⟨_, _, _, _, _, _, _, rfl, Walks.tuple (A := A.in1) hh _ l hlI (intItems xs), st, hfp, by simpa [intItems] using hne, CmpOf.ints_gt (numAt xs) (fun _ _ => intItems_at), fun v h' tk hP hk => ?_⟩
  exact h v h' tk (by simpa [intItems] using hP) (old_keptT hk)
theorem min_intTup {xs : Array (Int × Tok)} {Q : Value → Shared → Prop} (hh : A.handled = none) (hl : s.heap.IsTuple l (intItems xs)) (hne : 0 < xs.size)
    (h : ∀ v h' tk, (intItems xs)[argBest (fun i j => decide (numAt xs i < numAt xs j)) (xs.size - 1)]? = some v → (∀ b o, s.heap.get? b = some o → h'.get? b = some o) → Q v { s with heap := h', toks := tk }) :
    wpAny (model prog w) A (call (.builtin "min") [.ref l]) Q E s := by
  refine call_min_walk (iter_intTup hl fun s₂ e st hfp hlI => ?_)
  subst e
  refine ⟨_, _, _, _, _, _, _, rfl, Walks.tuple (A := A.in1) hh _ l hlI (intItems xs), st, hfp, by simpa [intItems] using hne, CmpOf.ints_lt (numAt xs) (fun _ _ => intItems_at), fun v h' tk hP hk => ?_⟩
  exact h v h' tk (by simpa [intItems] using hP) (old_keptT hk)
theorem max_rawT {its : List Value} {ns : List Int} {Q : Value → Shared → Prop} (hh : A.handled = none) (hl : s.heap.IsTuple l its.toArray) (hi : IntsAre its ns) (hne : 0 < ns.length)
    (h : ∀ h' tk M t', (∀ b o, s.heap.get? b = some o → h'.get? b = some o) → M ∈ ns → (∀ a, a ∈ ns → a ≤ M) → Q (.int M t') { s with heap := h', toks := tk }) : wpAny (model prog w) A (call (.builtin "max") [.ref l]) Q E s := by
  obtain ⟨xs, e⟩ := hi.allInts.items
  have hn : numsOf (intItems xs).toList = ns := by rw [← e]; exact hi.numsOf
  rw [nums_intItems] at hn
  subst hn
  rw [e] at hl
  have hsz : 0 < xs.size := by simpa using hne
  refine max_intTup hh hl hsz fun v h' tk hv hk => ?_
  obtain ⟨t, rfl⟩ := intItems_at hv
  obtain ⟨h1, h2⟩ := argBest_gt (numAt xs) (xs.size - 1)
  refine h h' tk _ t hk ?_ fun a ha => ?_
  · rw [numAt_eq]; exact PySem.getD_mem (by rw [List.length_map, Array.length_toList]; omega)
  · obtain ⟨j, hj, rfl⟩ := mem_getD ha
    rw [List.length_map, Array.length_toList] at hj
    rw [← numAt_eq]; exact h2 j (by omega)
theorem min_rawT {its : List Value} {ns : List Int} {Q : Value → Shared → Prop} (hh : A.handled = none) (hl : s.heap.IsTuple l its.toArray) (hi : IntsAre its ns) (hne : 0 < ns.length)
    (h : ∀ h' tk M t', (∀ b o, s.heap.get? b = some o → h'.get? b = some o) → M ∈ ns → (∀ a, a ∈ ns → M ≤ a) → Q (.int M t') { s with heap := h', toks := tk }) : wpAny (model prog w) A (call (.builtin "min") [.ref l]) Q E s := by
  obtain ⟨xs, e⟩ := hi.allInts.items
  have hn : numsOf (intItems xs).toList = ns := by rw [← e]; exact hi.numsOf
  rw [nums_intItems] at hn
  subst hn
  rw [e] at hl
  have hsz : 0 < xs.size := by simpa using hne
  refine min_intTup hh hl hsz fun v h' tk hv hk => ?_
  obtain ⟨t, rfl⟩ := intItems_at hv
  obtain ⟨h1, h2⟩ := argBest_lt (numAt xs) (xs.size - 1)
  refine h h' tk _ t hk ?_ fun a ha => ?_
  · rw [numAt_eq]; exact PySem.getD_mem (by rw [List.length_map, Array.length_toList]; omega)
  · obtain ⟨j, hj, rfl⟩ := mem_getD ha
    rw [List.length_map, Array.length_toList] at hj
    rw [← numAt_eq]; exact h2 j (by omega)
end
section
variable {X : Cx}
def rMaxT (K : PySem.W.Frag) : List V → Hp → VK → Prop := fun vs H Q => ∃ (a : Addr) (ns : List Int), vs = [V.ref a] ∧ SqT K H a (ns.map V.int) ∧ 0 < ns.length ∧ ∀ m, m ∈ ns → (∀ y, y ∈ ns → y ≤ m) → Q (.int m) H
def rMinT (K : PySem.W.Frag) : List V → Hp → VK → Prop := fun vs H Q => ∃ (a : Addr) (ns : List Int), vs = [V.ref a] ∧ SqT K H a (ns.map V.int) ∧ 0 < ns.length ∧ ∀ m, m ∈ ns → (∀ y, y ∈ ns → m ≤ y) → Q (.int m) H
theorem cr_maxT (hc : X.calm = true) : CallR X (.builtin "max") (rMaxT X.K) := by
  intro pins s σ H vs us Q I r h
  obtain ⟨a, ns, rfl, hs, hn, q⟩ := h
  obtain ⟨its, rv, hl, _⟩ := I.tuple hs
  rw [Vals.ref1 r]
  exact max_rawT (I.ok.hd hc) hl rv.ints hn fun h' tk M t' hk h1 h2 => ⟨.int _, H, I.kept hk, ⟨_, rfl⟩, q M h1 h2⟩
theorem cr_minT (hc : X.calm = true) : CallR X (.builtin "min") (rMinT X.K) := by
  intro pins s σ H vs us Q I r h
  obtain ⟨a, ns, rfl, hs, hn, q⟩ := h
  obtain ⟨its, rv, hl, _⟩ := I.tuple hs
  rw [Vals.ref1 r]
  exact min_rawT (I.ok.hd hc) hl rv.ints hn fun h' tk M t' hk h1 h2 => ⟨.int _, H, I.kept hk, ⟨_, rfl⟩, q M h1 h2⟩
end
end DD
set_option Elab.async false
set_option linter.all false
set_option maxRecDepth 100000
set_option maxHeartbeats 2000000
namespace DD
open PySem L2
def toB : Option (Fl × D) → Option Bool
  | some (_, .bl b) => some b
  | _ => none
def bltNames : List Str := ["len", "abs", "int", "str", "list", "tuple", "sum", "min", "max", "sorted", "range", "reversed", "enumerate", "zip", "isinstance", "bool", "dict", "set"]
section
variable [Tb : Tbl]
section
variable (K : PySem.W.Frag)
def rd (f : Rho → Option (Fl × D)) : TE := fun σ H Q => ∃ B ρ fl d, f ρ = some (fl, d) ∧ StOk K B ρ σ H ∧ ∀ v H', Ext H H' → Res K B ρ σ H H' fl d v → Q v H'
def rdT (f : Rho → Option Bool) : TT := fun σ H Q => ∃ B ρ b, f ρ = some b ∧ StOk K B ρ σ H ∧ ∀ H', Ext H H' → Q b H'
inductive ResL (B : Bs) (ρ : Rho) (σ : St) (H H' : Hp) : List (Fl × D) → List V → Prop
  | nil : ResL B ρ σ H H' [] []
  | cons {r rs v vs} : Res K B ρ σ H H' r.1 r.2 v → ResL B ρ σ H H' rs vs → ResL B ρ σ H H' (r :: rs) (v :: vs)
def rdA (f : Rho → Option (List (Fl × D))) : TA := fun σ H Q => ∃ B ρ rs, f ρ = some rs ∧ StOk K B ρ σ H ∧ ∀ vs H', Ext H H' → ResL K B ρ σ H H' rs vs → Q vs H'
/-- arguments, the last a dict just made -/
def rdN (f : Rho → Option (List (Fl × D))) : TA := fun σ H Q => ∃ B ρ rs, f ρ = some rs ∧ StOk K B ρ σ H ∧ ∀ vs H1, Ext H H1 → ResL K B ρ σ H H1 rs vs → ∀ p, H1 p = none → Q (vs ++ [.ref p]) (upd H1 p (.dK []))
def rdO (f : Rho → Option (Option Int)) : TO := fun σ H Q => ∃ B ρ o, f ρ = some o ∧ StOk K B ρ σ H ∧ ∀ H', Ext H H' → Q o H'
/-- what must stay so that a walk goes on -/
noncomputable def Gd (ρ : Rho) (σ : St) (b : Bool) (H : Hp) : Hp := fun a => if b = true then H a else open Classical in if Own ρ σ a then none else H a
/-- an iterator's turns: the items ds -/
def Src (B : Bs) (ρ : Rho) (σ : St) (b : Bool) (H : Hp) (J : It) (ds : List D) : Prop :=
  ∀ H2, Ext (Gd ρ σ b H) H2 → (∀ i d, ds[i]? = some d → J.go i H2 ∧ ∀ x H3, J.yld i H2 x H3 → Ext H2 H3 ∧ Rp K (fun a => Nsh B ρ σ a ∧ ∃ o, H a = some o) H3 d x) ∧ J.stop ds.length H2
def rdI (f : Rho → Option (Bool × List D)) : TI := fun σ H R => ∃ B ρ b ds, f ρ = some (b, ds) ∧ StOk K B ρ σ H ∧ ∀ J H', Ext H H' → Src K B ρ σ b H' J ds → R J H'
end
section
variable {K : PySem.W.Frag} {B : Bs} {ρ : Rho} {σ : St} {H H1 H2 : Hp} {f g : Rho → Option (Fl × D)} {fa fb : Fl} {da db : D}
theorem rd_two {r : R2} {Q : VK} (hf : f ρ = some (fa, da)) (hg : g ρ = some (fb, db)) (S : StOk K B ρ σ H)
    (k : ∀ x y H2, Ext H H2 → Res K B ρ σ H H2 fa da x → Res K B ρ σ H H2 fb db y → r x y H2 Q) : tOp r (rd K f) (rd K g) σ H Q :=
  ⟨B, ρ, fa, da, hf, S, fun x H1 e1 r1 => ⟨B, ρ, fb, db, hg, S.ext e1, fun y H2 e2 r2 => k x y H2 (e1.trans e2) (r1.ext e2) (r2.back e1)⟩⟩
end
/-- how a text ends: it goes on, a datum is told, the slot i is told, an immutable datum is told and the slots stay -/
inductive Out | nx (ρ : Rho) | rt (d : D) | rp (ρ : Rho) (i : Nat) | rq (ρ : Rho) (d : D)
/-- what is known at a return -/
structure RetK (K : PySem.W.Frag) (B : Bs) (H : Hp) (d : D) (v : V) : Prop where
  keep : Ext B.G H
  val : Sep K B.N0 B.N0 H d v
/-- the frame: of defs of the kind m, with the pinned slot pn -/
structure Mo (pn : List Nat) (m : Bool) (B : Bs) : Prop where
  m : m = true → ∀ a, B.S a → B.N0 a
  p : ∀ i a, (i, a) ∈ B.P → i ∈ pn
theorem Mo.ne {pn : List Nat} {m : Bool} {B : Bs} (h : Mo pn m B) {i : Nat} (hi : i ∉ pn) : ∀ a, (i, a) ∉ B.P := fun a e => hi (h.p i a e)
def rdS (K : PySem.W.Frag) (pn : List Nat) (m : Bool) (f : Rho → Option Out) : TS := fun Dn σ H => ∃ B ρ out, f ρ = some out ∧ StOk K B ρ σ H ∧ Mo pn m B ∧
  (match out with
  | .nx ρ' => ∀ σ' H', StOk K B ρ' σ' H' → Dn.nx σ' H'
  | .rt d => ∀ v H', RetK K B H' d v → Dn.rt v H'
  | .rp ρ' i => ∀ σ' H' v, StOk K B ρ' σ' H' → σ'[i]? = some (some v) → Dn.rt v H'
  | .rq ρ' d => ∀ σ' H' v, StOk K B ρ' σ' H' → imm d = true → Rp K (fun _ => False) H' d v → Dn.rt v H')
/-- operands, by their readings -/
inductive PEs (X : Cx) : List Expr → List (Rho → Option (Fl × D)) → Prop
  | nil : PEs X [] []
  | cons {e : Expr} {es : List Expr} {f : Rho → Option (Fl × D)} {fs : List (Rho → Option (Fl × D))} : (match e with | .Starred _ _ => false | _ => true) = true → PE X e (rd X.K f) ∧ PT X e (rdT X.K fun ρ => toB (f ρ)) → PEs X es fs → PEs X (e :: es) (f :: fs)
end
def seqF : List (Rho → Option (Fl × D)) → Rho → Option (List (Fl × D))
  | [], _ => some []
  | f :: fs, ρ => do
    let x ← f ρ
    let xs ← seqF fs ρ
    some (x :: xs)
/-- what an operation may lean on -/
structure OpCx (X : Cx) : Prop where
  calm : X.calm = true
  units : X.A.units + 66 < cLine
  blt : ∀ x ∈ bltNames, X.mg x = none
/-- an expression: how it is told, what it does with its operands -/
structure XOp where
  mt : Scope → Expr → Option (List Expr)
  F : List (Fl × D) → Option (Fl × D)
  ok : ∀ [Tb : Tbl] (X : Cx), OpCx X → ∀ (e : Expr) (es : List Expr) (fs : List (Rho → Option (Fl × D))), mt X.env.scope e = some es → PEs X es fs → PE X e (rd X.K fun ρ => (seqF fs ρ).bind F) ∧ PT X e (rdT X.K fun ρ => toB ((seqF fs ρ).bind F))
/-- what a for walks -/
structure XIt where
  mt : Scope → Expr → Expr → Option Expr
  F : Fl × D → Option (Bool × List D)
  ok : ∀ [Tb : Tbl] (X : Cx), OpCx X → ∀ (tg e e' : Expr) (f : Rho → Option (Fl × D)), mt X.env.scope tg e = some e' → PE X e' (rd X.K f) → PI X tg e (rdI X.K fun ρ => (f ρ).bind F)
/-- a statement: it changes the slots is in their place, gives the slots ws other values -/
structure XSt where
  mt : Scope → List Str → List Nat → List Nat → Stmt → Option (List Expr)
  F : List Nat → List Nat → List (Rho → Option (Fl × D)) → Rho → Option Rho
  ok : ∀ [Tb : Tbl] (X : Cx), OpCx X → X.N.Nodup → PassesOwn (model X.prog X.w) X.A X.env X.xe → X.env.scope.kind = .function → (∀ x, X.fn x = true) → ∀ (pn : List Nat) (m : Bool) (is ws : List Nat) (s : Stmt) (es : List Expr) (fs : List (Rho → Option (Fl × D))), (∀ i ∈ ws, i ∉ pn) → mt X.env.scope X.N is ws s = some es → PEs X es fs →
    PS X s (rdS X.K pn m fun ρ => (F is ws fs ρ).map .nx)
/-- the class whose method a def is -/
class ME where
  C : Option Addr
instance : ME := ⟨none⟩
/-- a def that changes its arguments ps and tells something that cannot change -/
structure MF2 where
  nm : Str
  n : Nat
  ps : List Nat
  F : List D → Option (List D × D)
  [me : ME]
class OPS where
  op : List XOp
  it : List XIt
  st : List XSt
  mf : List MF2
instance : OPS := ⟨[], [], [], []⟩
/-- a def that changes the datum of its argument p: its name, how many arguments, p, whether each return tells that argument, the changed datum -/
structure MF where
  nm : Str
  n : Nat
  p : Nat
  rp : Bool
  F : List D → Option D
/-- what a made function tells: of what it captured, of its arguments -/
abbrev Clo := List D → List D → Option D
abbrev ClM := CV → Option (List D → Option D)
/-- a lambda's words: what it tells, the look at its text -/
structure LM where
  φ : Clo
  ck : Scope → List Str → List Nat → Arguments → Expr → Scope → Bool
/-- a def that calls what it is handed first -/
structure FC where
  nm : Str
  n : Nat
  F : ClM → CV → List D → Option D
/-- defs that are handed a function in the second place -/
class FB where
  l : List FC
instance : FB := ⟨[]⟩
class GX where
  cl : ClM
  tc : List (Str × Nat × (CV → List D → Option D))
  fc : List FC
  lm : List LM
  kc : Nat
  [fb : FB]
  [ops : OPS]
instance : GX := ⟨fun _ => none, [], [], [], 0⟩
structure Gam where
  fn : List (Str × Nat × (List D → Option D))
  gl : List (Str × D)
  mf : List MF
  [ex : GX]
/-- what the slots hold that a lambda captures -/
def capD (ρ : Rho) : List Nat → Option (List D)
  | [] => some []
  | i :: is => match ρ[i]? with
    | some (some (.sh d)) => (capD ρ is).map (d :: ·)
    | _ => none
/-- what the def tells, whatever the lambda's address -/
noncomputable def callLR (q : FC) (m : LM) (ds args : List D) : Option D :=
  open Classical in if h : ∃ r, ∀ v cl, v.ds = ds → cl v = some (m.φ ds) → q.F cl v args = some r then some h.choose else none
theorem of_callLR {q : FC} {m : LM} {ds args : List D} {r : D} (e : callLR q m ds args = some r) : ∀ v cl, v.ds = ds → cl v = some (m.φ ds) → q.F cl v args = some r := by
  unfold callLR at e
  split at e
  case isFalse => cases e
  rename_i hx
  cases e
  exact hx.choose_spec
/-- the function in a slot -/
def cloS : Option (Option Sl) → Option CV
  | some (some (.cl v)) => some v
  | _ => none
/-- what a slot shows -/
def shS : Option (Option Sl) → Option D
  | some (some (.sh d)) => some d
  | _ => none
/-- a call that changes a fresh dict, its last argument, and tells it -/
def mclR (q : MF) (rs : List (Fl × D)) : Option (Fl × D) :=
  match rs.getLast? with
  | some (.fr, .dic [] []) => if rs.dropLast.all (fun r => shb r.1 r.2) && decide (rs.length = q.n) && decide (q.p + 1 = q.n) && q.rp then (q.F (rs.map (·.2))).map fun d => (.fr, d) else none
  | _ => none
def lastNew : CAs → Bool
  | .nil => false
  | .cons .dnil .nil => true
  | .cons _ cs => lastNew cs
def initAs : CAs → CAs
  | .nil => .nil
  | .cons .dnil .nil => .nil
  | .cons c cs => .cons c (initAs cs)
def lockR (ρ : Rho) (i : Nat) (d : D) : Rho := match d with | .dic ks es => ρ.set i (some (.sh (.fd ks es))) | _ => ρ.set i none
def setS (ρ : Rho) (i : Nat) (s : Sl) : Rho := ρ.set i (some s)
def setSs (ρ : Rho) : List Nat → List D → Rho
  | i :: is, d :: ds => setSs (setS ρ i (.sh d)) is ds
  | _, _ => ρ
def bindT (t : Tg) (d : D) (ρ : Rho) : Option Rho :=
  match t, d with
  | .nm i, d => some (setS ρ i (.sh d))
  | .tp is, .tup ds => if is.length = ds.length then some (setSs ρ is ds) else none
  | .tp is, .lst ds => if is.length = ds.length then some (setSs ρ is ds) else none
  | _, _ => none
def wipeR (ρ : Rho) : List Nat → Rho
  | [] => ρ
  | v :: vs => (wipeR ρ vs).set v none
def varS : Option (Option Sl) → Option (Fl × D)
  | some (some (.sh d)) => some (.sh, d)
  | some (some (.ow d)) => some (.bo, d)
  | _ => none
def ofB (o : Option Bool) : Option (Fl × D) := o.map fun b => (.fr, .bl b)
def ofD (o : Option D) : Option (Fl × D) := o.map fun b => (.fr, b)
def allShb (rs : List (Fl × D)) : Bool := rs.all fun r => shb r.1 r.2
/-- what is walked, of a datum: whether it may be an owned cell -/
def itemsOf (r : Fl × D) : Option (Bool × List D) :=
  match r.2 with
  | .lst ds => some (r.1 == .bo, ds)
  | .tup ds => some (false, ds)
  | .fz ds => some (false, ds)
  | _ => none
noncomputable def big62 (i : Int) : Bool := @decide (-(2 ^ 62) ≤ i) (Classical.propDecidable _) && @decide (i < 2 ^ 62) (Classical.propDecidable _)
def ups (i : Int) (n : Nat) : List D := (List.range n).map fun (k : Nat) => .int (i + (k : Int))
def steps (i c : Int) (n : Nat) : List D := (List.range n).map fun (k : Nat) => .int (i + (k : Int) * c)
noncomputable def rng1Of (d : D) : Option (List D) := match d with
  | .int j => if big62 j then some (ups 0 j.toNat) else none
  | _ => none
noncomputable def rng2Of (d e : D) : Option (List D) := match d, e with
  | .int i, .int j => if big62 i && big62 j then some (ups i (j - i).toNat) else none
  | _, _ => none
noncomputable def rng3Of (d e f : D) : Option (List D) := match d, e, f with
  | .int i, .int j, .int c => if @decide (c ≠ 0) (Classical.propDecidable _) && @decide (c.natAbs < 1073741824) (Classical.propDecidable _) && Builtin.Range.small i j c then some (steps i c (Builtin.Range.rangeSize i j c).toNat) else none
  | _, _, _ => none
noncomputable def rrng2Of (d e : D) : Option (List D) := match d, e with
  | .int i, .int j => if big62 i && big62 j then some (steps (i + (((j - i).toNat : Nat) : Int) - 1) (-1) (j - i).toNat) else none
  | _, _ => none
def enumOf (r : Fl × D) : Option (Bool × List D) :=
  match r.2 with
  | .lst ds => some (r.1 == .bo, (List.range ds.length).zipWith (fun (i : Nat) d => .tup [.int i, d]) ds)
  | .fz ds => some (false, (List.range ds.length).zipWith (fun (i : Nat) d => .tup [.int i, d]) ds)
  | .tup ds => some (false, (List.range ds.length).zipWith (fun (i : Nat) d => .tup [.int i, d]) ds)
  | _ => none
def zip2 (xs ys : List D) : List D := xs.zipWith (fun d e => .tup [d, e]) ys
def zipOf (r q : Fl × D) : Option (Bool × List D) :=
  match r.2, q.2 with
  | .lst ds, .lst es => some (r.1 == .bo || q.1 == .bo, zip2 ds es)
  | .tup ds, .tup es => some (false, zip2 ds es)
  | _, _ => none
/-- the turns of a list comprehension -/
def lcGo (t : Tg) (c : Rho → Option Bool) (e : Rho → Option (Fl × D)) (ρ : Rho) : List D → Option (List D)
  | [] => some []
  | d :: ds => do
    let ρ1 ← bindT t d ρ
    let b ← c ρ1
    if b then do
      let r ← e ρ1
      if shb r.1 r.2 then do
        let rest ← lcGo t c e ρ ds
        some (r.2 :: rest)
      else none
    else lcGo t c e ρ ds
/-- an instance of the class whose method q is -/
def ofC (q : MF2) : D → Bool
  | .dk C _ _ _ => q.me.C == some C
  | _ => false
/-- what a method tells that changes nothing -/
def methR (q : MF2) (x : D) (rs : List (Fl × D)) : Option (Fl × D) :=
  if ofC q x && q.ps.isEmpty && decide (rs.length + 1 = q.n) then (q.F (x :: rs.map (·.2))).bind fun r => if imm r.2 && r.1.isEmpty then some (.fr, r.2) else none else none
def noOwn (ρ : Rho) (vs : List Nat) : Bool := vs.all fun i => match ρ[i]? with | some (some (.ow _)) => false | _ => true
mutual
noncomputable def ev (Γ : Gam) : CE → Rho → Option (Fl × D)
  | .var i, ρ => varS ρ[i]?
  | .glob k, _ => ofD (Γ.gl[k]?.map (·.2))
  | .non, _ => some (.fr, .non)
  | .bl b, _ => some (.fr, .bl b)
  | .int i, _ => some (.fr, .int i)
  | .str x, _ => some (.fr, .str x)
  | .bin k a b, ρ => do
    let x ← ev Γ a ρ
    let y ← ev Γ b ρ
    ofD (dBin k x.2 y.2)
  | .neg a, ρ => do
    let x ← ev Γ a ρ
    match x.2 with | .int i => some (.fr, .int (-i)) | _ => none
  | .cmp k a b, ρ => do
    let x ← ev Γ a ρ
    let y ← ev Γ b ρ
    ofB (dCmp k x.2 y.2)
  | .cmp2 k k' a b c, ρ => do
    let x ← ev Γ a ρ
    let y ← ev Γ b ρ
    let u ← dCmp k x.2 y.2
    if u then do
      let z ← ev Γ c ρ
      ofB (dCmp k' y.2 z.2)
    else ofB (some false)
  | .isN n a, ρ => do
    let x ← ev Γ a ρ
    ofB (some (match x.2 with | .non => !n | _ => n))
  | .isB n b a, ρ => do
    let x ← ev Γ a ρ
    match x.2 with | .bl c => ofB (some (if n then !decide (c = b) else decide (c = b))) | _ => none
  | .and a b, ρ => do
    let x ← toB (ev Γ a ρ)
    if x then ev Γ b ρ else ofB (some false)
  | .or a b, ρ => do
    let x ← toB (ev Γ a ρ)
    if x then ofB (some true) else ev Γ b ρ
  | .not a, ρ => do
    let x ← toB (ev Γ a ρ)
    ofB (some (!x))
  | .tup as, ρ => do
    let rs ← evs Γ as ρ
    if allShb rs && decide (rs.length ≤ lim) then some (.fr, .tup (rs.map (·.2))) else none
  | .lst as, ρ => do
    let rs ← evs Γ as ρ
    if allShb rs && decide (rs.length ≤ lim) then some (.fr, .lst (rs.map (·.2))) else none
  | .dnil, _ => some (.fr, .dic [] [])
  | .ix a b, ρ => do
    let x ← ev Γ a ρ
    let y ← ev Γ b ρ
    (dIx x.2 y.2).map fun d => (.sh, d)
  | .sl a lo hi, ρ => do
    let x ← ev Γ a ρ
    let l ← evo Γ lo ρ
    let h ← evo Γ hi ρ
    ofD (dSl x.2 l h)
  | .bi b as, ρ => do
    let rs ← evs Γ as ρ
    ofD (dBI b (rs.map (·.2)))
  | .isi T a, ρ => do
    let x ← ev Γ a ρ
    ofB (dIsi T x.2)
  | .isi2 T U a, ρ => do
    let x ← ev Γ a ρ
    let b ← dIsi T x.2
    if b then ofB (some true) else ofB (dIsi U x.2)
  | .call f as, ρ => do
    let rs ← evs Γ as ρ
    let F ← Γ.fn[f]?
    if rs.length = F.2.1 then ofD (F.2.2 (rs.map (·.2))) else none
  | .mcl f as, ρ => do
    let rs ← evs Γ as ρ
    let q ← Γ.mf[f]?
    mclR q rs
  | .lrev a, ρ => do
    let x ← ev Γ a ρ
    match x.2 with | .lst ds => some (.fr, .lst ds.reverse) | .tup ds => some (.fr, .tup ds.reverse) | _ => none
  | .lrv a, ρ => do
    let x ← ev Γ a ρ
    match x.2 with | .lst ds => some (.fr, .lst ds.reverse) | _ => none
  | .srt a, ρ => do
    let x ← ev Γ a ρ
    ofD (dSrt x.2)
  | .dget1 a k, ρ => do
    let x ← ev Γ a ρ
    let y ← ev Γ k ρ
    (dGet x.2 y.2).map fun o => (.sh, o.getD .non)
  | .dget2 a k d, ρ => do
    let x ← ev Γ a ρ
    let y ← ev Γ k ρ
    let z ← ev Γ d ρ
    if shb z.1 z.2 then (dGet x.2 y.2).map fun o => (.sh, o.getD z.2) else none
  | .lc own t it c e, ρ => do
    let ds ← evi Γ it ρ
    if decide (ds.2.length ≤ lim) && noOwn ρ (own.map (·.2)) then do
      let es ← lcGo t (fun ρ1 => toB (ev Γ c ρ1)) (fun ρ1 => ev Γ e ρ1) (wipeR ρ (own.map (·.2))) ds.2
      some (.fr, .lst es)
    else none
  | .lcd own t i c e, ρ =>
    match ρ[i]? with
    | some (some (.ow d)) => match keysD d with
      | some ds => if decide (ds.length ≤ lim) && noOwn (lockR ρ i d) (own.map (·.2)) then do
          let es ← lcGo t (fun ρ1 => toB (ev Γ c ρ1)) (fun ρ1 => ev Γ e ρ1) (wipeR (lockR ρ i d) (own.map (·.2))) ds
          if immL es then some (.fr, .lst es) else none
        else none
      | none => none
    | _ => none
  | .app i as, ρ => do
    let v ← cloS ρ[i]?
    let rs ← evs Γ as ρ
    let φ ← Γ.ex.cl v
    ofD (φ (rs.map (·.2)))
  | .callC k i as, ρ => do
    let v ← cloS ρ[i]?
    let rs ← evs Γ as ρ
    let q ← Γ.ex.tc[k]?
    if rs.length + 1 = q.2.1 then ofD (q.2.2 v (rs.map (·.2))) else none
  | .callL k l cap as, ρ => do
    let ds ← capD ρ cap
    let rs ← evs Γ as ρ
    let q ← Γ.ex.fc[k]?
    let m ← Γ.ex.lm[l]?
    if rs.length + 1 = q.n then ofD (callLR q m ds (rs.map (·.2))) else none
  | .callL1 k l cap i as, ρ => do
    let d0 ← shS ρ[i]?
    let ds ← capD ρ cap
    let rs ← evs Γ as ρ
    let q ← Γ.ex.fb.l[k]?
    let m ← Γ.ex.lm[l]?
    if rs.length + 2 = q.n then ofD (callLR q m ds (d0 :: rs.map (·.2))) else none
  | .op k as, ρ => do
    let rs ← evs Γ as ρ
    let q ← Γ.ex.ops.op[k]?
    q.F rs
  | .meth k i as, ρ => do
    let d0 ← shS ρ[i]?
    let rs ← evs Γ as ρ
    let q ← Γ.ex.ops.mf[k]?
    methR q d0 rs
noncomputable def evs (Γ : Gam) : CAs → Rho → Option (List (Fl × D))
  | .nil, _ => some []
  | .cons c cs, ρ => do
    let x ← ev Γ c ρ
    let xs ← evs Γ cs ρ
    some (x :: xs)
noncomputable def evo (Γ : Gam) : CO → Rho → Option (Option Int)
  | .none, _ => some none
  | .some c, ρ => do
    let x ← ev Γ c ρ
    match x.2 with | .int i => some (some i) | _ => none
noncomputable def evi (Γ : Gam) : CI → Rho → Option (Bool × List D)
  | .val c, ρ => do
    let x ← ev Γ c ρ
    itemsOf x
  | .rng1 a, ρ => do
    let x ← ev Γ a ρ
    (rng1Of x.2).map fun ds => (false, ds)
  | .rng2 a b, ρ => do
    let x ← ev Γ a ρ
    let y ← ev Γ b ρ
    (rng2Of x.2 y.2).map fun ds => (false, ds)
  | .rng3 a b c, ρ => do
    let x ← ev Γ a ρ
    let y ← ev Γ b ρ
    let z ← ev Γ c ρ
    (rng3Of x.2 y.2 z.2).map fun ds => (false, ds)
  | .rrng2 a b, ρ => do
    let x ← ev Γ a ρ
    let y ← ev Γ b ρ
    (rrng2Of x.2 y.2).map fun ds => (false, ds)
  | .enum c, ρ => do
    let x ← ev Γ c ρ
    enumOf x
  | .zip a b, ρ => do
    let x ← ev Γ a ρ
    let y ← ev Γ b ρ
    zipOf x y
  | .op k c, ρ => do
    let x ← ev Γ c ρ
    let q ← Γ.ex.ops.it[k]?
    q.F x
end
noncomputable def evT (Γ : Gam) (c : CE) (ρ : Rho) : Option Bool := toB (ev Γ c ρ)
section
variable [Tb : Tbl]
/-- what a def is worth: data in, data out -/
def spD (K : PySem.W.Frag) (n : Nat) (F : List D → Option D) : Sp := fun vs H Q _ => ∃ ds d, F ds = some d ∧ ds.length = n ∧ Rps K (fun _ => True) H ds vs ∧ LamX.Tabs Tb.T H ∧
  ∀ v H', Ext H H' → Sep K (fun a => H a = none) (fun a => H a = none) H' d v → Q v H'
/-- all but the cell a and the tables stays -/
structure ExtB (a : Addr) (H H' : Hp) : Prop where
  to : ∀ b o, b ≠ a → H b = some o → (∀ ps, o ≠ .tbl ps) → H' b = some o
  tab : LamX.Tabs Tb.T H → LamX.Tabs Tb.T H'
  dom : ∀ b, H' b = none → H b = none
/-- what a def is worth that changes the cell of its argument p -/
def spM (K : PySem.W.Frag) (n p : Nat) (rp : Bool) (F : List D → Option D) : Sp := fun vs H Q _ => ∃ (ds : List D) (d' dp : D) (a : Addr), F ds = some d' ∧ ds.length = n ∧ vs.length = n ∧ vs[p]? = some (.ref a) ∧ ds[p]? = some dp ∧
  isMut dp = true ∧ Sep K (fun b => b ≠ a) (fun b => b = a) H dp (.ref a) ∧ (∀ (i : Nat) d v, i ≠ p → ds[i]? = some d → vs[i]? = some v → Rp K (fun b => b ≠ a) H d v) ∧ LamX.Tabs Tb.T H ∧
  ∀ v H', ExtB a H H' → isMut d' = true → Sep K (fun _ => False) (fun b => b = a) H' d' (.ref a) → (rp = true → v = .ref a) → Q v H'
structure FnM (X : Cx) (q : MF) : Prop where
  ex : ∃ (k : Nat) (f : Addr) (fd : FuncData) (ps : List Str), ps.length = q.n ∧ FnOk X.prog X.w X.K X.mg X.base CX0 k f fd ps (spM X.K q.n q.p q.rp q.F) ∧ Room k X.A ∧ X.mg q.nm = some (.ref f) ∧ PySem.W.keepIn X.K (.ref f) = true ∧ Binds X.K fd ps []
structure FnD (X : Cx) (x : Str) (n : Nat) (F : List D → Option D) : Prop where
  ex : ∃ (k : Nat) (f : Addr) (fd : FuncData) (ps : List Str), ps.length = n ∧ FnOk X.prog X.w X.K X.mg X.base CX0 k f fd ps (spD X.K n F) ∧ Room k X.A ∧ X.mg x = some (.ref f) ∧ PySem.W.keepIn X.K (.ref f) = true ∧ Binds X.K fd ps []
/-- all but the cells as and the tables stays -/
structure ExtBs (as : List Addr) (H H' : Hp) : Prop where
  to : ∀ b o, b ∉ as → H b = some o → (∀ ps, o ≠ .tbl ps) → H' b = some o
  tab : LamX.Tabs Tb.T H → LamX.Tabs Tb.T H'
  dom : ∀ b, H' b = none → H b = none
/-- the cells as hold the data ds -/
def SepL (K : PySem.W.Frag) (N : Addr → Prop) (H : Hp) : List D → List Addr → Prop
  | [], [] => True
  | d :: ds, a :: as => (isMut d = true ∧ Sep K N (fun b => b = a) H d (.ref a)) ∧ SepL K N H ds as
  | _, _ => False
/-- what a def is worth that changes the cells of its arguments ps and tells something -/
def spM2 (K : PySem.W.Frag) (n : Nat) (ps : List Nat) (F : List D → Option (List D × D)) : Sp := fun vs H Q _ => ∃ (ds ds' : List D) (r : D) (as : List Addr) (dps : List D), F ds = some (ds', r) ∧ ds.length = n ∧ vs.length = n ∧ ps.map (fun p => vs[p]?) = as.map (fun a => some (.ref a)) ∧ ps.map (fun p => ds[p]?) = dps.map some ∧ as.Nodup ∧
  SepL K (fun b => b ∉ as) H dps as ∧ (∀ (i : Nat) d v, i ∉ ps → ds[i]? = some d → vs[i]? = some v → Rp K (fun b => b ∉ as) H d v) ∧ LamX.Tabs Tb.T H ∧
  ∀ v H', ExtBs as H H' → SepL K (fun _ => False) H' ds' as → imm r = true → Rp K (fun _ => False) H' r v → Q v H'
/-- where a def is found: by its name, in its class -/
def MeAt (K : PySem.W.Frag) (mg : Str → Option Value) (q : MF2) (f : Addr) : Prop := match q.me.C with
  | none => mg q.nm = some (.ref f) ∧ PySem.W.keepIn K (.ref f) = true
  | some C => Meth K C q.nm f ∧ Cls K C
structure FnM2 (X : Cx) (q : MF2) : Prop where
  ex : ∃ (k : Nat) (f : Addr) (fd : FuncData) (ps : List Str), ps.length = q.n ∧ FnOk X.prog X.w X.K X.mg X.base CX0 k f fd ps (spM2 X.K q.n q.ps q.F) ∧ Room k X.A ∧ MeAt X.K X.mg q f ∧ Binds X.K fd ps []
/-- what a def is worth that calls what it is handed first -/
def spC (K : PySem.W.Frag) (n : Nat) (F : CV → List D → Option D) : Sp := fun vs H Q _ => ∃ (v : CV) (us : List V) (args : List D) (d : D), vs = .ref v.a :: us ∧ F v args = some d ∧ args.length + 1 = n ∧ H v.c = some (LamX.CodeO v.c v.q) ∧
  Rps K (fun _ => True) H v.ds v.ws ∧ Rps K (fun _ => True) H args us ∧ LamX.Tabs Tb.T H ∧ ∀ u H', Ext H H' → Sep K (fun a => H a = none) (fun a => H a = none) H' d u → Q u H'
/-- the made function v tells φ -/
structure ClAt (P : Program) (w : World) (K : PySem.W.Frag) (mg : Str → Option Value) (base : Heap) (k : Nat) (v : CV) (φ : List D → Option D) : Prop where
  obj : ∃ (od : Option Addr) (fd : FuncData) (sl : Array (Option Value)), base.get? v.a = some ⟨.type "function", od, .func fd, sl⟩
  run : ∀ (A : Around) (outer : List Env) (s : Shared) (H : Hp) (us : List Value) (vs : List V) (args : List D) (d : D) (Q : VK) (E : XK), Room k A → Env0 P w K mg base A outer s H → H v.c = some (LamX.CodeO v.c v.q) →
    Rps K (fun _ => True) H v.ds v.ws → φ args = some d → Rps K (fun _ => True) H args vs → Vals vs us → LamX.Tabs Tb.T H → (∀ u H', Ext H H' → Sep K (fun a => H a = none) (fun a => H a = none) H' d u → Q u H') →
    codeAny (model P w) A (.call (.ref v.a) ⟨us, []⟩) (CR CX0 outer P w H s Q E) s
def ClOk (P : Program) (w : World) (K : PySem.W.Frag) (mg : Str → Option Value) (base : Heap) (k : Nat) (cl : ClM) : Prop := ∀ v φ, cl v = some φ → ClAt P w K mg base k v φ
/-- what the captured cells hold -/
structure CellsB (cl : List (Str × Addr)) (fr : List Str) (ws : List V) (h : Heap) : Prop where
  len : ws.length = fr.length
  all : ∀ y c, cl.lookup y = some c → ∃ v, h.IsCell c v
  inj : ∀ x y c, cl.lookup x = some c → cl.lookup y = some c → x = y
  has : ∀ (i : Nat) (y : Str), fr[i]? = some y → ∃ c, cl.lookup y = some c ∧ ∀ v, ws[i]? = some v → ∃ u, L2.RelV v u ∧ h.IsCell c (some u)
/-- a lambda's words keep their promise, wherever it is made -/
structure LmOk (P : Program) (w : World) (K : PySem.W.Frag) (mg : Str → Option Value) (k : Nat) (m : LM) : Prop where
  ok : ∀ (sc : Scope) (N : List Str) (cap : List Nat) (params : Arguments) (body : Expr) (lsc : Scope), m.ck sc N cap params body lsc = true →
    (∀ y ∈ lsc.names, y.2 = .free → sc.names.lookup y.1 = some .cell ∨ sc.names.lookup y.1 = some .free) ∧ (∀ env : Env, defaultsOf params env = ([], [])) ∧
    ∃ fr : List Str, cap.map (fun j => N[j]?) = fr.map some ∧ (∀ y ∈ fr, (y, NameKind.free) ∈ lsc.names) ∧
      ∀ (base : Heap) (v : CV) (cl : List (Str × Addr)) (pm ctv : Value), Mod K mg base → base.get? v.a = some (PySem.W.kla_obj "<lambda>" v.q params body lsc cl pm v.c ctv) → CellsB cl fr v.ws base → v.ds.length = cap.length → ClAt P w K mg base k v (m.φ v.ds)
structure FnC (X : Cx) (kc : Nat) (q : FC) : Prop where
  ex : ∃ (k : Nat) (f : Addr) (fd : FuncData) (ps : List Str), ps.length = q.n ∧ (∀ (base : Heap) (cl : ClM), Mod X.K X.mg base → ClOk X.prog X.w X.K X.mg base kc cl → FnOk X.prog X.w X.K X.mg base CX0 k f fd ps (spC X.K q.n (q.F cl))) ∧
    Room k X.A ∧ X.mg q.nm = some (.ref f) ∧ PySem.W.keepIn X.K (.ref f) = true ∧ Binds X.K fd ps []
/-- the same, handed in the second place -/
def spC1 (K : PySem.W.Frag) (n : Nat) (F : CV → List D → Option D) : Sp := fun vs H Q _ => ∃ (v : CV) (u0 : V) (us : List V) (a0 : D) (args : List D) (d : D), vs = u0 :: .ref v.a :: us ∧ F v (a0 :: args) = some d ∧ args.length + 2 = n ∧ H v.c = some (LamX.CodeO v.c v.q) ∧
  Rps K (fun _ => True) H v.ds v.ws ∧ Rps K (fun _ => True) H (a0 :: args) (u0 :: us) ∧ LamX.Tabs Tb.T H ∧ ∀ u H', Ext H H' → Sep K (fun a => H a = none) (fun a => H a = none) H' d u → Q u H'
structure FnC1 (X : Cx) (kc : Nat) (q : FC) : Prop where
  ex : ∃ (k : Nat) (f : Addr) (fd : FuncData) (ps : List Str), ps.length = q.n ∧ (∀ (base : Heap) (cl : ClM), Mod X.K X.mg base → ClOk X.prog X.w X.K X.mg base kc cl → FnOk X.prog X.w X.K X.mg base CX0 k f fd ps (spC1 X.K q.n (q.F cl))) ∧
    Room k X.A ∧ X.mg q.nm = some (.ref f) ∧ PySem.W.keepIn X.K (.ref f) = true ∧ Binds X.K fd ps []
structure FnTC (X : Cx) (x : Str) (n : Nat) (F : CV → List D → Option D) : Prop where
  ex : ∃ (k : Nat) (f : Addr) (fd : FuncData) (ps : List Str), ps.length = n ∧ FnOk X.prog X.w X.K X.mg X.base CX0 k f fd ps (spC X.K n F) ∧ Room k X.A ∧ X.mg x = some (.ref f) ∧ PySem.W.keepIn X.K (.ref f) = true ∧ Binds X.K fd ps []
structure Ctx (lb : Bool) (X : Cx) (Γ : Gam) : Prop where
  nd : X.N.Nodup
  calm : X.calm = true
  units : X.A.units + 66 < cLine
  blt : ∀ x ∈ bltNames, X.mg x = none
  fn : ∀ (k : Nat) x n F, Γ.fn[k]? = some (x, n, F) → FnD X x n F
  mf : ∀ (k : Nat) q, Γ.mf[k]? = some q → FnM X q
  gl : ∀ (k : Nat) x d, Γ.gl[k]? = some (x, d) → imm d = true ∧ ∃ v u, X.mg x = some u ∧ RelV v u ∧ ∀ N H, Rp X.K N H d v
  cl : ∀ v φ, Γ.ex.cl v = some φ → ∃ k, ClAt X.prog X.w X.K X.mg X.base k v φ ∧ Room k X.A
  tc : ∀ (k : Nat) x n F, Γ.ex.tc[k]? = some (x, n, F) → FnTC X x n F
  fc : ∀ (j : Nat) q, Γ.ex.fc[j]? = some q → FnC X Γ.ex.kc q
  fb : ∀ (j : Nat) q, Γ.ex.fb.l[j]? = some q → FnC1 X Γ.ex.kc q
  lm : ∀ (j : Nat) m, Γ.ex.lm[j]? = some m → LmOk X.prog X.w X.K X.mg Γ.ex.kc m
  tb : lb = true → Γ.ex.lm ≠ [] → (∀ x, X.fn x = true) ∧ ∃ c P, X.env.code = .ref c ∧ LamX.TabB X.base X.mg c P ∧ (P, X.env.qual ++ "<lambda>") ∈ Tb.T ∧ ∀ p ∈ Tb.T, p.1 = P → p.2 = X.env.qual ++ "<lambda>"
  m2 : ∀ (k : Nat) q, Γ.ex.ops.mf[k]? = some q → FnM2 X q
end
def nameAt (N : List Str) (i : Nat) (x : Str) : Bool := match N[i]? with | some y => decide (y = x) | none => false
def visB (sc : Scope) (x : Str) : Bool := match sc.names.lookup x with | some .local => true | some .cell => true | some .free => true | _ => false
def locB (sc : Scope) (x : Str) : Bool := match sc.names.lookup x with | some .local => true | _ => false
def gloB (sc : Scope) (x : Str) : Bool := match sc.names.lookup x with | some .globalImplicit => !(x == ("__debug__" : Str)) | _ => false
def opB : BinK → Operator → Bool
  | .add, .Add => true | .sub, .Sub => true | .mul, .Mult => true | .fdiv, .FloorDiv => true | .mod, .Mod => true | .pow, .Pow => true
  | .shl, .LShift => true | .shr, .RShift => true | .band, .BitAnd => true | .bor, .BitOr => true | _, _ => false
def cmpB : CmpK → CmpOp → Bool
  | .eq, .Eq => true | .ne, .NotEq => true | .lt, .Lt => true | .le, .LtE => true | .gt, .Gt => true | .ge, .GtE => true | .isin, .In => true | .notin, .NotIn => true | _, _ => false
def plainIx : Expr → Bool
  | .Slice _ _ _ _ => false
  | _ => true
def notStar : Expr → Bool
  | .Starred _ _ => false
  | _ => true
def biName : BI → Str
  | .len => "len" | .abs => "abs" | .int => "int" | .str => "str" | .list => "list" | .tuple => "tuple" | .sum => "sum" | .min => "min" | .max => "max" | .sorted => "sorted"
def tyNames : List String := ["int", "bool", "str", "list", "tuple", "dict"]
/-- a name that may be stored: a local; at a def's own level (b) a cell, too -/
def dstK (b : Bool) (sc : Scope) (x : Str) : Bool := match sc.names.lookup x with | some .local => true | some .cell => b | _ => false
def chkNs (b : Bool) (N : List Str) (sc : Scope) : List Nat → List Expr → Bool
  | [], [] => true
  | i :: is, .Name x _ :: es => nameAt N i x && dstK b sc x && chkNs b N sc is es
  | _, _ => false
def chkTg (b : Bool) (sc : Scope) (N : List Str) : Tg → Expr → Bool
  | .nm i, .Name x _ => nameAt N i x && dstK b sc x
  | .tp is, .Tuple es _ _ => chkNs b N sc is es && decide (is.length = es.length)
  | _, _ => false
def ordK : CmpK → Bool
  | .isin => false | .notin => false | _ => true
def isOp (n : Bool) : CmpOp → Bool
  | .Is => !n | .IsNot => n | _ => false
def chkYes : CE → Bool
  | .bl true => true
  | _ => false
def notSet : Expr → Bool
  | .Set _ _ _ => false
  | _ => true
def chkNm (sc : Scope) (N : List Str) (i : Nat) : Expr → Bool
  | .Name x _ => nameAt N i x && visB sc x && !(x == ("__debug__" : Str)) && !(x == ("__classdict__" : Str))
  | _ => false
def tgIn (own : List Nat) : Tg → Bool
  | .nm i => own.contains i
  | .tp is => is.all own.contains
mutual
def chk (lb : Bool) (Γ : Gam) (sc : Scope) (N : List Str) : CE → Expr → Bool
  | .var i, e => match e with | .Name x _ => nameAt N i x && visB sc x && !(x == ("__debug__" : Str)) && !(x == ("__classdict__" : Str)) | _ => false
  | .glob k, e => match e with | .Name y _ => nameAt (Γ.gl.map (·.1)) k y && gloB sc y | _ => false
  | .non, e => match e with | .Constant .none _ _ => true | _ => false
  | .bl b, e => match e with | .Constant (.bool c) _ _ => b == c | _ => false
  | .int i, e => match e with | .Constant (.int j) _ _ => i == j | _ => false
  | .str x, e => match e with | .Constant (.str y) _ _ => decide (x = y) | _ => false
  | .bin k a b, e => match e with | .BinOp l op r _ => opB k op && chk lb Γ sc N a l && chk lb Γ sc N b r | _ => false
  | .neg a, e => match e with | .UnaryOp .USub e _ => chk lb Γ sc N a e | _ => false
  | .not a, e => match e with | .UnaryOp .Not e _ => chk lb Γ sc N a e | _ => false
  | .cmp k a b, e => match e with | .Compare l [op] [r] _ => cmpB k op && !(behindInMarks op r) && chk lb Γ sc N a l && chk lb Γ sc N b r | _ => false
  | .cmp2 k k' a b c, e => match e with | .Compare l [o1, o2] [m, r] _ => cmpB k o1 && cmpB k' o2 && ordK k && ordK k' && !(lastMarks [o1, o2] [m, r]) && chk lb Γ sc N a l && chk lb Γ sc N b m && chk lb Γ sc N c r | _ => false
  | .isN n a, e => match e with | .Compare l [op] [.Constant .none _ _] _ => isOp n op && chk lb Γ sc N a l | _ => false
  | .isB n b a, e => match e with | .Compare l [op] [.Constant (.bool c) _ _] _ => isOp n op && b == c && chk lb Γ sc N a l | _ => false
  | .and a b, e => match e with
    | .BoolOp .And [l, r] _ => chk lb Γ sc N a l && chk lb Γ sc N b r
    | .BoolOp .And (l :: m :: n :: es) p => chk lb Γ sc N a l && chk lb Γ sc N b (.BoolOp .And (m :: n :: es) p)
    | _ => false
  | .or a b, e => match e with
    | .BoolOp .Or [l, r] _ => chk lb Γ sc N a l && chk lb Γ sc N b r
    | .BoolOp .Or (l :: m :: n :: es) p => chk lb Γ sc N a l && chk lb Γ sc N b (.BoolOp .Or (m :: n :: es) p)
    | _ => false
  | .tup as, e => match e with | .Tuple es _ _ => chks lb Γ sc N as es | _ => false
  | .lst as, e => match e with | .List es _ => chks lb Γ sc N as es | _ => false
  | .dnil, e => match e with | .Dict [] [] _ => true | _ => false
  | .ix a b, e => match e with | .Subscript l r _ => plainIx r && chk lb Γ sc N a l && chk lb Γ sc N b r | _ => false
  | .sl a lo hi, e => match e with | .Subscript l (.Slice lo' hi' none _) _ => chk lb Γ sc N a l && chko lb Γ sc N lo lo' && chko lb Γ sc N hi hi' | _ => false
  | .bi b as, e => match e with | .Call (.Name f _) (e :: es) [] _ => decide (f = biName b) && gloB sc f && chks lb Γ sc N as (e :: es) | _ => false
  | .isi T a, e => match e with
    | .Call (.Name f _) [e, .Name t _] [] _ => decide (f = "isinstance") && gloB sc f && notStar e && decide (t = Str.ofString T) && gloB sc t && tyNames.contains T && chk lb Γ sc N a e
    | _ => false
  | .isi2 T U a, e => match e with
    | .Call (.Name f _) [e, .Tuple [.Name t _, .Name u _] _ _] [] _ => decide (f = "isinstance") && gloB sc f && notStar e && decide (t = Str.ofString T) && gloB sc t && tyNames.contains T &&
      decide (u = Str.ofString U) && gloB sc u && tyNames.contains U && chk lb Γ sc N a e
    | _ => false
  | .mcl f as, e => match e with | .Call (.Name g _) (e :: es) [] _ => nameAt (Γ.mf.map (·.nm)) f g && gloB sc g && chks lb Γ sc N as (e :: es) && lastNew as | _ => false
  | .call f as, e => match e with | .Call (.Name g _) (e :: es) [] _ => nameAt (Γ.fn.map (·.1)) f g && gloB sc g && chks lb Γ sc N as (e :: es) | _ => false
  | .lrev a, e => match e with | .Subscript x (.Slice none none (some (.UnaryOp .USub (.Constant (.int 1) _ _) _)) _) _ => chk lb Γ sc N a x | _ => false
  | .lrv a, e => match e with | .Call (.Name x _) [.Call (.Name y _) [e] [] _] [] _ => decide (x = "list") && gloB sc x && decide (y = "reversed") && gloB sc y && notStar e && chk lb Γ sc N a e | _ => false
  | .srt a, e => match e with | .Call (.Name x _) [.Call (.Attribute (.Name y py) nm ap) [] [] cp] [] _ => decide (x = "sorted") && gloB sc x && decide (nm = "items") && (ap.endLine == cp.line) && chk lb Γ sc N a (.Name y py) | _ => false
  | .dget1 a k, e => match e with | .Call (.Attribute (.Name y py) nm ap) [ke] [] cp => decide (nm = "get") && (ap.endLine == cp.line) && notStar ke && chk lb Γ sc N a (.Name y py) && chk lb Γ sc N k ke | _ => false
  | .dget2 a k d, e => match e with | .Call (.Attribute (.Name y py) nm ap) [ke, de] [] cp => decide (nm = "get") && (ap.endLine == cp.line) && notStar ke && notStar de && chk lb Γ sc N a (.Name y py) && chk lb Γ sc N k ke && chk lb Γ sc N d de | _ => false
  | .lc own t it c e, x => match x with
    | .ListComp elt [⟨tg, iter, ifs, a⟩] scope _ => (a == 0) && blkC N sc scope own && tgIn (own.map (·.2)) t && chkTg false (relS scope sc) N t tg && chki lb Γ sc N it tg iter && notSet iter &&
        (match ifs with | [] => chkYes c | [q] => chk false Γ (relS scope sc) N c q | _ => false) && chk false Γ (relS scope sc) N e elt
    | _ => false
  | .lcd own t i c e, x => match x with
    | .ListComp elt [⟨tg, iter, ifs, a⟩] scope _ => (a == 0) && blkC N sc scope own && tgIn (own.map (·.2)) t && chkTg false (relS scope sc) N t tg && chkNm sc N i iter &&
        (match ifs with | [] => chkYes c | [q] => chk false Γ (relS scope sc) N c q | _ => false) && chk false Γ (relS scope sc) N e elt
    | _ => false
  | .app i as, e => match e with | .Call (.Name x _) (e :: es) [] _ => nameAt N i x && visB sc x && !(x == ("__debug__" : Str)) && !(x == ("__classdict__" : Str)) && chks lb Γ sc N as (e :: es) | _ => false
  | .callC k i as, e => match e with
    | .Call (.Name g _) (.Name x _ :: es) [] _ => nameAt (Γ.ex.tc.map (·.1)) k g && gloB sc g && nameAt N i x && visB sc x && !(x == ("__debug__" : Str)) && !(x == ("__classdict__" : Str)) && chks lb Γ sc N as es
    | _ => false
  | .callL k l cap as, e => match e with
    | .Call (.Name g _) (.Lambda params body lsc _ :: es) [] _ => lb && nameAt (Γ.ex.fc.map (·.nm)) k g && gloB sc g && (match Γ.ex.lm[l]? with | some m => m.ck sc N cap params body lsc | none => false) && chks lb Γ sc N as es
    | _ => false
  | .callL1 k l cap i as, e => match e with
    | .Call (.Name g _) (.Name x _ :: .Lambda params body lsc _ :: es) [] _ => lb && nameAt (Γ.ex.fb.l.map (·.nm)) k g && gloB sc g && (match Γ.ex.lm[l]? with | some m => m.ck sc N cap params body lsc | none => false) && nameAt N i x && visB sc x && !(x == ("__debug__" : Str)) && !(x == ("__classdict__" : Str)) && chks lb Γ sc N as es
    | _ => false
  | .op k as, e => match Γ.ex.ops.op[k]? with
    | some q => (match q.mt sc e with | some es => chks lb Γ sc N as es | none => false)
    | none => false
  | .meth k i as, e => match e with
    | .Call (.Attribute (.Name x _) nm ap) (e :: es) [] cp => (match Γ.ex.ops.mf[k]? with | some q => decide (q.nm = nm) && q.me.C.isSome | none => false) && !(nm == ("kept_runs" : Str)) && (ap.endLine == cp.line) && decide (es.length < 20) &&
      nameAt N i x && visB sc x && !(x == ("__debug__" : Str)) && !(x == ("__classdict__" : Str)) && chks lb Γ sc N as (e :: es)
    | _ => false
def chks (lb : Bool) (Γ : Gam) (sc : Scope) (N : List Str) : CAs → List Expr → Bool
  | .nil, [] => true
  | .cons c cs, e :: es => notStar e && chk lb Γ sc N c e && chks lb Γ sc N cs es
  | _, _ => false
def chko (lb : Bool) (Γ : Gam) (sc : Scope) (N : List Str) : CO → Option Expr → Bool
  | .none, none => true
  | .some c, some e => chk lb Γ sc N c e
  | _, _ => false
def chki (lb : Bool) (Γ : Gam) (sc : Scope) (N : List Str) : CI → Expr → Expr → Bool
  | .val c, _, e => chk lb Γ sc N c e
  | .rng1 a, _, e => match e with | .Call (.Name f _) [e] [] _ => decide (f = "range") && gloB sc f && notStar e && chk lb Γ sc N a e | _ => false
  | .rng2 a b, _, e => match e with | .Call (.Name f _) [e, e2] [] _ => decide (f = "range") && gloB sc f && notStar e && notStar e2 && chk lb Γ sc N a e && chk lb Γ sc N b e2 | _ => false
  | .rng3 a b c, _, e => match e with | .Call (.Name f _) [e, e2, e3] [] _ => decide (f = "range") && gloB sc f && notStar e && notStar e2 && notStar e3 && chk lb Γ sc N a e && chk lb Γ sc N b e2 && chk lb Γ sc N c e3 | _ => false
  | .rrng2 a b, _, e => match e with
    | .Call (.Name f _) [.Call (.Name g _) [e, e2] [] _] [] _ => decide (f = "reversed") && gloB sc f && decide (g = "range") && gloB sc g && notStar e && notStar e2 && chk lb Γ sc N a e && chk lb Γ sc N b e2
    | _ => false
  | .enum c, tg, e => match tg with
    | .Tuple _ _ _ => match e with | .Call (.Name f _) [e] [] _ => decide (f = "enumerate") && gloB sc f && notStar e && chk lb Γ sc N c e | _ => false
    | _ => false
  | .zip a b, tg, e => match tg with
    | .Tuple _ _ _ => match e with | .Call (.Name f _) [l, r] [] _ => decide (f = "zip") && gloB sc f && notStar l && notStar r && chk lb Γ sc N a l && chk lb Γ sc N b r | _ => false
    | _ => false
  | .op k c, tg, e => match Γ.ex.ops.it[k]? with
    | some q => (match q.mt sc tg e with | some e' => chk lb Γ sc N c e' | none => false)
    | none => false
end
end DD
set_option Elab.async false
set_option linter.all false
set_option maxRecDepth 100000
set_option maxHeartbeats 2000000
namespace DD
open PySem L2 PyProof.Rows
variable [Tb : Tbl] {lb : Bool}
section
variable {X : Cx} {Γ : Gam} {f g h : Rho → Option (Fl × D)} {pos : Pos} {a b c : Expr}
theorem sz_of {n : Nat} (h : n ≤ lim) : n ≤ sizeLine := Nat.le_trans h (by decide)
theorem sz_lt {n : Nat} (h : n < lim) : n < sizeLine := Nat.lt_of_lt_of_le h (by decide)
/-- a test, from its value -/
theorem pt_of {e : Expr} (he : PE X e (rd X.K f)) (hw : ∀ whole, isTrue e X.env whole = (do let v ← whole; standAt e.pos; holding [v] (truthy v))) : PT X e (rdT X.K fun ρ => toB (f ρ)) := by
  refine ⟨fun pins s σ H Q I hh => ?_⟩
  obtain ⟨B, ρ, b, hf, S, q⟩ := hh
  refine (pt_val he hw).run pins s σ H Q I ?_
  dsimp only at hf
  cases e1 : f ρ with
  | none => rw [e1] at hf; cases hf
  | some r =>
    obtain ⟨fl, d⟩ := r
    rw [e1] at hf
    cases d <;> simp [toB] at hf
    subst hf
    exact ⟨B, ρ, fl, _, e1, S, fun v H2 e r => ⟨_, r.bl, q H2 e⟩⟩
theorem fin_bl {B : Bs} {ρ : Rho} {σ : L2.St} {H H' : Hp} {K : PySem.W.Frag} {b : Bool} : Res K B ρ σ H H' .fr (.bl b) (.bl b) := by simp [Res, Sep, Rp]
theorem fin_int {B : Bs} {ρ : Rho} {σ : L2.St} {H H' : Hp} {K : PySem.W.Frag} {b : Int} : Res K B ρ σ H H' .fr (.int b) (.int b) := by simp [Res, Sep, Rp]
theorem fin_str {B : Bs} {ρ : Rho} {σ : L2.St} {H H' : Hp} {K : PySem.W.Frag} {b : Str} : Res K B ρ σ H H' .fr (.str b) (.str b) := by simp [Res, Sep, Rp]
theorem fin_non {B : Bs} {ρ : Rho} {σ : L2.St} {H H' : Hp} {K : PySem.W.Frag} : Res K B ρ σ H H' .fr .non .non := by simp [Res, Sep, Rp]
theorem s_const {e : Expr} {v : V} {d : D} (he : PE X e (tC v)) (hr : ∀ B ρ σ H, Res X.K B ρ σ H H .fr d v) : PE X e (rd X.K fun _ => some (.fr, d)) := by
  refine ⟨fun pins s σ H Q I hh => ?_⟩
  obtain ⟨B, ρ, fl, d', hf, S, q⟩ := hh
  cases hf
  exact he.run pins s σ H Q I (q _ H (Ext.refl H) (hr B ρ σ H))
theorem s_var {i : Nat} {e : Expr} (he : PE X e (tVar i)) : PE X e (rd X.K fun ρ => varS ρ[i]?) := by
  refine ⟨fun pins s σ H Q I hh => ?_⟩
  obtain ⟨B, ρ, fl, d', hf, S, q⟩ := hh
  refine he.run pins s σ H Q I ?_
  dsimp only at hf
  cases e1 : ρ[i]? with
  | none => rw [e1] at hf; cases hf
  | some o =>
    cases o with
    | none => rw [e1] at hf; cases hf
    | some sl =>
      cases sl with
      | cl v => rw [e1] at hf; cases hf
      | sh d =>
        rw [e1] at hf
        cases hf
        obtain ⟨v, h1, h2⟩ := S.sh i _ e1
        exact ⟨v, h1, q v H (Ext.refl H) h2⟩
      | ow d =>
        rw [e1] at hf
        cases hf
        obtain ⟨v, h1, h2, h3⟩ := S.ow i _ e1
        refine ⟨v, h1, q v H (Ext.refl H) ?_⟩
        show Sep _ _ _ _ _ _
        have key : ∀ a, v = .ref a → Own ρ σ a := fun a ea => ⟨i, _, e1, by rw [h1, ea]⟩
        revert h3
        cases d' <;> simp [isMut] at h2 <;> intro h3 <;> simp only [Sep] at h3 ⊢ <;> obtain ⟨p, vs, e, t, r⟩ := h3 <;> exact ⟨p, vs, e, key p e, r⟩
theorem s_glob (C : Ctx lb X Γ) {k : Nat} {x : Str} {p : Pos} (hk : (Γ.gl.map (·.1))[k]? = some x) (hg : Gl X x) (hd : (x == ("__debug__" : Str)) = false) : PE X (.Name x p) (rd X.K fun _ => ofD (Γ.gl[k]?.map (·.2))) := by
  refine ⟨fun pins s σ H Q I hh => ?_⟩
  obtain ⟨B, ρ, fl, d', hf, S, q⟩ := hh
  dsimp only at hf
  rw [List.getElem?_map] at hk
  cases e1 : Γ.gl[k]? with
  | none => rw [e1] at hf; cases hf
  | some xd =>
    obtain ⟨y, d⟩ := xd
    rw [e1] at hf hk
    cases hf
    simp only [Option.map_some, Option.some.injEq] at hk
    subst hk
    obtain ⟨hi, v, u, h1, h2, h3⟩ := C.gl k _ _ e1
    refine (pe_glob hg h1 h2 hd).run pins s σ H Q I (q v H (Ext.refl H) ?_)
    refine Res.of_rp ?_ (h3 _ H)
    cases d <;> first | rfl | (simp [imm] at hi)
theorem replicate_flat {K : PySem.W.Frag} {N : Addr → Prop} {H : Hp} {ds : List D} {vs : List V} (h : Rps K N H ds vs) : ∀ n, Rps K N H (List.replicate n ds).flatten (List.replicate n vs).flatten
  | 0 => Rps.nil
  | n + 1 => by
    rw [List.replicate_succ, List.replicate_succ, List.flatten_cons, List.flatten_cons]
    exact h.append (replicate_flat h n)
theorem s_bin {k : BinK} {op : Operator} (hk : opB k op = true) (ha : PE X a (rd X.K f)) (hb : PE X b (rd X.K g)) :
    PE X (.BinOp a op b pos) (rd X.K fun ρ => do let x ← f ρ; let y ← g ρ; ofD (dBin k x.2 y.2)) := by
  refine ⟨fun pins s σ H Q I hh => ?_⟩
  obtain ⟨B, ρ, fl, d, hf, S, q⟩ := hh
  cases e1 : f ρ with
  | none => simp [e1] at hf
  | some x =>
  cases e2 : g ρ with
  | none => simp [e1, e2] at hf
  | some y =>
  obtain ⟨fa, da⟩ := x
  obtain ⟨fb, db⟩ := y
  simp only [e1, e2, Option.bind_eq_bind, Option.bind_some, ofD] at hf
  have run : ∀ {r : R2}, OpR X (binaryOp op) r → (∀ x y H2, Ext H H2 → Res X.K B ρ σ H H2 fa da x → Res X.K B ρ σ H H2 fb db y → r x y H2 Q) →
      wpAny (model X.prog X.w) X.A (eval (.BinOp a op b pos) X.env) (EP X pins σ Q) X.xe s := fun ho kk => (pe_op ho ha hb).run pins s σ H Q I (rd_two e1 e2 S kk)
  cases k <;> cases op <;> first | (simp [opB] at hk; done) | skip
  case add.Add =>
    cases da <;> cases db <;> simp only [dBin, Option.map_none, reduceCtorEq] at hf <;> try contradiction
    · cases hf
      exact run op_add fun x y H2 e r1 r2 => ⟨_, _, r1.int, r2.int, q _ H2 e fin_int⟩
    · rename_i x y
      split at hf <;> simp only [Option.map_none, Option.map_some, reduceCtorEq, Option.some.injEq, Prod.mk.injEq] at hf
      obtain ⟨rfl, rfl⟩ := hf
      rename_i hz
      exact run op_add_str fun x y H2 e r1 r2 => ⟨_, _, r1.str, r2.str, sz_of hz, q _ H2 e fin_str⟩
    · rename_i xs ys
      split at hf <;> simp only [Option.map_none, Option.map_some, reduceCtorEq, Option.some.injEq, Prod.mk.injEq] at hf
      obtain ⟨rfl, rfl⟩ := hf
      rename_i hz
      refine run op_catA fun x y H2 e r1 r2 => ?_
      obtain ⟨p, vs, rfl, t1, q1⟩ := r1.tup
      obtain ⟨p', ws, rfl, t2, q2⟩ := r2.tup
      refine ⟨p, p', vs, ws, rfl, rfl, t1, t2, sz_of (by rw [← q1.length, ← q2.length]; exact hz), fun z => ?_, fun _ z => ?_, fun _ _ u hu => ?_⟩
      · have z2 : xs = [] := by have := q1.length; rw [z] at this; exact List.eq_nil_of_length_eq_zero this
        subst z2
        exact q _ H2 e (Res.of_rp rfl (by simp only [Rp]; exact ⟨_, _, rfl, t2, q2⟩))
      · have z2 : ys = [] := by have := q2.length; rw [z] at this; exact List.eq_nil_of_length_eq_zero this
        subst z2
        rw [List.append_nil] at q
        exact q _ H2 e (Res.of_rp rfl (by simp only [Rp]; exact ⟨_, _, rfl, t1, q1⟩))
      · exact q _ _ (e.trans (Ext.new hu)) (Res.newT hu (q1.append q2))
    · rename_i xs ys
      split at hf <;> simp only [Option.map_none, Option.map_some, reduceCtorEq, Option.some.injEq, Prod.mk.injEq] at hf
      obtain ⟨rfl, rfl⟩ := hf
      rename_i hz
      refine run op_cat fun x y H2 e r1 r2 => ?_
      obtain ⟨p, vs, rfl, t1, q1⟩ := r1.lst S
      obtain ⟨p', ws, rfl, t2, q2⟩ := r2.lst S
      refine ⟨p, p', vs, ws, rfl, rfl, t1, t2, sz_of (by rw [← q1.length, ← q2.length]; exact hz), fun u hu => ?_⟩
      exact q _ _ (e.trans (Ext.new hu)) (Res.newL S e hu (q1.append q2))
  case sub.Sub =>
    cases da <;> cases db <;> simp only [dBin, Option.map_none, reduceCtorEq] at hf <;> try contradiction
    cases hf
    exact run op_sub fun x y H2 e r1 r2 => ⟨_, _, r1.int, r2.int, q _ H2 e fin_int⟩
  case mul.Mult =>
    cases da <;> cases db <;> simp only [dBin, Option.map_none, reduceCtorEq] at hf <;> try contradiction
    · split at hf <;> simp only [Option.map_none, Option.map_some, reduceCtorEq, Option.some.injEq, Prod.mk.injEq] at hf
      obtain ⟨rfl, rfl⟩ := hf
      rename_i i j hz
      rw [Bool.or_eq_true, Bool.and_eq_true, Bool.and_eq_true, dte, dte, dte, dte] at hz
      exact run op_mul fun x y H2 e r1 r2 => ⟨_, _, r1.int, r2.int, hz, q _ H2 e fin_int⟩
    · rename_i ds k
      split at hf <;> simp only [Option.map_none, Option.map_some, reduceCtorEq, Option.some.injEq, Prod.mk.injEq] at hf
      obtain ⟨rfl, rfl⟩ := hf
      rename_i hz
      rw [Bool.and_eq_true, Bool.and_eq_true, Bool.and_eq_true, dte, dte, dte, dte] at hz
      refine run op_repT fun x y H2 e r1 r2 => ?_
      obtain ⟨p, vs, rfl, t1, q1⟩ := r1.tup
      refine ⟨p, k, vs, rfl, r2.int, t1, ?_, hz.1.1.1, hz.1.1.2, (by rw [← q1.length]; exact hz.2), fun u hu => ?_⟩
      · rintro rfl
        have := q1.length
        simp at this
        subst this
        simp at hz
      · exact q _ _ (e.trans (Ext.new hu)) (Res.newT hu (replicate_flat q1 _))
    · rename_i ds k
      split at hf <;> simp only [Option.map_none, Option.map_some, reduceCtorEq, Option.some.injEq, Prod.mk.injEq] at hf
      obtain ⟨rfl, rfl⟩ := hf
      rename_i hz
      rw [Bool.and_eq_true, Bool.and_eq_true, dte, dte, dte] at hz
      refine run op_rep fun x y H2 e r1 r2 => ?_
      obtain ⟨p, vs, rfl, t1, q1⟩ := r1.lst S
      refine ⟨p, k, vs, rfl, r2.int, t1, by unfold lim at hz; omega, by unfold lim at hz; omega, sz_of (by rw [← q1.length]; exact hz.2), fun u hu => ?_⟩
      exact q _ _ (e.trans (Ext.new hu)) (Res.newL S e hu (replicate_flat q1 _))
  all_goals
    cases da <;> cases db <;> simp only [dBin, Option.map_none, reduceCtorEq] at hf <;> try contradiction
  case some.some.fdiv.FloorDiv.int.int =>
    split at hf <;> simp only [Option.map_none, Option.map_some, reduceCtorEq, Option.some.injEq, Prod.mk.injEq] at hf
    obtain ⟨rfl, rfl⟩ := hf
    rename_i hz
    rw [Bool.and_eq_true, dte, dte] at hz
    exact run op_fdiv fun x y H2 e r1 r2 => ⟨_, _, r1.int, r2.int, hz, q _ H2 e fin_int⟩
  case some.some.mod.Mod.int.int =>
    split at hf <;> simp only [Option.map_none, Option.map_some, reduceCtorEq, Option.some.injEq, Prod.mk.injEq] at hf
    obtain ⟨rfl, rfl⟩ := hf
    rename_i hz
    rw [dte] at hz
    exact run op_mod fun x y H2 e r1 r2 => ⟨_, _, r1.int, r2.int, hz, q _ H2 e fin_int⟩
  case some.some.pow.Pow.int.int =>
    split at hf <;> simp only [Option.map_none, Option.map_some, reduceCtorEq, Option.some.injEq, Prod.mk.injEq] at hf
    obtain ⟨rfl, rfl⟩ := hf
    rename_i hz
    rw [Bool.and_eq_true, Bool.and_eq_true, dte, dte, dte] at hz
    exact run op_pow fun x y H2 e r1 r2 => ⟨_, _, r1.int, r2.int, ⟨hz.1.1, hz.1.2, hz.2⟩, q _ H2 e fin_int⟩
  case some.some.shl.LShift.int.int =>
    split at hf <;> simp only [Option.map_none, Option.map_some, reduceCtorEq, Option.some.injEq, Prod.mk.injEq] at hf
    obtain ⟨rfl, rfl⟩ := hf
    rename_i hz
    rw [Bool.and_eq_true, Bool.and_eq_true, dte, dte, dte] at hz
    exact run op_shl fun x y H2 e r1 r2 => ⟨_, _, r1.int, r2.int, ⟨hz.1.1, hz.1.2, hz.2⟩, q _ H2 e fin_int⟩
  case some.some.shr.RShift.int.int =>
    split at hf <;> simp only [Option.map_none, Option.map_some, reduceCtorEq, Option.some.injEq, Prod.mk.injEq] at hf
    obtain ⟨rfl, rfl⟩ := hf
    rename_i hz
    rw [dte] at hz
    exact run op_shr fun x y H2 e r1 r2 => ⟨_, _, r1.int, r2.int, hz, q _ H2 e fin_int⟩
  case some.some.band.BitAnd.int.int =>
    cases hf
    exact run op_and fun x y H2 e r1 r2 => ⟨_, _, r1.int, r2.int, q _ H2 e fin_int⟩
  case some.some.bor.BitOr.int.int =>
    cases hf
    exact run op_or fun x y H2 e r1 r2 => ⟨_, _, r1.int, r2.int, q _ H2 e fin_int⟩
end
end DD
set_option Elab.async false
set_option linter.all false
set_option maxRecDepth 100000
set_option maxHeartbeats 2000000
namespace DD
open PySem L2 PyProof.Rows
variable [Tb : Tbl] {lb : Bool}
section
variable {X : Cx} {Γ : Gam} {f g h : Rho → Option (Fl × D)} {pos : Pos} {a b c : Expr}
theorem dp_list {K : PySem.W.Frag} {N : Addr → Prop} {H : Hp} {ds : List D} {vs : List V} {a : Addr} (hs : SqL K H a vs) (h : SeqAt.shaped (toPy (.lst ds)) = true) (r : Rps K N H ds vs) : Dp K H (.ref a) (.list (toPys ds)) := by
  have := SeqAt.canLay_of_shaped h
  simp only [toPy, PyData.canLay0] at this
  exact Dp.lst hs (Rps.dp ds vs this r)
theorem toPys_any (ds : List D) (p : PyData → Bool) : (toPys ds).any p = ds.any fun z => p (toPy z) := by
  induction ds with
  | nil => rfl
  | cons d ds ih => simp only [toPys, List.any_cons, ih]
theorem op_inDT (hu : X.A.units + 65 < cLine) : OpR X (compareOp .In) (fun x y H Q => ∃ d ds, Dp X.K H x d ∧ Dp X.K H y (.tuple ds) ∧ SeqAt.shaped d = true ∧ SeqAt.shaped (.tuple ds) = true ∧ Q (.bl (ds.any fun z => PyData.eqv z d)) H) := by
  intro pins s σ H x y v u Q I rx ry h
  obtain ⟨d, ds, hd, he, sd, se, q⟩ := h
  obtain ⟨as, r1⟩ := Dp.reads I d x v hd rx
  obtain ⟨bs, r2⟩ := Dp.reads I (.tuple ds) y u he ry
  exact SeqAt.in_tuple_reads r2 r1 (SeqAt.canLay_of_shaped se) (SeqAt.canLay_of_shaped sd) (room_in_shaped sd hu) ⟨.bl _, H, I, rfl, q⟩
theorem op_notInDT (hu : X.A.units + 65 < cLine) : OpR X (compareOp .NotIn) (fun x y H Q => ∃ d ds, Dp X.K H x d ∧ Dp X.K H y (.tuple ds) ∧ SeqAt.shaped d = true ∧ SeqAt.shaped (.tuple ds) = true ∧ Q (.bl (!ds.any fun z => PyData.eqv z d)) H) := by
  intro pins s σ H x y v u Q I rx ry h
  obtain ⟨d, ds, hd, he, sd, se, q⟩ := h
  obtain ⟨as, r1⟩ := Dp.reads I d x v hd rx
  obtain ⟨bs, r2⟩ := Dp.reads I (.tuple ds) y u he ry
  exact SeqAt.notIn_tuple_reads r2 r1 (SeqAt.canLay_of_shaped se) (SeqAt.canLay_of_shaped sd) (room_in_shaped sd hu) ⟨.bl _, H, I, rfl, q⟩
/-- the rules of ==, <, in by data: from the values on -/
theorem cmp_val (C : Ctx lb X Γ) {k : CmpK} {op : CmpOp} (hk : cmpB k op = true) {da db : D} {r : Bool} (hd : dCmp k da db = some r) (nd : ∀ ks ds, db = .dic ks ds → k ≠ .isin ∧ k ≠ .notin) :
    ∃ R : R2, OpR X (compareOp op) R ∧ ∀ {B ρ σ H H2 fa fb x y Q}, StOk X.K B ρ σ H → Res X.K B ρ σ H H2 fa da x → Res X.K B ρ σ H H2 fb db y → Q (.bl r) H2 → R x y H2 Q := by
  have hu : X.A.units + 64 < cLine := by have := C.units; omega
  have hu5 : X.A.units + 65 < cLine := by have := C.units; omega
  have gen : ∀ {op' : CmpOp} {neg : Bool}, (op' = .Eq ∧ neg = false ∨ op' = .NotEq ∧ neg = true) → dEq da db = some (neg ^^ r) →
      ∃ R : R2, OpR X (compareOp op') R ∧ ∀ {B ρ σ H H2 fa fb x y Q}, StOk X.K B ρ σ H → Res X.K B ρ σ H H2 fa da x → Res X.K B ρ σ H H2 fb db y → Q (.bl r) H2 → R x y H2 Q := by
    intro op' neg hop he
    unfold dEq at he
    split at he
    · simp only [Option.some.injEq] at he
      rename_i i j
      rcases hop with ⟨rfl, rfl⟩ | ⟨rfl, rfl⟩
      · refine ⟨_, op_eq, fun S r1 r2 q => ?_⟩
        rw [r1.int, r2.int]
        refine ⟨rfl, ?_⟩
        have : decide (V.int i = V.int j) = r := by rw [dec_int]; simpa [Bool.beq_eq_decide_eq] using he
        rw [this]; exact q
      · refine ⟨_, op_ne, fun S r1 r2 q => ?_⟩
        rw [r1.int, r2.int]
        refine ⟨rfl, ?_⟩
        have : (!decide (V.int i = V.int j)) = r := by rw [dec_int]; rw [Bool.beq_eq_decide_eq, he]; simp
        rw [this]; exact q
    · simp only [Option.some.injEq] at he
      rename_i i j
      have es : decide (V.str i = V.str j) = decide (i = j) := by
        by_cases e : i = j
        · subst e; simp
        · rw [decide_eq_false e, decide_eq_false (fun z => e (V.str.inj z))]
      rcases hop with ⟨rfl, rfl⟩ | ⟨rfl, rfl⟩
      · refine ⟨_, op_eq, fun S r1 r2 q => ?_⟩
        rw [r1.str, r2.str]
        refine ⟨rfl, ?_⟩
        rw [es, he]; simpa using q
      · refine ⟨_, op_ne, fun S r1 r2 q => ?_⟩
        rw [r1.str, r2.str]
        refine ⟨rfl, ?_⟩
        rw [es, he]; simpa using q
    · split at he
      · rename_i hz
        rw [Bool.and_eq_true] at hz
        simp only [Option.some.injEq] at he
        rcases hop with ⟨rfl, rfl⟩ | ⟨rfl, rfl⟩
        · refine ⟨_, op_eqD hu, fun S r1 r2 q => ⟨_, _, Rp.dpS hz.1 r1.any, Rp.dpS hz.2 r2.any, hz.1, hz.2, ?_⟩⟩
          rw [he]; simpa using q
        · refine ⟨_, op_neD hu, fun S r1 r2 q => ⟨_, _, Rp.dpS hz.1 r1.any, Rp.dpS hz.2 r2.any, hz.1, hz.2, ?_⟩⟩
          rw [he]; simpa using q
      · cases he
  cases k <;> cases op <;> first | (simp [cmpB] at hk; done) | skip
  case eq.Eq => exact gen (.inl ⟨rfl, rfl⟩) (by simpa [dCmp] using hd)
  case ne.NotEq =>
    refine gen (.inr ⟨rfl, rfl⟩) ?_
    simp only [dCmp] at hd
    cases e : dEq da db with
    | none => rw [e] at hd; cases hd
    | some v => rw [e] at hd; simp at hd; subst hd; simp
  case lt.Lt =>
    cases da <;> cases db <;> simp only [dCmp, reduceCtorEq] at hd <;> try contradiction
    cases hd
    exact ⟨_, op_lt, fun S r1 r2 q => ⟨_, _, r1.int, r2.int, q⟩⟩
  case le.LtE =>
    cases da <;> cases db <;> simp only [dCmp, reduceCtorEq] at hd <;> try contradiction
    cases hd
    exact ⟨_, op_le, fun S r1 r2 q => ⟨_, _, r1.int, r2.int, q⟩⟩
  case gt.Gt =>
    cases da <;> cases db <;> simp only [dCmp, reduceCtorEq] at hd <;> try contradiction
    cases hd
    exact ⟨_, op_gt, fun S r1 r2 q => ⟨_, _, r1.int, r2.int, q⟩⟩
  case ge.GtE =>
    cases da <;> cases db <;> simp only [dCmp, reduceCtorEq] at hd <;> try contradiction
    cases hd
    exact ⟨_, op_ge, fun S r1 r2 q => ⟨_, _, r1.int, r2.int, q⟩⟩
  case isin.In =>
    have core : ∀ ds, (db = .lst ds ∨ db = .fz ds) → (if shp da && shp (.lst ds) then some (ds.any fun z => PyData.eqv (toPy z) (toPy da)) else none) = some r →
        ∃ R : R2, OpR X (compareOp .In) R ∧ ∀ {B ρ σ H H2 fa fb x y Q}, StOk X.K B ρ σ H → Res X.K B ρ σ H H2 fa da x → Res X.K B ρ σ H H2 fb db y → Q (.bl r) H2 → R x y H2 Q := by
      intro ds hl he
      split at he
      · rename_i hz
        rw [Bool.and_eq_true] at hz
        simp only [Option.some.injEq] at he
        refine ⟨_, op_inD hu5, fun S r1 r2 q => ?_⟩
        obtain ⟨p, vs, rfl, t, r⟩ := r2.seqL hl S
        refine ⟨_, _, Rp.dpS hz.1 r1.any, dp_list t hz.2 r, hz.1, hz.2, ?_⟩
        rw [toPys_any, he]; exact q
      · cases he
    cases db <;> simp only [dCmp, reduceCtorEq] at hd <;> try contradiction
    · split at hd
      case isFalse => cases hd
      rename_i hz
      rw [Bool.and_eq_true] at hz
      simp only [Option.some.injEq] at hd
      refine ⟨_, op_inDT hu5, fun S r1 r2 q => ⟨_, _, Rp.dpS hz.1 r1.any, Rp.dpS hz.2 r2.any, hz.1, hz.2, ?_⟩⟩
      rw [toPys_any, hd]; exact q
    · exact core _ (.inl rfl) hd
    · exact core _ (.inr rfl) hd
    · exact absurd rfl (nd _ _ rfl).1
  case notin.NotIn =>
    have core : ∀ ds, (db = .lst ds ∨ db = .fz ds) → (if shp da && shp (.lst ds) then some (!(ds.any fun z => PyData.eqv (toPy z) (toPy da))) else none) = some r →
        ∃ R : R2, OpR X (compareOp .NotIn) R ∧ ∀ {B ρ σ H H2 fa fb x y Q}, StOk X.K B ρ σ H → Res X.K B ρ σ H H2 fa da x → Res X.K B ρ σ H H2 fb db y → Q (.bl r) H2 → R x y H2 Q := by
      intro ds hl he
      split at he
      · rename_i hz
        rw [Bool.and_eq_true] at hz
        simp only [Option.some.injEq] at he
        refine ⟨_, op_notInD hu5, fun S r1 r2 q => ?_⟩
        obtain ⟨p, vs, rfl, t, r⟩ := r2.seqL hl S
        refine ⟨_, _, Rp.dpS hz.1 r1.any, dp_list t hz.2 r, hz.1, hz.2, ?_⟩
        rw [toPys_any, he]; exact q
      · cases he
    cases db <;> simp only [dCmp, reduceCtorEq] at hd <;> try contradiction
    · split at hd
      case isFalse => cases hd
      rename_i hz
      rw [Bool.and_eq_true] at hz
      simp only [Option.some.injEq] at hd
      refine ⟨_, op_notInDT hu5, fun S r1 r2 q => ⟨_, _, Rp.dpS hz.1 r1.any, Rp.dpS hz.2 r2.any, hz.1, hz.2, ?_⟩⟩
      rw [toPys_any, hd]; exact q
    · exact core _ (.inl rfl) hd
    · exact core _ (.inr rfl) hd
    · exact absurd rfl (nd _ _ rfl).2
end
end DD
set_option Elab.async false
set_option linter.all false
set_option maxRecDepth 100000
set_option maxHeartbeats 2000000
namespace DD
open PySem L2 PyProof.Rows
variable [Tb : Tbl] {lb : Bool}
section
variable {X : Cx} {Γ : Gam} {f g h : Rho → Option (Fl × D)} {pos : Pos} {a b c e : Expr}
theorem pt_weak (hw : PT X e (tB (rd X.K f))) : PT X e (rdT X.K fun ρ => toB (f ρ)) := by
  refine ⟨fun pins s σ H Q I hh => ?_⟩
  obtain ⟨B, ρ, b, hf, S, q⟩ := hh
  refine hw.run pins s σ H Q I ?_
  dsimp only at hf
  cases e1 : f ρ with
  | none => rw [e1] at hf; cases hf
  | some r =>
    obtain ⟨fl, d⟩ := r
    rw [e1] at hf
    cases d <;> simp [toB] at hf
    subst hf
    exact ⟨B, ρ, fl, _, e1, S, fun v H2 e r => ⟨_, r.bl, q H2 e⟩⟩
/-- two values, then what is wanted -/
theorem two_run (ha : PE X a (rd X.K f)) (hb : PE X b (rd X.K g)) {B : Bs} {ρ : Rho} {σ : L2.St} {H : Hp} {fa fb : Fl} {da db : D} (e1 : f ρ = some (fa, da)) (e2 : g ρ = some (fb, db)) (S : StOk X.K B ρ σ H)
    {pins : List (Addr × Obj)} {s : Shared} (I : L2.Inv X pins σ H s) {R : V → V → Hp → Prop} (k : ∀ x y H2, Ext H H2 → Res X.K B ρ σ H H2 fa da x → Res X.K B ρ σ H H2 fb db y → R x y H2) :
    rd X.K f σ H fun x H1 => rd X.K g σ H1 fun y H2 => R x y H2 :=
  ⟨B, ρ, fa, da, e1, S, fun x H1 q1 r1 => ⟨B, ρ, fb, db, e2, S.ext q1, fun y H2 q2 r2 => k x y H2 (q1.trans q2) (r1.ext q2) (r2.back q1)⟩⟩
theorem hasK_val {kvs : List (Key × V)} {q : Key} : (valV kvs q).isSome = hasK q (kvs.map (·.1)) := by
  unfold hasK
  induction kvs with
  | nil => rfl
  | cons p kvs ih =>
    obtain ⟨k, v⟩ := p
    rw [List.map_cons, List.any_cons, ← ih]
    unfold valV
    by_cases e : k = q
    · subst e; simp
    · simp [e]
theorem s_pc (C : Ctx lb X Γ) {k : CmpK} {op : CmpOp} (hk : cmpB k op = true) (ha : PE X a (rd X.K f)) (hb : PE X b (rd X.K g)) :
    PC X op a b (rd X.K fun ρ => do let x ← f ρ; let y ← g ρ; ofB (dCmp k x.2 y.2)) := by
  refine ⟨fun pins s σ H Q I hh => ?_⟩
  obtain ⟨B, ρ, fl, d, hf, S, q⟩ := hh
  cases e1 : f ρ with
  | none => simp [e1] at hf
  | some x =>
  cases e2 : g ρ with
  | none => simp [e1, e2] at hf
  | some y =>
  obtain ⟨fa, da⟩ := x
  obtain ⟨fb, db⟩ := y
  simp only [e1, e2, Option.bind_eq_bind, Option.bind_some, ofB] at hf
  cases e3 : dCmp k da db with
  | none => simp [e3] at hf
  | some r =>
  simp only [e3, Option.map_some, Option.some.injEq, Prod.mk.injEq] at hf
  obtain ⟨rfl, rfl⟩ := hf
  by_cases nd : ∀ ks ds, db = .dic ks ds → k ≠ .isin ∧ k ≠ .notin
  · obtain ⟨R, ho, hR⟩ := cmp_val C hk e3 nd
    exact bin ha hb I (two_run ha hb e1 e2 S I fun x y H2 z r1 r2 => hR S r1 r2 (q _ H2 z fin_bl)) fun v u s2 x y H2 I2 rx ry w => ho pins s2 σ H2 x y v u Q I2 rx ry w
  · have hu : X.A.units + 1 < cLine := by have := C.units; omega
    have ⟨ks, ds, ed, hkk⟩ : ∃ ks ds, db = .dic ks ds ∧ (k = .isin ∨ k = .notin) := by
      apply Classical.byContradiction
      intro hn
      apply nd
      intro ks ds ed
      refine ⟨fun z => hn ⟨ks, ds, ed, .inl z⟩, fun z => hn ⟨ks, ds, ed, .inr z⟩⟩
    subst ed
    have key : ∃ qk : Key, (∀ {B ρ σ H H2 fa x}, Res X.K B ρ σ H H2 fa da x → x = kV qk) ∧ r = (if k = .isin then hasK qk ks else !hasK qk ks) := by
      rcases hkk with rfl | rfl <;> cases da <;> simp only [dCmp, reduceCtorEq] at e3 <;> try contradiction
      · cases e3; exact ⟨.inl _, fun r => r.int, by simp⟩
      · cases e3; exact ⟨.inr _, fun r => r.str, by simp⟩
      · cases e3; exact ⟨.inl _, fun r => r.int, by simp⟩
      · cases e3; exact ⟨.inr _, fun r => r.str, by simp⟩
    obtain ⟨qk, hq, er⟩ := key
    rcases hkk with rfl | rfl
    · cases op <;> first | (simp [cmpB] at hk; done) | skip
      refine (pc_din hu ha hb).run pins s σ H Q I (two_run ha hb e1 e2 S I fun x y H2 z r1 r2 => ?_)
      obtain ⟨p, kvs, rfl, t, ek, _⟩ := r2.dic
      rw [hq r1]
      refine ⟨p, _, rfl, DGet.k t, ?_⟩
      rw [hasK_val, ek]
      rw [if_pos rfl] at er
      rw [← er]
      exact q _ H2 z fin_bl
    · cases op <;> first | (simp [cmpB] at hk; done) | skip
      refine (pc_dnotin hu ha hb).run pins s σ H Q I (two_run ha hb e1 e2 S I fun x y H2 z r1 r2 => ?_)
      obtain ⟨p, kvs, rfl, t, ek, _⟩ := r2.dic
      rw [hq r1]
      refine ⟨p, _, rfl, DGet.k t, ?_⟩
      rw [hasK_val, ek]
      rw [if_neg (by decide)] at er
      rw [← er]
      exact q _ H2 z fin_bl
theorem s_cmp2 (C : Ctx lb X Γ) {k k' : CmpK} {op op' : CmpOp} (hk : cmpB k op = true) (hk' : cmpB k' op' = true) (n1 : k ≠ .isin ∧ k ≠ .notin) (n2 : k' ≠ .isin ∧ k' ≠ .notin) (hm : lastMarks [op, op'] [b, c] = false)
    (ha : PE X a (rd X.K f)) (hb : PE X b (rd X.K g)) (hc : PE X c (rd X.K h)) {F : Rho → Option (Fl × D)}
    (hF : F = fun ρ => do let x ← f ρ; let y ← g ρ; let u ← dCmp k x.2 y.2; if u then do { let z ← h ρ; ofB (dCmp k' y.2 z.2) } else ofB (some false)) :
    PE X (.Compare a [op, op'] [b, c] pos) (rd X.K F) ∧ PT X (.Compare a [op, op'] [b, c] pos) (tB (rd X.K F)) := by
  have main : ∀ {σ : L2.St} {H : Hp} {Q : VK}, rd X.K F σ H Q → ∃ r r', OpR X (compareOp op) r ∧ OpR X (compareOp op') r' ∧ tChain r r' (rd X.K f) (rd X.K g) (rd X.K h) σ H Q := by
    intro σ H Q hh
    obtain ⟨B, ρ, fl, d, hf, S, q⟩ := hh
    rw [hF] at hf
    cases e1 : f ρ with
    | none => simp [e1] at hf
    | some x =>
    cases e2 : g ρ with
    | none => simp [e1, e2] at hf
    | some y =>
    obtain ⟨fa, da⟩ := x
    obtain ⟨fb, db⟩ := y
    simp only [e1, e2, Option.bind_eq_bind, Option.bind_some] at hf
    cases e3 : dCmp k da db with
    | none => simp [e3] at hf
    | some u =>
    simp only [e3, Option.bind_some] at hf
    obtain ⟨R, ho, hR⟩ := cmp_val C hk e3 (fun _ _ _ => n1)
    cases u with
    | false =>
      simp only [Bool.false_eq_true, if_false, ofB, Option.map_some, Option.some.injEq, Prod.mk.injEq] at hf
      obtain ⟨rfl, rfl⟩ := hf
      obtain ⟨R', ho'⟩ : ∃ R', OpR X (compareOp op') R' := by
        cases k' <;> cases op' <;> first | (simp [cmpB] at hk'; done) | skip
        case eq.Eq => exact ⟨_, op_eq⟩
        case ne.NotEq => exact ⟨_, op_ne⟩
        case lt.Lt => exact ⟨_, op_lt⟩
        case le.LtE => exact ⟨_, op_le⟩
        case gt.Gt => exact ⟨_, op_gt⟩
        case ge.GtE => exact ⟨_, op_ge⟩
        case isin.In => exact absurd rfl n2.1
        case notin.NotIn => exact absurd rfl n2.2
      refine ⟨R, R', ho, ho', ?_⟩
      refine ⟨B, ρ, fa, da, e1, S, fun x H1 q1 r1 => ⟨B, ρ, fb, db, e2, S.ext q1, fun y H2 q2 r2 => hR S (r1.ext q2) (r2.back q1) ⟨false, rfl, ?_⟩⟩⟩
      rw [if_neg Bool.false_ne_true]
      exact q _ H2 (q1.trans q2) fin_bl
    | true =>
      simp only [if_true] at hf
      cases e4 : h ρ with
      | none => simp [e4] at hf
      | some z =>
      obtain ⟨fc, dc⟩ := z
      simp only [e4, Option.bind_some, ofB] at hf
      cases e5 : dCmp k' db dc with
      | none => simp [e5] at hf
      | some u' =>
      simp only [e5, Option.map_some, Option.some.injEq, Prod.mk.injEq] at hf
      obtain ⟨rfl, rfl⟩ := hf
      obtain ⟨R', ho', hR'⟩ := cmp_val C hk' e5 (fun _ _ _ => n2)
      refine ⟨R, R', ho, ho', ?_⟩
      refine ⟨B, ρ, fa, da, e1, S, fun x H1 q1 r1 => ⟨B, ρ, fb, db, e2, S.ext q1, fun y H2 q2 r2 => hR S (r1.ext q2) (r2.back q1) ⟨true, rfl, ?_⟩⟩⟩
      rw [if_pos rfl]
      refine ⟨B, ρ, fc, dc, e4, (S.ext q1).ext q2, fun w H3 q3 r3 => hR' S ((r2.back q1).ext q3) (r3.back (q1.trans q2)) ?_⟩
      exact q _ H3 ((q1.trans q2).trans q3) fin_bl
  constructor
  · refine ⟨fun pins s σ H Q I hh => ?_⟩
    obtain ⟨r, r', o1, o2, t⟩ := main hh
    exact (pe_chain o1 o2 ha hb hc hm).run pins s σ H Q I t
  · refine ⟨fun pins s σ H Q I hh => ?_⟩
    obtain ⟨r, r', o1, o2, t⟩ := main hh
    exact (pt_chain o1 o2 ha hb hc hm).run pins s σ H Q I t
theorem s_isN {n : Bool} {op : CmpOp} (ho : isOp n op = true) {k : Nat} {p : Pos} (ha : PE X a (rd X.K f)) :
    PC X op a (.Constant .none k p) (rd X.K fun ρ => do let x ← f ρ; ofB (some (match x.2 with | .non => !n | _ => n))) := by
  have isn : ∀ {B ρ σ H H2 fl d v}, Res X.K B ρ σ H H2 fl d v → decide (v = .non) = (match d with | .non => true | _ => false) := by
    intro B ρ σ H H2 fl d v r
    cases d with
    | non => rw [r.non]; rfl
    | bl _ => rw [r.bl]; rfl
    | int _ => rw [r.int]; rfl
    | str _ => rw [r.str]; rfl
    | tup _ => obtain ⟨_, _, e, _⟩ := r.tup; rw [e]; rfl
    | fz _ => obtain ⟨_, _, e, _⟩ := r.fz; rw [e]; rfl
    | fd _ _ => obtain ⟨_, _, e, _⟩ := r.fd; rw [e]; rfl
    | dk C q ks ds =>
      have q := r.any
      simp only [Rp] at q; obtain ⟨_, _, _, e, _⟩ := q; rw [e]; rfl
    | lst ds =>
      have q := r.any
      simp only [Rp] at q; obtain ⟨_, _, e, _⟩ := q; rw [e]; rfl
    | dic ks ds =>
      have q := r.any
      simp only [Rp] at q; obtain ⟨_, _, e, _⟩ := q; rw [e]; rfl
    | dit ks ds =>
      have q := r.any
      simp only [Rp] at q; obtain ⟨_, _, e, _⟩ := q; rw [e]; rfl
  cases op <;> simp [isOp] at ho
  · subst ho
    refine ⟨fun pins s σ H Q I hh => ?_⟩
    obtain ⟨B, ρ, fl, d, hf, S, q⟩ := hh
    refine (pc_isN ha).run pins s σ H Q I ?_
    cases e1 : f ρ with
    | none => simp [e1] at hf
    | some x =>
    obtain ⟨fa, da⟩ := x
    simp only [e1, Option.bind_eq_bind, Option.bind_some, ofB, Option.map_some, Option.some.injEq, Prod.mk.injEq] at hf
    obtain ⟨rfl, rfl⟩ := hf
    refine ⟨B, ρ, fa, da, e1, S, fun v H' z r => q _ H' z ?_⟩
    rw [isn r]
    cases da <;> exact fin_bl
  · subst ho
    refine ⟨fun pins s σ H Q I hh => ?_⟩
    obtain ⟨B, ρ, fl, d, hf, S, q⟩ := hh
    refine (pc_notN ha).run pins s σ H Q I ?_
    cases e1 : f ρ with
    | none => simp [e1] at hf
    | some x =>
    obtain ⟨fa, da⟩ := x
    simp only [e1, Option.bind_eq_bind, Option.bind_some, ofB, Option.map_some, Option.some.injEq, Prod.mk.injEq] at hf
    obtain ⟨rfl, rfl⟩ := hf
    refine ⟨B, ρ, fa, da, e1, S, fun v H' z r => q _ H' z ?_⟩
    rw [isn r]
    cases da <;> exact fin_bl
theorem s_isB {n b0 : Bool} {op : CmpOp} (ho : isOp n op = true) {k : Nat} {p : Pos} (ha : PE X a (rd X.K f)) {F : Rho → Option (Fl × D)}
    (hF : F = fun ρ => do let x ← f ρ; match x.2 with | .bl c => ofB (some (if n then !decide (c = b0) else decide (c = b0))) | _ => none) :
    PE X (.Compare a [op] [.Constant (.bool b0) k p] pos) (rd X.K F) ∧ PT X (.Compare a [op] [.Constant (.bool b0) k p] pos) (tB (rd X.K F)) := by
  have main : ∀ {σ : L2.St} {H : Hp} {Q : VK}, rd X.K F σ H Q → ∃ r, OpR X (compareOp op) r ∧ tOp r (rd X.K f) (tC (.bl b0)) σ H Q := by
    intro σ H Q hh
    obtain ⟨B, ρ, fl, d, hf, S, q⟩ := hh
    rw [hF] at hf
    cases e1 : f ρ with
    | none => simp [e1] at hf
    | some x =>
    obtain ⟨fa, da⟩ := x
    simp only [e1, Option.bind_eq_bind, Option.bind_some] at hf
    cases da <;> simp only [reduceCtorEq] at hf
    rename_i c0
    simp only [ofB, Option.map_some, Option.some.injEq, Prod.mk.injEq] at hf
    obtain ⟨rfl, rfl⟩ := hf
    cases op <;> simp [isOp] at ho
    · subst ho
      exact ⟨_, op_isBl, B, ρ, fa, _, e1, S, fun v H' z r => ⟨c0, b0, r.bl, rfl, q _ H' z fin_bl⟩⟩
    · subst ho
      exact ⟨_, op_notBl, B, ρ, fa, _, e1, S, fun v H' z r => ⟨c0, b0, r.bl, rfl, q _ H' z fin_bl⟩⟩
  have hm : behindInMarks op (.Constant (.bool b0) k p) = false := by unfold behindInMarks; rfl
  constructor
  · refine ⟨fun pins s σ H Q I hh => ?_⟩
    obtain ⟨r, o, t⟩ := main hh
    exact (pe_cmpR o ha pe_bl hm).run pins s σ H Q I t
  · refine ⟨fun pins s σ H Q I hh => ?_⟩
    obtain ⟨r, o, t⟩ := main hh
    exact (pt_cmpR o ha pe_bl hm).run pins s σ H Q I t
theorem rdT_iff {σ : L2.St} {H : Hp} {Q : VK} {K : PySem.W.Frag} {B : Bs} {ρ : Rho} {x : Bool} (hf : toB (f ρ) = some x) (S : StOk K B ρ σ H) (k : ∀ H', Ext H H' → Q (.bl x) H') : rd K f σ H Q := by
  cases e1 : f ρ with
  | none => rw [e1] at hf; cases hf
  | some r =>
    obtain ⟨fl, d⟩ := r
    rw [e1] at hf
    cases d <;> simp [toB] at hf
    subst hf
    exact ⟨B, ρ, fl, _, e1, S, fun v H2 e r => by rw [r.bl]; exact k H2 e⟩
def dAnd (f g : Rho → Option (Fl × D)) : Rho → Option (Fl × D) := fun ρ => do let x ← toB (f ρ); if x then g ρ else ofB (some false)
def dOr (f g : Rho → Option (Fl × D)) : Rho → Option (Fl × D) := fun ρ => do let x ← toB (f ρ); if x then ofB (some true) else g ρ
theorem s_andV {t : TE} (hle : ∀ σ H Q, rd X.K g σ H Q → t σ H Q) {σ : L2.St} {H : Hp} {Q : VK} (hh : rd X.K (dAnd f g) σ H Q) : tAndV (rd X.K f) t σ H Q := by
  obtain ⟨B, ρ, fl, d, hf, S, q⟩ := hh
  unfold dAnd at hf
  cases e1 : toB (f ρ) with
  | none => simp [e1] at hf
  | some x =>
  simp only [e1, Option.bind_eq_bind, Option.bind_some] at hf
  refine rdT_iff e1 S fun H1 z => ⟨x, rfl, ?_⟩
  cases x with
  | true =>
    rw [if_pos rfl] at hf ⊢
    exact hle _ _ _ ⟨B, ρ, fl, d, hf, S.ext z, fun v H2 z2 r => q v H2 (z.trans z2) (r.back z)⟩
  | false =>
    rw [if_neg Bool.false_ne_true] at hf ⊢
    cases hf
    exact q _ H1 z fin_bl
theorem s_orV {t : TE} (hle : ∀ σ H Q, rd X.K g σ H Q → t σ H Q) {σ : L2.St} {H : Hp} {Q : VK} (hh : rd X.K (dOr f g) σ H Q) : tOrV (rd X.K f) t σ H Q := by
  obtain ⟨B, ρ, fl, d, hf, S, q⟩ := hh
  unfold dOr at hf
  cases e1 : toB (f ρ) with
  | none => simp [e1] at hf
  | some x =>
  simp only [e1, Option.bind_eq_bind, Option.bind_some] at hf
  refine rdT_iff e1 S fun H1 z => ⟨x, rfl, ?_⟩
  cases x with
  | false =>
    rw [if_neg Bool.false_ne_true] at hf ⊢
    exact hle _ _ _ ⟨B, ρ, fl, d, hf, S.ext z, fun v H2 z2 r => q v H2 (z.trans z2) (r.back z)⟩
  | true =>
    rw [if_pos rfl] at hf ⊢
    cases hf
    exact q _ H1 z fin_bl
theorem pe_le {t u : TE} (hp : PE X e u) (hle : ∀ σ H Q, t σ H Q → u σ H Q) : PE X e t := ⟨fun pins s σ H Q I hh => hp.run pins s σ H Q I (hle σ H Q hh)⟩
theorem pt_le {t u : TT} (hp : PT X e u) (hle : ∀ σ H Q, t σ H Q → u σ H Q) : PT X e t := ⟨fun pins s σ H Q I hh => hp.run pins s σ H Q I (hle σ H Q hh)⟩
theorem pw_le {t u : TT} (hp : PW X e u) (hle : ∀ σ H Q, t σ H Q → u σ H Q) : PW X e t := ⟨fun wh pins s σ H Q I hh => hp.run wh pins s σ H Q I (hle σ H Q hh)⟩
theorem s_and {rest : List Expr} (ha : PE X a (rd X.K f)) (hb : PE X (.BoolOp .And (b :: rest) pos) (rd X.K g)) : PE X (.BoolOp .And (a :: b :: rest) pos) (rd X.K (dAnd f g)) :=
  pe_le (pe_and ha hb) fun _ _ _ => s_andV fun _ _ _ z => z
theorem s_or {rest : List Expr} (ha : PE X a (rd X.K f)) (hb : PE X (.BoolOp .Or (b :: rest) pos) (rd X.K g)) : PE X (.BoolOp .Or (a :: b :: rest) pos) (rd X.K (dOr f g)) :=
  pe_le (pe_or ha hb) fun _ _ _ => s_orV fun _ _ _ z => z
theorem t_and {rest : List Expr} (ha : PT X a (rdT X.K fun ρ => toB (f ρ))) (hb : PW X (.BoolOp .And (b :: rest) pos) (rdT X.K fun ρ => toB (g ρ))) : PW X (.BoolOp .And (a :: b :: rest) pos) (rdT X.K fun ρ => toB (dAnd f g ρ)) := by
  refine pw_le (pw_and ha hb) fun σ H Q hh => ?_
  obtain ⟨B, ρ, x0, hf, S, q⟩ := hh
  dsimp only at hf
  unfold dAnd at hf
  cases e1 : toB (f ρ) with
  | none => rw [e1] at hf; cases hf
  | some x =>
  simp only [e1, Option.bind_eq_bind, Option.bind_some] at hf
  refine ⟨B, ρ, x, e1, S, fun H1 z => ?_⟩
  cases x with
  | true =>
    rw [if_pos rfl] at hf ⊢
    exact ⟨B, ρ, x0, hf, S.ext z, fun H2 z2 => q H2 (z.trans z2)⟩
  | false =>
    rw [if_neg Bool.false_ne_true] at hf ⊢
    cases hf
    exact q H1 z
theorem t_or {rest : List Expr} (ha : PT X a (rdT X.K fun ρ => toB (f ρ))) (hb : PW X (.BoolOp .Or (b :: rest) pos) (rdT X.K fun ρ => toB (g ρ))) : PW X (.BoolOp .Or (a :: b :: rest) pos) (rdT X.K fun ρ => toB (dOr f g ρ)) := by
  refine pw_le (pw_or ha hb) fun σ H Q hh => ?_
  obtain ⟨B, ρ, x0, hf, S, q⟩ := hh
  dsimp only at hf
  unfold dOr at hf
  cases e1 : toB (f ρ) with
  | none => rw [e1] at hf; cases hf
  | some x =>
  simp only [e1, Option.bind_eq_bind, Option.bind_some] at hf
  refine ⟨B, ρ, x, e1, S, fun H1 z => ?_⟩
  cases x with
  | false =>
    rw [if_neg Bool.false_ne_true] at hf ⊢
    exact ⟨B, ρ, x0, hf, S.ext z, fun H2 z2 => q H2 (z.trans z2)⟩
  | true =>
    rw [if_pos rfl] at hf ⊢
    cases hf
    exact q H1 z
theorem s_not {F : Rho → Option (Fl × D)} (hF : F = fun ρ => do let x ← toB (f ρ); ofB (some (!x))) (ha : PE X a (rd X.K f)) (ht : PT X a (rdT X.K fun ρ => toB (f ρ))) :
    PE X (.UnaryOp .Not a pos) (rd X.K F) ∧ PT X (.UnaryOp .Not a pos) (rdT X.K fun ρ => toB (F ρ)) := by
  constructor
  · refine pe_le (pe_not ha) fun σ H Q hh => ?_
    obtain ⟨B, ρ, fl, d, hf, S, q⟩ := hh
    rw [hF] at hf
    cases e1 : toB (f ρ) with
    | none => simp [e1] at hf
    | some x =>
    simp only [e1, Option.bind_eq_bind, Option.bind_some, ofB, Option.map_some, Option.some.injEq, Prod.mk.injEq] at hf
    obtain ⟨rfl, rfl⟩ := hf
    exact rdT_iff e1 S fun H1 z => ⟨x, rfl, q _ H1 z fin_bl⟩
  · refine pt_le (pt_not ht) fun σ H Q hh => ?_
    obtain ⟨B, ρ, x0, hf, S, q⟩ := hh
    dsimp only at hf
    rw [hF] at hf
    dsimp only at hf
    cases e1 : toB (f ρ) with
    | none => rw [e1] at hf; cases hf
    | some x =>
    rw [e1] at hf
    cases hf
    exact ⟨B, ρ, x, e1, S, fun H1 z => q H1 z⟩
theorem s_neg (ha : PE X a (rd X.K f)) : PE X (.UnaryOp .USub a pos) (rd X.K fun ρ => do let x ← f ρ; match x.2 with | .int i => some (.fr, .int (-i)) | _ => none) := by
  refine pe_le (pe_un un_neg ha) fun σ H Q hh => ?_
  obtain ⟨B, ρ, fl, d, hf, S, q⟩ := hh
  cases e1 : f ρ with
  | none => simp [e1] at hf
  | some x =>
  obtain ⟨fa, da⟩ := x
  simp only [e1, Option.bind_eq_bind, Option.bind_some] at hf
  cases da <;> simp only [reduceCtorEq] at hf
  cases hf
  exact ⟨B, ρ, fa, _, e1, S, fun v H1 z r => ⟨_, r.int, q _ H1 z fin_int⟩⟩
end
end DD
set_option Elab.async false
set_option linter.all false
set_option maxRecDepth 100000
set_option maxHeartbeats 2000000
namespace DD
open PySem L2 PyProof.Rows
variable [Tb : Tbl] {lb : Bool}
section
variable {X : Cx} {Γ : Gam} {f g h : Rho → Option (Fl × D)} {fs : Rho → Option (List (Fl × D))} {pos : Pos} {a b c e : Expr} {es : List Expr}
section
variable {K : PySem.W.Frag} {B : Bs} {ρ : Rho} {σ : L2.St} {H H1 H2 : Hp} {rs : List (Fl × D)} {vs : List V}
theorem ResL.ext (z : Ext H1 H2) (h : ResL K B ρ σ H H1 rs vs) : ResL K B ρ σ H H2 rs vs := by
  induction h with
  | nil => exact .nil
  | cons r _ ih => exact .cons (r.ext z) ih
theorem ResL.back (z : Ext H H1) (h : ResL K B ρ σ H1 H2 rs vs) : ResL K B ρ σ H H2 rs vs := by
  induction h with
  | nil => exact .nil
  | cons r _ ih => exact .cons (r.back z) ih
theorem ResL.rps (S : StOk K B ρ σ H) (hs : allShb rs = true) (h : ResL K B ρ σ H H1 rs vs) : Rps K (Nsh B ρ σ) H1 (rs.map (·.2)) vs := by
  induction h with
  | nil => exact Rps.nil
  | cons r _ ih =>
    simp only [allShb, List.all_cons, Bool.and_eq_true] at hs
    rw [List.map_cons]
    exact Rps.cons (r.shb S hs.1) (ih hs.2)
theorem ResL.any (h : ResL K B ρ σ H H1 rs vs) : Rps K (fun _ => True) H1 (rs.map (·.2)) vs := by
  induction h with
  | nil => exact Rps.nil
  | cons r _ ih =>
    rw [List.map_cons]
    exact Rps.cons r.any ih
theorem ResL.length (h : ResL K B ρ σ H H1 rs vs) : rs.length = vs.length := by
  induction h with
  | nil => rfl
  | cons _ _ ih => simp [ih]
end
theorem pa_le {t u : TA} (hp : PA X es u) (hle : ∀ σ H Q, t σ H Q → u σ H Q) : PA X es t := ⟨fun pos pins s σ H Q I hh => hp.run pos pins s σ H Q I (hle σ H Q hh)⟩
theorem star_of (h : notStar e = true) : starEach (e :: es) X.env = (false, eval e X.env) :: starEach es X.env := by
  cases e <;> first | rfl | (simp [notStar] at h)
theorem sa_nil : PA X [] (rdA X.K fun _ => some []) := by
  refine pa_le pa_nil fun σ H Q hh => ?_
  obtain ⟨B, ρ, rs, hf, S, q⟩ := hh
  cases hf
  exact q _ H (Ext.refl H) .nil
theorem sa_cons (hs : notStar e = true) (ha : PE X e (rd X.K f)) (hr : PA X es (rdA X.K fs)) : PA X (e :: es) (rdA X.K fun ρ => do let x ← f ρ; let xs ← fs ρ; some (x :: xs)) := by
  refine pa_le (pa_cons ha hr (star_of hs)) fun σ H Q hh => ?_
  obtain ⟨B, ρ, rs, hf, S, q⟩ := hh
  cases e1 : f ρ with
  | none => simp [e1] at hf
  | some x =>
  cases e2 : fs ρ with
  | none => simp [e1, e2] at hf
  | some xs =>
  obtain ⟨fa, da⟩ := x
  simp only [e1, e2, Option.bind_eq_bind, Option.bind_some, Option.some.injEq] at hf
  subst hf
  exact ⟨B, ρ, fa, da, e1, S, fun v H1 z1 r1 => ⟨B, ρ, xs, e2, S.ext z1, fun vs H2 z2 r2 => q _ H2 (z1.trans z2) (.cons (r1.ext z2) (r2.back z1))⟩⟩
def allNS : List Expr → Bool
  | [] => true
  | e :: es => notStar e && allNS es
theorem pl_of : ∀ {es : List Expr}, allNS es = true → (backTo pos (starEach es X.env)).any (·.1) = false
  | [], _ => rfl
  | e :: es, h => by
    simp only [allNS, Bool.and_eq_true] at h
    rw [star_of h.1]
    show ((false : Bool) || (backTo pos (starEach es X.env)).any (·.1)) = false
    rw [pl_of h.2]; rfl
theorem s_tup {k : Nat} (ha : PA X es (rdA X.K fs)) : PE X (.Tuple es k pos) (rd X.K fun ρ => do let rs ← fs ρ; if allShb rs && decide (rs.length ≤ lim) then some (.fr, .tup (rs.map (·.2))) else none) := by
  refine pe_le (pe_tup ha) fun σ H Q hh => ?_
  obtain ⟨B, ρ, fl, d, hf, S, q⟩ := hh
  cases e1 : fs ρ with
  | none => simp [e1] at hf
  | some rs =>
  simp only [e1, Option.bind_eq_bind, Option.bind_some] at hf
  split at hf
  · rename_i hc
    rw [Bool.and_eq_true, decide_eq_true_eq] at hc
    cases hf
    exact ⟨B, ρ, rs, e1, S, fun vs H1 z r => ⟨sz_of (by rw [← r.length]; exact hc.2), fun p hp => q _ _ (z.trans (Ext.new hp)) (Res.newT hp (r.rps S hc.1))⟩⟩
  · cases hf
theorem s_lst (ha : PA X es (rdA X.K fs)) : PE X (.List es pos) (rd X.K fun ρ => do let rs ← fs ρ; if allShb rs && decide (rs.length ≤ lim) then some (.fr, .lst (rs.map (·.2))) else none) := by
  refine pe_le (pe_lst ha) fun σ H Q hh => ?_
  obtain ⟨B, ρ, fl, d, hf, S, q⟩ := hh
  cases e1 : fs ρ with
  | none => simp [e1] at hf
  | some rs =>
  simp only [e1, Option.bind_eq_bind, Option.bind_some] at hf
  split at hf
  · rename_i hc
    rw [Bool.and_eq_true, decide_eq_true_eq] at hc
    cases hf
    exact ⟨B, ρ, rs, e1, S, fun vs H1 z r => ⟨sz_of (by rw [← r.length]; exact hc.2), fun p hp => q _ _ (z.trans (Ext.new hp)) (Res.newL S z hp (r.rps S hc.1))⟩⟩
  · cases hf
theorem s_dnil : PE X (.Dict [] [] pos) (rd X.K fun _ => some (.fr, .dic [] [])) := by
  refine pe_le pe_dnewK fun σ H Q hh => ?_
  obtain ⟨B, ρ, fl, d, hf, S, q⟩ := hh
  cases hf
  intro p hp
  refine q _ _ (Ext.new hp) ?_
  simp only [Res, Sep]
  exact ⟨p, [], rfl, hp, upd_same, rfl, Rps.nil⟩
theorem atI_len {α β : Type} {xs : List α} {ys : List β} {i : Int} {x : α} (hl : xs.length = ys.length) (h : atI xs i = some x) : ∃ j : Nat, xs[j]? = some x ∧ ∀ y, ys[j]? = some y → atI ys i = some y := by
  unfold atI at h ⊢
  rw [← hl]
  cases e : ixN xs.length i with
  | none => rw [e] at h; cases h
  | some j => rw [e] at h; exact ⟨j, h, fun y hy => hy⟩
theorem atI_rps {K : PySem.W.Frag} {N : Addr → Prop} {H : Hp} {ds : List D} {vs : List V} {i : Int} {d : D} (r : Rps K N H ds vs) (h : atI ds i = some d) : ∃ v, atI vs i = some v ∧ Rp K N H d v := by
  obtain ⟨j, h1, h2⟩ := atI_len r.length h
  obtain ⟨v, h3, h4⟩ := r.get h1
  exact ⟨v, h2 v h3, h4⟩
theorem lookD_val {K : PySem.W.Frag} {N : Addr → Prop} {H : Hp} {q : Key} {d : D} : ∀ {kvs : List (Key × V)} {ds : List D}, Rps K N H ds (kvs.map (·.2)) → lookD (kvs.map (·.1)) ds q = some d → ∃ v, valV kvs q = some v ∧ Rp K N H d v
  | [], ds, r, h => by cases ds <;> simp [lookD] at h
  | (k, v) :: kvs, ds, r, h => by
    cases ds with
    | nil => simp [lookD] at h
    | cons d' ds =>
      simp only [List.map_cons, Rps] at r
      obtain ⟨v', ws, e, r1, r2⟩ := r
      obtain ⟨rfl, rfl⟩ := List.cons.inj e
      simp only [List.map_cons, lookD] at h
      by_cases ek : q = k
      · rw [if_pos ek] at h
        cases h
        exact ⟨v, by unfold valV; simp [ek], r1⟩
      · rw [if_neg ek] at h
        obtain ⟨u, h1, h2⟩ := lookD_val r2 h
        refine ⟨u, ?_, h2⟩
        unfold valV at h1 ⊢
        rw [List.find?_cons_of_neg (by simpa using fun z => ek z.symm)]
        exact h1
theorem plain_of {r : Expr} (h : plainIx r = true) : PlainIx r := by
  intro o i
  cases r <;> first | rfl | (simp [plainIx] at h)
theorem s_ix (C : Ctx lb X Γ) (hp : plainIx b = true) (ha : PE X a (rd X.K f)) (hb : PE X b (rd X.K g)) : PE X (.Subscript a b pos) (rd X.K fun ρ => do let x ← f ρ; let y ← g ρ; (dIx x.2 y.2).map fun d => (.sh, d)) := by
  refine ⟨fun pins s σ H Q I hh => ?_⟩
  obtain ⟨B, ρ, fl, d, hf, S, q⟩ := hh
  cases e1 : f ρ with
  | none => simp [e1] at hf
  | some x =>
  cases e2 : g ρ with
  | none => simp [e1, e2] at hf
  | some y =>
  obtain ⟨fa, da⟩ := x
  obtain ⟨fb, db⟩ := y
  simp only [e1, e2, Option.bind_eq_bind, Option.bind_some] at hf
  cases e3 : dIx da db with
  | none => simp [e3] at hf
  | some r =>
  simp only [e3, Option.map_some, Option.some.injEq, Prod.mk.injEq] at hf
  obtain ⟨rfl, rfl⟩ := hf
  have pix := plain_of hp
  by_cases hd : ∃ ks ds, da = .dic ks ds
  · obtain ⟨ks, ds, rfl⟩ := hd
    have hu : X.A.units + 1 < cLine := by have := C.units; omega
    simp only [dIx] at e3
    cases e4 : keyD db with
    | none => rw [e4] at e3; cases e3
    | some qk =>
    rw [e4, Option.bind_some] at e3
    have hq : ∀ {B ρ σ H H2 fa x}, Res X.K B ρ σ H H2 fa db x → x = kV qk := by
      intro B ρ σ H H2 fa x r
      cases db <;> simp only [keyD, reduceCtorEq, Option.some.injEq] at e4
      · subst e4; exact r.int
      · subst e4; exact r.str
    refine (pe_dget hu ha hb (fun o i => pix o i)).run pins s σ H Q I (two_run ha hb e1 e2 S I fun x y H2 z r1 r2 => ?_)
    obtain ⟨p, kvs, rfl, t, ek, r⟩ := r1.dic
    subst ek
    obtain ⟨v, hv, rv⟩ := lookD_val r e3
    rw [hq r2]
    refine ⟨p, v, rfl, ?_, q v H2 z rv⟩
    rw [← hv]; exact DGet.k t
  by_cases hd2 : ∃ ks ds, da = .fd ks ds
  · obtain ⟨ks, ds, rfl⟩ := hd2
    have hu : X.A.units + 1 < cLine := by have := C.units; omega
    simp only [dIx] at e3
    cases e4 : keyD db with
    | none => rw [e4] at e3; cases e3
    | some qk =>
    rw [e4, Option.bind_some] at e3
    have hq : ∀ {B ρ σ H H2 fa x}, Res X.K B ρ σ H H2 fa db x → x = kV qk := by
      intro B ρ σ H H2 fa x r
      cases db <;> simp only [keyD, reduceCtorEq, Option.some.injEq] at e4
      · subst e4; exact r.int
      · subst e4; exact r.str
    refine (pe_dget hu ha hb (fun o i => pix o i)).run pins s σ H Q I (two_run ha hb e1 e2 S I fun x y H2 z r1 r2 => ?_)
    obtain ⟨p, kvs, rfl, t, ek, r⟩ := r1.fd
    subst ek
    obtain ⟨v, hv, rv⟩ := lookD_val r e3
    rw [hq r2]
    refine ⟨p, v, rfl, ?_, q v H2 z rv⟩
    rw [← hv]; exact .inl ⟨_, _, .inr t, rfl, rfl⟩
  · have sq : (∃ ds i, da = .tup ds ∧ db = .int i ∧ atI ds i = some r) ∨ (∃ ds i, (da = .lst ds ∨ da = .fz ds) ∧ db = .int i ∧ atI ds i = some r) ∨ (∃ x i, da = .str x ∧ db = .int i) := by
      cases da <;> cases db <;> simp only [dIx, reduceCtorEq] at e3 <;> first | contradiction | skip
      · exact .inr (.inr ⟨_, _, rfl, rfl⟩)
      · exact .inl ⟨_, _, rfl, rfl, e3⟩
      · exact .inr (.inl ⟨_, _, .inl rfl, rfl, e3⟩)
      · exact .inr (.inl ⟨_, _, .inr rfl, rfl, e3⟩)
      all_goals first | exact absurd ⟨_, _, rfl⟩ hd | exact absurd ⟨_, _, rfl⟩ hd2
    rcases sq with ⟨ds, i, rfl, rfl, h1⟩ | ⟨ds, i, hl, rfl, h1⟩ | ⟨x, i, rfl, rfl⟩
    · refine (pe_ix ix_tup ha hb pix).run pins s σ H Q I (rd_two e1 e2 S fun x y H2 z r1 r2 => ?_)
      obtain ⟨p, vs, rfl, t, r⟩ := r1.tup
      obtain ⟨v, hv, rv⟩ := atI_rps r h1
      exact ⟨p, vs, i, v, rfl, r2.int, t, hv, q v H2 z rv⟩
    · refine (pe_ix ix_list ha hb pix).run pins s σ H Q I (rd_two e1 e2 S fun x y H2 z r1 r2 => ?_)
      obtain ⟨p, vs, rfl, t, r⟩ := r1.seqL hl S
      obtain ⟨v, hv, rv⟩ := atI_rps r h1
      exact ⟨p, vs, i, v, rfl, r2.int, t, hv, q v H2 z rv⟩
    · simp only [dIx] at e3
      split at e3
      · rename_i hz
        cases e4 : atI x.cps.toList i with
        | none => rw [e4] at e3; cases e3
        | some c0 =>
        rw [e4] at e3
        cases e3
        refine (pe_ix ix_str ha hb pix).run pins s σ H Q I (rd_two e1 e2 S fun x y H2 z r1 r2 => ?_)
        exact ⟨_, i, c0, r1.str, r2.int, sz_of hz, e4, q _ H2 z (by simp [Res, Rp])⟩
      · cases e3
theorem cutD_map {K : PySem.W.Frag} {N : Addr → Prop} {H : Hp} {ds : List D} {vs : List V} (r : Rps K N H ds vs) (lo hi : Option Int) : Rps K N H (cutD ds lo hi) (cutV vs lo hi) := by
  unfold cutD cutV
  rw [r.length]
  exact (r.drop _).take _
theorem po_le {o : Option Expr} {t u : TO} (hp : PO X o u) (hle : ∀ σ H Q, t σ H Q → u σ H Q) : PO X o t := ⟨fun pins s σ H Q I hh => hp.run pins s σ H Q I (hle σ H Q hh)⟩
theorem so_none : PO X none (rdO X.K fun _ => some none) := po_le po_none fun σ H Q ⟨B, ρ, o, hf, S, q⟩ => by cases hf; exact q H (Ext.refl H)
theorem so_some (ha : PE X a (rd X.K f)) : PO X (some a) (rdO X.K fun ρ => do let x ← f ρ; match x.2 with | .int i => some (some i) | _ => none) := by
  refine po_le (po_some ha) fun σ H Q ⟨B, ρ, o, hf, S, q⟩ => ?_
  cases e1 : f ρ with
  | none => simp [e1] at hf
  | some x =>
  obtain ⟨fa, da⟩ := x
  simp only [e1, Option.bind_eq_bind, Option.bind_some] at hf
  cases da <;> simp only [reduceCtorEq] at hf
  cases hf
  exact ⟨B, ρ, fa, _, e1, S, fun v H1 z r => ⟨_, r.int, q H1 z⟩⟩
theorem s_sl {lo hi : Option Expr} {fl fh : Rho → Option (Option Int)} {p2 : Pos} (ha : PE X a (rd X.K f)) (hl : PO X lo (rdO X.K fl)) (hh : PO X hi (rdO X.K fh)) :
    PE X (.Subscript a (.Slice lo hi none p2) pos) (rd X.K fun ρ => do let x ← f ρ; let l ← fl ρ; let h ← fh ρ; ofD (dSl x.2 l h)) := by
  refine ⟨fun pins s σ H Q I hw => ?_⟩
  obtain ⟨B, ρ, fl0, d, hf, S, q⟩ := hw
  cases e1 : f ρ with
  | none => simp [e1] at hf
  | some x =>
  cases e2 : fl ρ with
  | none => simp [e1, e2] at hf
  | some l =>
  cases e3 : fh ρ with
  | none => simp [e1, e2, e3] at hf
  | some u =>
  obtain ⟨fa, da⟩ := x
  simp only [e1, e2, e3, Option.bind_eq_bind, Option.bind_some] at hf
  have run : ∀ {r : V → Option Int → Option Int → Hp → VK → Prop}, SlR X r → (∀ x H2, Ext H H2 → Res X.K B ρ σ H H2 fa da x → r x l u H2 Q) →
      wpAny (model X.prog X.w) X.A (eval (.Subscript a (.Slice lo hi none p2) pos) X.env) (EP X pins σ Q) X.xe s := fun hr kk =>
    (pe_slice hr ha hl hh).run pins s σ H Q I ⟨B, ρ, fa, da, e1, S, fun x H1 z1 r1 => ⟨B, ρ, l, e2, S.ext z1, fun H2 z2 => ⟨B, ρ, u, e3, (S.ext z1).ext z2, fun H3 z3 => kk x H3 ((z1.trans z2).trans z3) ((r1.ext z2).ext z3)⟩⟩⟩
  have lst : ∀ ds, (da = .lst ds ∨ da = .fz ds) → fl0 = .fr → d = .lst (cutD ds l u) → wpAny (model X.prog X.w) X.A (eval (.Subscript a (.Slice lo hi none p2) pos) X.env) (EP X pins σ Q) X.xe s := by
    intro ds hd e1' e2'
    subst e1' e2'
    refine run sl_list fun x H2 z r => ?_
    obtain ⟨p, vs, rfl, t, r⟩ := r.seqL hd S
    exact ⟨p, vs, rfl, t, fun n hn => q _ _ (z.trans (Ext.new hn)) (Res.newL S z hn (cutD_map r l u))⟩
  cases da <;> simp only [dSl, ofD, Option.map_none, Option.map_some, reduceCtorEq, Option.some.injEq, Prod.mk.injEq] at hf
  · obtain ⟨rfl, rfl⟩ := hf
    refine run sl_tupA fun x H2 z r => ?_
    obtain ⟨p, vs, rfl, t, r⟩ := r.tup
    refine ⟨p, vs, rfl, t, fun w => q _ H2 z ?_, fun _ n hn => q _ _ (z.trans (Ext.new hn)) (Res.newT hn (cutD_map r l u))⟩
    refine Res.of_rp rfl ?_
    simp only [Rp]
    refine ⟨p, vs, rfl, t, ?_⟩
    have := cutD_map r l u
    have e : cutV vs l u = vs := by
      unfold cutV
      rw [w.1, w.2, List.drop_zero, Nat.sub_zero, List.take_length]
    rw [e] at this
    exact this
  · exact lst _ (.inl rfl) hf.1.symm hf.2.symm
  · exact lst _ (.inr rfl) hf.1.symm hf.2.symm
end
end DD
set_option Elab.async false
set_option linter.all false
set_option maxRecDepth 100000
set_option maxHeartbeats 2000000
namespace L2.DX
open PySem PySem.Spec PyProof.Rows
section
variable {X : Cx}
/-- d.items(), d with keys that are whole numbers and texts -/
def rItemsK : V → List V → Hp → VK → Prop := fun x xs H Q => ∃ (a : Addr) (kvs : List (Key × V)), x = .ref a ∧ xs = [] ∧ H a = some (.dK kvs) ∧ ∀ p, H p = none → Q (.ref p) (upd H p (itemsO p a))
theorem mt_itemsK : MtR X "dict.items" rItemsK := by
  intro pins s σ H x xs v us Q I rx rxs h
  obtain ⟨a, kvs, rfl, rfl, ha, q⟩ := h
  cases rx
  cases rxs
  obtain ⟨z, hd, vs, rel, o, es, ep, ho, hx, hdat, _⟩ := dk_of I.hok ha
  refine DT.callItems (es := es) (ep := ep) hd ⟨o, ho, hx, hdat⟩ ?_
  have hf : H s.heap.objs.size = none := I.hok.fresh (Nat.le_refl _)
  exact ⟨.ref s.heap.objs.size, upd H s.heap.objs.size (itemsO s.heap.objs.size a), I.laid (t' := s.toks) (fun b u e => Heap.get?_push_of_some _ e) (Nat.le_refl _) (itemsO_ok (Heap.get?_push_size _ rfl)), rfl, q _ hf⟩
theorem pairs_get {prog : Program} {w : World} {K : Type} [DecidableEq K] {knd : KeyKind prog w K} {es : List DictEntry} {kvs : List (K × Value)} (h : Pairs knd es kvs) : ∀ {j : Nat} {e : DictEntry}, es[j]? = some e → ∃ kv, kvs[j]? = some kv ∧ knd.is kv.1 e.key = true ∧ e.val = kv.2 := by
  induction h with
  | nil => intro j e h; simp at h
  | cons h1 h2 _ ih =>
    intro j e h
    cases j with
    | zero => simp at h; subst h; exact ⟨_, rfl, h1, h2⟩
    | succ j => simpa using ih (by simpa using h)
theorem kv_get {kvs : List (Key × V)} {vs : List (Key × Value)} (h : KV kvs vs) : ∀ {j : Nat} {x : Key × Value}, vs[j]? = some x → ∃ y, kvs[j]? = some y ∧ y.1 = x.1 ∧ RelV y.2 x.2 := by
  intro j x e
  obtain ⟨y, h1, h2⟩ := pget h e
  exact ⟨y, h1, h2⟩
abbrev entI (e : Int × Int) : Key × V := (Sum.inl e.1, V.int e.2)
/-- sorted(d.items()), keys and values whole numbers -/
def rSortedIK : List V → Hp → VK → Prop := fun vs H Q => ∃ (p a : Addr) (ks : List (Int × Int)), vs = [.ref p] ∧ H p = some (itemsO p a) ∧ H a = some (.dK (ks.map entI)) ∧
  ∀ (H' : Hp) (l : Addr) (ps : List (Addr × Int × Int)), (∀ b o, H b = some o → H' b = some o) → (ps.map (·.2)).Perm ks → SrtO.Srtd SrtO.lexB (ps.map (·.2)) → H l = none → H' l = some (.lst (ps.map fun z => V.ref z.1)) →
    (∀ z ∈ ps, H' z.1 = some (.tup [.int z.2.1, .int z.2.2])) → Q (.ref l) H'
def kOf (as : List Addr) (ks : List (Int × Int)) : Value → Int × Int
  | .ref b => (((as.zip ks).find? fun z => decide (z.1 = b)).map (·.2)).getD (0, 0)
  | _ => (0, 0)
theorem kOf_at : ∀ {as : List Addr} {ks : List (Int × Int)} {j : Nat} {b : Addr} {e : Int × Int}, as.Nodup → as[j]? = some b → ks[j]? = some e → kOf as ks (.ref b) = e
  | a :: as, k :: ks, 0, b, e, _, h1, h2 => by
    simp only [List.getElem?_cons_zero, Option.some.injEq] at h1 h2
    subst h1; subst h2
    simp [kOf]
  | a :: as, k :: ks, j + 1, b, e, nd, h1, h2 => by
    rw [List.getElem?_cons_succ] at h1 h2
    rw [List.nodup_cons] at nd
    have hne : a ≠ b := fun z => nd.1 (by rw [z]; exact List.mem_of_getElem? h1)
    have ih := kOf_at nd.2 h1 h2
    unfold kOf at ih ⊢
    dsimp only at ih ⊢
    rw [List.zip_cons_cons, List.find?_cons_of_neg (by simp [hne])]
    exact ih
  | [], _, j, b, e, _, h1, _ => by simp at h1
  | _ :: _, [], j, b, e, _, _, h2 => by simp at h2
theorem cr_sortedIK (hc : X.calm = true) : CallR X (.builtin "sorted") rSortedIK := by
  intro pins s σ H xs us Q I r h
  obtain ⟨p, a, ks, rfl, hp, ha, q⟩ := h
  obtain rfl := Vals.ref1 r
  have view : s.heap.IsItemsView p a := (show ObjOk X.prog X.w H s.heap p (itemsO p a) from I.hok p _ hp).1
  obtain ⟨z, hd, vs, rel, o, es, ep, ho, hx, hdat, _, hpr, _⟩ := dk_of I.hok ha
  have l1 : ks.length = vs.length := by have := rel.length; rwa [List.length_map] at this
  have l2 : es.size = vs.length := by rw [← hpr.length, Array.length_toList]
  have hsz : es.size ≤ sizeLine := by rw [l2, ← l1]; rw [List.length_map] at z; exact z
  have hh : X.A.handled = none := I.ok.hd hc
  refine DT.sortedI (es := es) (ep := ep) hh view ⟨o, ho, hx, hdat⟩ hsz fun h' tk as hk hlt hl hG => ?_
  have lak : as.length = ks.length := by omega
  have nd : as.Nodup := List.Pairwise.imp (fun h => Nat.ne_of_lt h) hG.rise
  -- the pairs that were made
  have pr : ∀ (j : Nat) (b : Addr), as[j]? = some b → ∃ (e : Int × Int) (t u : Tok), ks[j]? = some e ∧ h'.get? b = some { cls := .type "tuple", data := .seq #[Value.int e.1 t, Value.int e.2 u] } := by
    intro j b hj
    obtain ⟨en, he, hg⟩ := hG.pairs j b hj
    obtain ⟨kv, g1, g2, g3⟩ := pairs_get hpr (j := j) (e := en) (by rw [Array.getElem?_toList]; exact he)
    obtain ⟨y, y1, y2, y3⟩ := kv_get rel g1
    rw [List.getElem?_map] at y1
    cases hkj : ks[j]? with
    | none => rw [hkj] at y1; cases y1
    | some e =>
    rw [hkj] at y1
    cases y1
    rw [← y2] at g2
    have y3' : RelV (V.int e.2) kv.2 := y3
    rw [← g3] at y3'
    obtain ⟨u, hu⟩ := y3'
    rcases keyIs_shape (show keyIs (Sum.inl e.1) en.key = true from g2) with ⟨i, t, ek, ev⟩ | ⟨_, _, ek, _⟩
    · cases ek
      exact ⟨e, t, u, rfl, by rw [hg, ev, hu]⟩
    · cases ek
  have hob : (h'.push { cls := .type "list", data := .seq (as.map Value.ref).toArray }).get? h'.objs.size = some (seqObj "list" (as.map Value.ref).toArray 0) := Heap.get?_push_size _ rfl
  have kb : ∀ b o, s.heap.get? b = some o → (h'.push { cls := .type "list", data := .seq (as.map Value.ref).toArray }).get? b = some o := fun b o e => Heap.get?_push_of_some _ (hk b o e)
  have ne0 : ∀ b o, h'.get? b = some o → b ≠ h'.objs.size := fun b o e => Nat.ne_of_lt (Heap.lt_size e)
  generalize hh2 : h'.push { cls := .type "list", data := .seq (as.map Value.ref).toArray } = h2 at hob kb ⊢
  have ka : ∀ b o, h'.get? b = some o → h2.get? b = some o := fun b o e => by rw [← hh2]; exact Heap.get?_push_of_some _ e
  have hz : (as.map Value.ref).length ≤ sizeLine := by rw [List.length_map, hl]; exact hsz
  refine wpAny_call_entry PyProof.Rows.slot_list_sort ⟨_, hob, rfl⟩ PyProof.Rows.entry_list_sort
    (SrtO.list_sort_ord (s := { s with heap := h2, toks := tk }) (SrtO.swo_lex (kOf as ks)) hob hz (fun h2' => ?_) fun out o1 o2 => ⟨.none, rfl, ?_⟩) (PyProof.Rows.args_list_sort _)
  · refine SrtO.pairs_sortableO (s := { s with heap := h2, toks := tk }) (by omega) (fun v hv => ?_) fun o e => ?_
    · obtain ⟨b, hb, rfl⟩ := List.mem_map.mp hv
      obtain ⟨j, hj⟩ := List.mem_iff_getElem?.mp hb
      obtain ⟨e, t, u, he, hg⟩ := pr j b hj
      rw [kOf_at nd hj he]
      exact ⟨b, _, t, u, 0, rfl, ka _ _ hg, rfl, rfl⟩
    · have e' := e.symm.trans hob
      cases e'
      intro c
      exact absurd (Value.type.inj c) (by decide)
  · show EP X pins σ Q (.ref h'.objs.size) { s with heap := sortedHeap h2 h'.objs.size (as.map Value.ref) out.toArray, toks := tk }
    have ezip : (as.zip ks).map (fun z : Addr × Int × Int => Value.ref z.1) = as.map Value.ref := by
      rw [show (fun z : Addr × Int × Int => Value.ref z.1) = Value.ref ∘ Prod.fst from rfl, ← List.map_map, List.map_fst_zip (by rw [lak]; exact Nat.le_refl _)]
    obtain ⟨zs, pz, ez⟩ := perm_lift (fun z : Addr × Int × Int => Value.ref z.1) o2.perm (as.zip ks) ezip
    have idx : ∀ z ∈ zs, ∃ j : Nat, as[j]? = some z.1 ∧ ks[j]? = some z.2 := by
      intro z' hz'
      obtain ⟨j, hj⟩ := List.mem_iff_getElem?.mp (pz.mem_iff.mp hz')
      exact ⟨j, List.getElem?_zip_eq_some.mp hj⟩
    have hperm : (zs.map (·.2)).Perm ks := by
      have e := pz.map (·.2)
      have m2 : (as.zip ks).map (·.2) = ks := List.map_snd_zip (by rw [lak]; exact Nat.le_refl _)
      rw [m2] at e
      exact e
    have hsort : SrtO.Srtd SrtO.lexB (zs.map (·.2)) := by
      have o1' := o1
      rw [← ez] at o1'
      unfold SrtO.Srtd at o1' ⊢
      rw [List.pairwise_map] at o1' ⊢
      refine List.Pairwise.imp_of_mem (fun {x y} hx hy h => ?_) o1'
      obtain ⟨j, j1, j2⟩ := idx x hx
      obtain ⟨i, i1, i2⟩ := idx y hy
      have h' : SrtO.lexB (kOf as ks (.ref y.1)) (kOf as ks (.ref x.1)) = false := h
      rw [kOf_at nd j1 j2, kOf_at nd i1 i2] at h'
      exact h'
    -- behind the sort
    have kF : ∀ b o, b ≠ h'.objs.size → h2.get? b = some o → (sortedHeap h2 h'.objs.size (as.map Value.ref) out.toArray).get? b = some o := fun b o hb e => (PyProof.Rows.sortedHeap_old hb (Heap.lt_size e)).trans e
    have kS : ∀ b o, s.heap.get? b = some o → (sortedHeap h2 h'.objs.size (as.map Value.ref) out.toArray).get? b = some o := fun b o e => kF b o (ne0 _ _ (hk b o e)) (kb b o e)
    obtain ⟨eF, heF⟩ := PyProof.Rows.sortedHeap_at (vs := as.map Value.ref) (out := out.toArray) hob
    have I1 : Inv X pins σ H { s with heap := sortedHeap h2 h'.objs.size (as.map Value.ref) out.toArray, toks := tk } := I.kept (t' := tk) kS
    have hn0 : H h'.objs.size = none := I.hok.fresh (Nat.le_of_lt hlt)
    have hlen : (zs.map fun z => V.ref z.1).length ≤ sizeLine := by
      have e := hperm.length_eq
      rw [List.length_map] at e
      rw [List.length_map]
      omega
    have rv : Vals (zs.map fun z => V.ref z.1) out := by
      rw [← ez]
      exact vals_maps (fun z : Addr × Int × Int => V.ref z.1) (fun z => Value.ref z.1) zs fun _ _ => rfl
    have I2 : Inv X pins σ (upd H h'.objs.size (.lst (zs.map fun z => V.ref z.1))) { s with heap := sortedHeap h2 h'.objs.size (as.map Value.ref) out.toArray, toks := tk } :=
      I1.take (h' := sortedHeap h2 h'.objs.size (as.map Value.ref) out.toArray) (t' := tk) (fun b ob _ e => e) (I.fpOk (Nat.le_of_lt hlt) hn0) ⟨hlen, out, eF, rv, heF⟩
    obtain ⟨H2, I3, g, qt⟩ := takeT (P := fun b vs => ∃ (j : Nat) (e : Int × Int), as[j]? = some b ∧ ks[j]? = some e ∧ vs = [.int e.1, .int e.2]) I as _ I2 nd fun b hb => by
      obtain ⟨j, hj⟩ := List.mem_iff_getElem?.mp hb
      obtain ⟨e, t, u, he, hg⟩ := pr j b hj
      have hbl : s.heap.objs.size ≤ b := Nat.le_of_lt (hG.above b hb)
      refine ⟨hbl, ?_, [.int e.1, .int e.2], ⟨j, e, hj, he, rfl⟩, fun H3 => ⟨(by rw [sizeLine_eq]; show 2 ≤ 16777216; omega), [Value.int e.1 t, Value.int e.2 u], .cons ⟨t, rfl⟩ (.cons ⟨u, rfl⟩ .nil), ⟨_, kF _ _ (ne0 _ _ hg) (ka _ _ hg), rfl, 0, rfl⟩⟩⟩
      rw [upd_ne (ne0 _ _ hg)]
      exact I.hok.fresh hbl
    have gr : ∀ b o, H b = some o → H2 b = some o := fun b o e => g b o (by rw [upd_ne (ne_of_none e hn0)]; exact e)
    refine ⟨.ref h'.objs.size, H2, I3, rfl, q H2 h'.objs.size zs gr hperm hsort hn0 (g _ _ upd_same) fun z' hz' => ?_⟩
    obtain ⟨i, i1, i2⟩ := idx z' hz'
    obtain ⟨vs', ⟨j, e, j1, j2, ev⟩, hH⟩ := qt z'.1 (List.mem_of_getElem? i1)
    have eij : i = j := (List.getElem?_inj (List.getElem?_eq_some_iff.mp i1).1 nd).mp (i1.trans j1.symm)
    subst eij
    have ee : e = z'.2 := Option.some.inj (j2.symm.trans i2)
    rw [ev, ee] at hH
    exact hH
end
end L2.DX
set_option Elab.async false
set_option linter.all false
set_option maxRecDepth 100000
set_option maxHeartbeats 2000000
namespace HT
open PySem PySem.W PySem.Calls PyProof.Rows PyProof.V PySem.Spec
section
variable {prog : Program} {w : World} {A : Around} {E : Value → Shared → Prop} {s : Shared}
theorem adjust_rev (n : Nat) : Builtin.Slice.sliceAdjust none none (-1) (n : Int) = ((n : Int) - 1, -1) := by
  unfold Builtin.Slice.sliceAdjust
  rfl
theorem places_rev (n : Nat) : Builtin.Slice.slicePlaces ((n : Int) - 1) (-1) (-1) = n := by
  unfold Builtin.Slice.slicePlaces
  have h1 : ¬ ((-1 : Int) > 0) := by omega
  have h2 : (- (-1 : Int)) = 1 := by decide
  simp only [h1, if_false, h2, Int.ediv_one]
  split <;> omega
theorem pick_rev (xs : Array Value) : ((List.range xs.size).filterMap fun (m : Nat) => xs[((xs.size : Int) - 1 + (m : Int) * (-1)).toNat]?).toArray = xs.toList.reverse.toArray := by
  have e : (fun (m : Nat) => xs[((xs.size : Int) - 1 + (m : Int) * (-1)).toNat]?) = (fun m => xs[m]?) ∘ (fun (k : Nat) => xs.size - 1 - k) := by
    funext m
    have : ((xs.size : Int) - 1 + (m : Int) * (-1)).toNat = xs.size - 1 - m := by omega
    rw [this]; rfl
  rw [e, ← List.filterMap_map, krv_range, List.filterMap_reverse, krv_all]
theorem sliceApplied_rev {sl : Addr} {vl vu vs : Value} {n : Nat} {Q : Int × Int × Nat → Shared → Prop} (hs : s.heap.IsSliceOf sl vl vu vs) (pl : IsPart vl none) (pu : IsPart vu none) (ps : IsPart vs (some (-1)))
    (h : Q ((n : Int) - 1, -1, n) s) : wpAny (model prog w) A (Builtin.Slice.sliceApplied (.ref sl) (pure (n : Int))) Q E s := by
  obtain ⟨os, hos, hcs, hds⟩ := id hs
  unfold Builtin.Slice.sliceApplied Builtin.Slice.sliceFields
  refine wpAny_bind (wpAny_bind (wpAny_field hos hds (x := vl) rfl (wpAny_bind (wpAny_field hos hds (x := vu) rfl (wpAny_bind (wpAny_field hos hds (x := vs) rfl (wpAny_pure ?_)))))))
  refine wpAny_bind (slicePart_ ps ?_)
  show wpAny _ _ (if ((-1 : Int) == 0) = true then _ else _) _ _ s
  rw [if_neg (by decide)]
  refine wpAny_bind (slicePart_ pl (wpAny_bind (slicePart_ pu (wpAny_bind (wpAny_pure ?_)))))
  show wpAny _ _ (match Builtin.Slice.sliceAdjust none none (-1) (n : Int) with | (lo, hi) => pure (lo, (-1 : Int), Builtin.Slice.slicePlaces lo hi (-1))) _ _ s
  rw [adjust_rev n]
  show wpAny _ _ (pure ((n : Int) - 1, (-1 : Int), Builtin.Slice.slicePlaces ((n : Int) - 1) (-1) (-1))) _ _ s
  rw [places_rev]
  exact wpAny_pure h
theorem getItem_tuple_rev {t sl : Addr} {items : Array Value} {vl vu vs : Value} {Q : Value → Shared → Prop} (ht : IsTup s.heap t items) (hs : s.heap.IsSliceOf sl vl vu vs) (pl : IsPart vl none) (pu : IsPart vu none) (ps : IsPart vs (some (-1)))
    (h : Q (.ref s.heap.objs.size) { s with heap := s.heap.push { cls := .type "tuple", data := .seq items.toList.reverse.toArray } })
    (hsz : items.size ≤ sizeLine) : wpAny (model prog w) A (getItem (.ref t) (.ref sl)) Q E s := by
  have htake : sizeOk (.seq items.toList.reverse.toArray) := by
    show items.toList.reverse.toArray.size ≤ sizeLine
    rw [List.size_toArray, List.length_reverse, Array.length_toList]
    exact hsz
  obtain ⟨os, hos, hcs, hds⟩ := id hs
  have hTs : s.TypeIs (.ref sl) "slice" := ⟨os, hos, hcs⟩
  unfold getItem
  try with_reducible refine wpAny_holding ?_
  first | refine wpAny_bind (wpAny_pure ?_) | skip
  refine wpAny_bind (wpAny_sequenceKey ht.typeIs (by decide) ?_)
  refine wpAny_bind (wpAny_callSpecial?_slot (name := Str.ofString "__getitem__") ht.typeIs PyProof.Rows.slot_tuple_getitem
    (wpAny_call_entry PyProof.Rows.slot_tuple_getitem ht.typeIs entry_tuple_getitem ?_ (args_tuple_getitem _ _)))
  show wpAny _ _ (Builtin.Tuple.tupleItemsOf (.ref t) >>= _) _ _ s
  refine wpAny_bind (tupleItemsOf_ ht ?_)
  refine wpAny_bind (wpAny_typeOf hTs ?_)
  rw [if_pos (by decide)]
  refine wpAny_bind (sliceApplied_rev (n := items.size) hs pl pu ps ?_)
  have hno : ¬ ((((items.size : Int) - 1 == 0) && ((-1 : Int) == 1) && (items.size == items.size)) = true) := by
    have : ((-1 : Int) == 1) = false := by decide
    rw [this]; simp
  show wpAny _ _ (if (((items.size : Int) - 1 == 0) && ((-1 : Int) == 1) && (items.size == items.size)) = true then _ else _) _ _ s
  rw [if_neg hno, pick_rev]
  first
    | exact wpAny_bind (m := Builtin.Tuple.tupleExact _) (wpAny_newObj_type (wpAny_pure ⟨_, rfl, wpAny_pure h⟩) htake)
    | exact wpAny_bind (m := Builtin.Tuple.tupleExact _) (wpAny_newObj_type (wpAny_bind (wpAny_pure (wpAny_pure ⟨_, rfl, wpAny_pure h⟩))) htake)
    | exact wpAny_bind (wpAny_bind (m := Builtin.Tuple.tupleExact _) (wpAny_newObj_type (wpAny_pure (wpAny_pure ⟨_, rfl, wpAny_pure h⟩)) htake))
    | exact wpAny_bind (wpAny_bind (m := Builtin.Tuple.tupleExact _) (wpAny_newObj_type (wpAny_pure ⟨_, rfl, wpAny_pure h⟩) htake))
end
end HT
namespace L2
open PySem PySem.Spec PyProof.Rows
section
variable {X : Cx}
def tRevT (K : PySem.W.Frag) (te : TE) : TE := fun σ H Q => te σ H fun x H1 => ∃ a xs, x = .ref a ∧ SqT K H1 a xs ∧ ∀ p, H1 p = none → Q (.ref p) (upd H1 p (.tup xs.reverse))
theorem pe_revT {e : Expr} {te : TE} {k : Nat} {p1 p2 p3 pos : Pos} (he : PE X e te) : PE X (.Subscript e (.Slice none none (some (.UnaryOp .USub (.Constant (.int 1) k p1) p2)) p3) pos) (tRevT X.K te) := by
  refine ⟨fun pins s σ H Q I h => ?_⟩
  refine Subscript_ (thn (he.run pins s σ H _ I h) fun v s1 ⟨x, H1, I1, r1, q1⟩ => ?_)
  obtain ⟨a, xs, ex, hx, q⟩ := q1
  subst ex
  cases r1
  have hst : PO X (some (.UnaryOp .USub (.Constant (.int 1) k p1) p2)) (tPart (tUn (rU fun i => .int (-i)) (tC (.int 1)))) := po_some (pe_un un_neg pe_int)
  refine wpAny_Slice (thn (po_none.run pins s1 σ H1 (fun o H2 => o = none ∧ H2 = H1) I1 ⟨rfl, rfl⟩) fun vl s2 ⟨l, H2, I2, pl, el, e2⟩ => ?_)
  subst el e2
  refine thn (po_none.run pins s2 σ H2 (fun o H3 => o = none ∧ H3 = H2) I2 ⟨rfl, rfl⟩) fun vu s3 ⟨u, H3, I3, pu, eu, e3⟩ => ?_
  subst eu e3
  refine thn (hst.run pins s3 σ H3 (fun o H4 => o = some (-1) ∧ H4 = H3) I3 ⟨1, rfl, -1, rfl, rfl, rfl⟩) fun vs s4 ⟨o, H4, I4, ps, eo, e4⟩ => ?_
  subst eo e4
  have I5 : Inv X pins σ H4 { s4 with heap := s4.heap.push { cls := .type "slice", data := .fields #[vl, vu, vs] } } := I4.kept (t' := s4.toks) fun b ob q => Heap.get?_push_of_some _ q
  obtain ⟨its, r, ht, hz⟩ := I5.tuple hx
  have hlen := r.length
  show wpAny (model X.prog X.w) X.A (subscriptTail e (.Slice none none (some (.UnaryOp .USub (.Constant (.int 1) k p1) p2)) p3) (.ref a) (.ref s4.heap.objs.size)) (EP X pins σ Q) X.xe { s4 with heap := s4.heap.push { cls := .type "slice", data := .fields #[vl, vu, vs] } }
  refine tail_any (ops := [.ref a, .ref s4.heap.objs.size]) ht.typeIs (PyProof.Rows.slot_tuple_getitem.lookup) ?_ (by with_unfolding_all rfl)
  refine HT.getItem_tuple_rev ht (Heap.IsSliceOf.new _ vl vu vs) pl pu ps ?_ (by rw [List.size_toArray]; omega)
  refine ⟨.ref _, _, I5.laid (t' := s4.toks) (o := .tup xs.reverse) (fun b ob q => Heap.get?_push_of_some _ q) (Nat.le_refl _) ?_, rfl, q _ (I5.hok.fresh (Nat.le_refl _))⟩
  exact ⟨by rw [List.length_reverse]; exact hz, _, r.reverse, _, Heap.get?_push_size _ rfl, rfl, 0, rfl⟩
end
end L2
set_option Elab.async false
set_option linter.all false
set_option maxRecDepth 100000
set_option maxHeartbeats 2000000
namespace L2.DX
open PySem PySem.Spec PyProof.Rows
section
variable {prog : Program} {w : World} {A : Around} {E : Value → Shared → Prop} {s : Shared}
theorem extend_rev {R : Result → Shared → Prop} {it l : Addr} {items : Array Value} (hh : A.handled = none) (hit : s.heap.IsRevIter it l ((items.size : Int) - 1)) (hl : s.heap.IsList l items) (hne : l ≠ it) (hn : items.size ≤ sizeLine) (S : Addr) (res : Value) (c₀ : Nat)
    (hS : s.heap.get? S = some { cls := .type "list", data := .seq #[] c₀ }) (hSi : S ≠ it) (hSl : S ≠ l)
    (hR : ∀ h' tk acc' c', (∀ b o, b ≠ S → b ≠ it → s.heap.get? b = some o → h'.get? b = some o) → h'.get? S = some { cls := .type "list", dict := none, data := .seq acc' c', slots := #[] } →
      ItemsOf (fun i v => items[items.size - 1 - i]? = some v) acc' items.size → R (.ok (.ret res)) { s with heap := h', toks := tk }) :
    wpAny (model prog w) A.in1 (Builtin.List.listExtendWith (.ref S) (.ref it) res)
      (fun fin s' => match fin with | .done f => R (.ok f) s' | .again c' => c'.quiet = true ∧ codeAny (model prog w) A c' R s') (fun e s' => R (.error e) s') s := by
  have W := (Walks.listRev (prog := prog) (w := w) (A := A.in1) hh it l hne items).toS
  have hSf : S ∉ [it, l] := by simp only [List.mem_cons, List.not_mem_nil, or_false, not_or]; exact ⟨hSi, hSl⟩
  have hT : s.TypeIs (.ref it) "list_reverseiterator" := Heap.IsRevIter.typeIs hit
  have h1 : Builtin.List.listSameRef (.ref S) (.ref it) = false := by simp [Builtin.List.listSameRef, hSi]
  unfold Builtin.List.listExtendWith
  refine wpAny_bind (wpAny_typeOf hT ?_)
  have h2 : (Value.type "list_reverseiterator" == Value.type "list") = false := by decide
  have h3 : (Value.type "list_reverseiterator" == Value.type "tuple") = false := by decide
  simp only [h1, h2, h3, Bool.or_false, Bool.false_eq_true, if_false]
  refine wpAny_bind (wpAny_pyIter_revIter hit ?_)
  refine wpAny_bind (wpAny_holding ?_)
  unfold Builtin.List.listLengthHint
  refine wpAny_bind (wpAny_specialOf hT RT.nolen_lri ?_)
  show wpAny _ A.in1 (specialOf (Value.ref it) (Str.ofString "__length_hint__") >>= _) _ _ _
  refine wpAny_bind (wpAny_specialOf hT RT.hint_lri ?_)
  generalize hid : ("list_reverseiterator.__length_hint__" : String) = id0
  wp_delta
  rw [show splitId id0 = some ("list_reverseiterator", "__length_hint__") from by subst hid; decide +kernel]
  subst hid
  refine wpAny_bind (wpAny_isInstance (b := true) hT (by rw [isSubtype_type]; kernel_rfl) ?_)
  refine wpAny_pure ?_
  rw [if_neg (by decide)]
  have e0 : ((items.size : Nat) : Int) - 1 - ((0 : Nat) : Int) = (items.size : Int) - 1 := by omega
  refine wpAny_pure ⟨plainId_quiet F.plain_extend_loop _, codeAny_extend_loopS W hn S hSf res items.size 0 _ _ _ rfl (Nat.zero_le _) ⟨Nat.zero_le _, by rw [e0]; exact hit, hl⟩ hS (ItemsOf.nil _) fun s' acc' c' hm hS' hacc => ?_⟩
  rw [Moved.eq_with hm]
  refine hR s'.heap s'.toks acc' c' (fun b o hb hb2 e => hm.heap b o (fun hmem => ?_) e) hS' hacc
  rcases List.mem_cons.mp hmem with e' | hmem
  · exact hb e'
  · exact hb2 (List.mem_singleton.mp hmem)
theorem list_init_rev {R : Result → Shared → Prop} {it l : Addr} {items : Array Value} (hh : A.handled = none) (hit : s.heap.IsRevIter it l ((items.size : Int) - 1)) (hl : s.heap.IsList l items) (hne : l ≠ it) (hn : items.size ≤ sizeLine) (S : Addr)
    (hS : s.heap.get? S = some { cls := .type "list", data := .seq #[] }) (hSi : S ≠ it) (hSl : S ≠ l)
    (hR : ∀ h' tk acc' c', (∀ b o, b ≠ S → b ≠ it → s.heap.get? b = some o → h'.get? b = some o) → h'.get? S = some { cls := .type "list", dict := none, data := .seq acc' c', slots := #[] } →
      ItemsOf (fun i v => items[items.size - 1 - i]? = some v) acc' items.size → R (.ok (.ret .none)) { s with heap := h', toks := tk }) :
    wpAny (model prog w) A.in1 (Builtin.«list.__init__» ⟨[.ref S, .ref it], []⟩)
      (fun fin s' => match fin with | .done f => R (.ok f) s' | .again c' => c'.quiet = true ∧ codeAny (model prog w) A c' R s') (fun e s' => R (.error e) s') s := by
  show wpAny _ _ (do let old ← Builtin.List.listItems (.ref S); Builtin.List.listUpdate (.ref S) (fun _ => #[]); letGo old.toList.reverse; Builtin.List.listExtendWith (.ref S) (.ref it) .none) _ _ s
  refine wpAny_bind ?_
  unfold Builtin.List.listItems
  refine wpAny_bind (wpAny_seqItems hS rfl (wpAny_pure ?_))
  show wpAny _ _ (updateSeq S (fun _ => #[]) >>= fun _ => letGo (#[] : Array Value).toList.reverse >>= fun _ => Builtin.List.listExtendWith (.ref S) (.ref it) .none) _ _ s
  refine wpAny_bind (wpAny_updateSeq hS rfl ?_)
  have hS₂ := Heap.get?_update_self (Obj.mapSeq (fun _ => (#[] : Array Value))) hS rfl
  have oth : ∀ b o, b ≠ S → s.heap.get? b = some o → (s.heap.update S (Obj.mapSeq (fun _ => (#[] : Array Value)))).get? b = some o :=
    fun b o hb e => (Heap.get?_update_other _ _ (Ne.symm hb)).trans e
  refine wpAny_bind (wpAny_letGo ?_)
  obtain ⟨ol, hol, hol2⟩ := id hl
  refine extend_rev hh (hit.at fun o e => oth it o (Ne.symm hSi) e) ⟨ol, oth l ol (Ne.symm hSl) hol, hol2⟩ hne hn S .none _ hS₂ hSi hSl fun h' tk acc' c' hk hS' hacc => ?_
  exact hR h' tk acc' c' (fun b o hb hb2 e => hk b o hb hb2 (oth b o hb e)) hS' hacc
theorem call_list_rev {Q : Value → Shared → Prop} {it l : Addr} {items : Array Value} (hh : A.handled = none) (hit : s.heap.IsRevIter it l ((items.size : Int) - 1)) (hl : s.heap.IsList l items) (hne : l ≠ it) (hn : items.size ≤ sizeLine)
    (hQ : ∀ h' tk acc' c', (∀ b o, b ≠ it → s.heap.get? b = some o → h'.get? b = some o) →
      h'.get? s.heap.objs.size = some { cls := .type "list", dict := none, data := .seq acc' c', slots := #[] } → ItemsOf (fun i v => items[items.size - 1 - i]? = some v) acc' items.size → Q (.ref s.heap.objs.size) { s with heap := h', toks := tk }) :
    wpAny (model prog w) A (call (.type "list") [.ref it]) Q E s := by
  refine callType_codes (Q₁ := fun obj s₁ => obj = .ref s.heap.objs.size ∧ s₁ = { s with heap := s.heap.push { cls := .type "list", data := .seq #[] } }) F.called_list (F.typeCall_list_1 _) F.entry_list_init
    (code_list_new _ ⟨rfl, rfl⟩) fun obj s₁ h₁ => ?_
  obtain ⟨rfl, rfl⟩ := h₁
  have hS : (s.heap.push { cls := .type "list", data := .seq #[] }).get? s.heap.objs.size = some { cls := .type "list", data := .seq #[] } := Heap.get?_push_size _ rfl
  obtain ⟨oi, hoi, _⟩ := id hit
  obtain ⟨ol, hol, _⟩ := id hl
  refine ⟨⟨_, hS, rfl⟩, F.args_list_init_2 _ _, list_init_rev (A := A.in1) hh (hit.at fun o e => Heap.get?_push_of_some _ e) (hl.push _) hne hn _ hS (Nat.ne_of_gt (Heap.lt_size hoi)) (Nat.ne_of_gt (Heap.lt_size hol)) fun h' tk acc' c' hk hS' hacc => ?_⟩
  exact ⟨rfl, hQ h' tk acc' c' (fun b o hb e => hk b o (Nat.ne_of_lt (Heap.lt_size e)) hb (Heap.get?_push_of_some _ e)) hS' hacc⟩
end
section
variable {X : Cx}
def tLstRev (K : PySem.W.Frag) (te : TE) : TE := fun σ H Q => te σ H fun v H1 => ∃ (a : Addr) (xs : List V), v = .ref a ∧ SqL K H1 a xs ∧ ∀ q, H1 q = none → Q (.ref q) (upd H1 q (.lst xs.reverse))
theorem pe_lstRev {e : Expr} {te : TE} {p p2 pos pos2 : Pos} (hc : X.calm = true) (hg : Gl X "list") (hm : X.mg "list" = none) (hg2 : Gl X "reversed") (hm2 : X.mg "reversed" = none) (he : PE X e te)
    (hs : starEach [e] X.env = (false, eval e X.env) :: starEach [] X.env := by rfl)
    (hs2 : starEach [.Call (.Name "reversed" p2) [e] [] pos2] X.env = (false, eval (.Call (.Name "reversed" p2) [e] [] pos2) X.env) :: starEach [] X.env := by rfl) :
    PE X (.Call (.Name "list" p) [.Call (.Name "reversed" p2) [e] [] pos2] [] pos) (tLstRev X.K te) := by
  refine ⟨fun pins s σ H Q I h => ?_⟩
  refine Call_ (ld_blt I hg hm boot_list (PyProof.Rows.callWith_type1 (args_cons (Call_ (ld_blt I hg2 hm2 PyProof.Rows.boot_reversed (PyProof.Rows.callWith_type1 (args_cons (thn (he.run pins s σ H _ I h) fun u s1 ⟨v, H1, I1, r1, q1⟩ => args_nil ?_) hs) hs rfl))) hs2) hs2 rfl))
  obtain ⟨a, xs, ev, hq, q⟩ := q1
  subst ev
  obtain rfl : u = Value.ref a := r1
  obtain ⟨its, rv, p', hz⟩ := I1.list hq
  refine call_reversed_list p'.isList (args_nil ?_)
  have k0 : ∀ b o, s1.heap.get? b = some o → (s1.heap.push (revObj a ((its.toArray.size : Int) - 1))).get? b = some o := fun b o e => Heap.get?_push_of_some _ e
  have hl := p'.isList
  obtain ⟨ol, hol, _⟩ := id hl
  have hne : a ≠ s1.heap.objs.size := Nat.ne_of_lt (Heap.lt_size hol)
  have hn : its.toArray.size ≤ sizeLine := by rw [List.size_toArray, ← rv.length]; exact hz
  refine call_list_rev (s := { s1 with heap := s1.heap.push (revObj a ((its.toArray.size : Int) - 1)) }) (I1.ok.hd hc) ⟨_, Heap.get?_push_size _ rfl, rfl, rfl⟩ (hl.push _) hne hn fun h' tk acc c' hk e' hi => ?_
  have kk : ∀ b o, s1.heap.get? b = some o → h'.get? b = some o := fun b o e => hk b o (Nat.ne_of_lt (Heap.lt_size e)) (k0 b o e)
  have hle : s1.heap.objs.size ≤ (s1.heap.push (revObj a ((its.toArray.size : Int) - 1))).objs.size := by simp [Heap.push]
  refine ⟨.ref (s1.heap.push (revObj a ((its.toArray.size : Int) - 1))).objs.size, upd H1 (s1.heap.push (revObj a ((its.toArray.size : Int) - 1))).objs.size (.lst xs.reverse), I1.laid (t' := tk) kk hle (show ObjOk X.prog X.w _ _ _ (.lst xs.reverse) from ⟨by rw [List.length_reverse]; exact hz, acc.toList, c', RT.vals_rev rv hi, ?_⟩), rfl, q _ (I1.hok.fresh hle)⟩
  rw [Array.toArray_toList]
  exact e'
end
end L2.DX
set_option Elab.async false
set_option linter.all false
set_option maxRecDepth 100000
set_option maxHeartbeats 2000000
namespace DD
open PySem L2 PyProof.Rows
variable [Tb : Tbl] {lb : Bool}
section
variable {X : Cx} {Γ : Gam} {f g h : Rho → Option (Fl × D)} {fs : Rho → Option (List (Fl × D))} {pos : Pos} {a b c e : Expr} {es : List Expr}
theorem gl_of {sc : Scope} {x : Str} (hs : X.env.scope = sc) (h : gloB sc x = true) : Gl X x ∧ (x == ("__debug__" : Str)) = false := by
  subst hs
  unfold gloB at h
  unfold Gl Env.kindOf
  split at h
  · rename_i e1
    exact ⟨e1, by simpa using h⟩
  · cases h
theorem map_one {rs : List (Fl × D)} {d : D} (h : rs.map (·.2) = [d]) : ∃ fl, rs = [(fl, d)] := by
  match rs, h with
  | [(fl, d')], h => simp at h; subst h; exact ⟨fl, rfl⟩
theorem map_two {rs : List (Fl × D)} {d e : D} (h : rs.map (·.2) = [d, e]) : ∃ fl fm, rs = [(fl, d), (fm, e)] := by
  match rs, h with
  | [(fl, d'), (fm, e')], h => simp at h; obtain ⟨rfl, rfl⟩ := h; exact ⟨fl, fm, rfl⟩
theorem resl_one {K : PySem.W.Frag} {B : Bs} {ρ : Rho} {σ : L2.St} {H H1 : Hp} {fl : Fl} {d : D} {vs : List V} (h : ResL K B ρ σ H H1 [(fl, d)] vs) : ∃ v, vs = [v] ∧ Res K B ρ σ H H1 fl d v := by
  cases h with
  | cons r t => cases t; exact ⟨_, rfl, r⟩
theorem resl_two {K : PySem.W.Frag} {B : Bs} {ρ : Rho} {σ : L2.St} {H H1 : Hp} {fl fm : Fl} {d e : D} {vs : List V} (h : ResL K B ρ σ H H1 [(fl, d), (fm, e)] vs) : ∃ v w, vs = [v, w] ∧ Res K B ρ σ H H1 fl d v ∧ Res K B ρ σ H H1 fm e w := by
  cases h with
  | cons r t => cases t with
    | cons r2 t2 => cases t2; exact ⟨_, _, rfl, r, r2⟩
theorem intsOf_map : ∀ {ds : List D} {ns : List Int}, intsOf ds = some ns → ds = ns.map D.int
  | [], ns, h => by simp [intsOf] at h; subst h; rfl
  | d :: ds, ns, h => by
    cases d <;> simp [intsOf] at h
    obtain ⟨m, h1, h2⟩ := h
    subst h2
    rw [List.map_cons, ← intsOf_map h1]
theorem foldl_min_spec : ∀ (ns : List Int) (n : Int), (ns.foldl min n) ∈ n :: ns ∧ ∀ y ∈ n :: ns, ns.foldl min n ≤ y
  | [], n => by simp
  | m :: ns, n => by
    have ih := foldl_min_spec ns (min n m)
    rw [List.foldl_cons]
    refine ⟨?_, fun y hy => ?_⟩
    · rcases List.mem_cons.mp ih.1 with e | e
      · rw [e]
        by_cases h : n ≤ m
        · rw [Int.min_eq_left h]; simp
        · rw [Int.min_eq_right (by omega)]; simp
      · simp [e]
    · have h0 := ih.2 (min n m) (by simp)
      rcases List.mem_cons.mp hy with rfl | hy
      · omega
      · rcases List.mem_cons.mp hy with rfl | hy
        · omega
        · exact ih.2 y (by simp [hy])
theorem foldl_max_spec : ∀ (ns : List Int) (n : Int), (ns.foldl max n) ∈ n :: ns ∧ ∀ y ∈ n :: ns, y ≤ ns.foldl max n
  | [], n => by simp
  | m :: ns, n => by
    have ih := foldl_max_spec ns (max n m)
    rw [List.foldl_cons]
    refine ⟨?_, fun y hy => ?_⟩
    · rcases List.mem_cons.mp ih.1 with e | e
      · rw [e]
        by_cases h : n ≤ m
        · rw [Int.max_eq_right h]; simp
        · rw [Int.max_eq_left (by omega)]; simp
      · simp [e]
    · have h0 := ih.2 (max n m) (by simp)
      rcases List.mem_cons.mp hy with rfl | hy
      · omega
      · rcases List.mem_cons.mp hy with rfl | hy
        · omega
        · exact ih.2 y (by simp [hy])
theorem sort_unique {l m : List Int} (hp : m.Perm l) (hs : m.Pairwise (· ≤ ·)) : m = sortI l := by
  unfold sortI
  have h1 : (l.mergeSort (fun a b => decide (a ≤ b))).Pairwise (fun a b => decide (a ≤ b) = true) := List.pairwise_mergeSort (by intro a b c; simp; omega) (by intro a b; simp; omega) l
  have h2 : m.Perm (l.mergeSort (fun a b => decide (a ≤ b))) := hp.trans (List.mergeSort_perm l _).symm
  refine List.Perm.eq_of_pairwise (le := fun a b => a ≤ b) ?_ hs (h1.imp (by intro a b h; simpa using h)) h2
  intro a b _ _ h3 h4; omega
theorem triOf_spec {d : D} {t : List Int} (h : triOf d = some t) : d = triD t ∧ t.length = 3 ∧ TS.Bd 64 t := by
  unfold triOf at h
  split at h
  · split at h
    · rename_i a b c hz
      cases h
      simp only [Bool.and_eq_true, decide_eq_true_eq] at hz
      refine ⟨rfl, rfl, fun m hm => ?_⟩
      simp only [List.mem_cons, List.not_mem_nil, or_false] at hm
      rcases hm with rfl | rfl | rfl <;> omega
    · cases h
  · cases h
theorem trisOf_spec : ∀ {ds : List D} {ts : List (List Int)}, trisOf ds = some ts → ds = ts.map triD ∧ ∀ t ∈ ts, t.length = 3 ∧ TS.Bd 64 t
  | [], ts, h => by cases h; exact ⟨rfl, fun _ h => by cases h⟩
  | d :: ds, ts, h => by
    simp only [trisOf] at h
    cases e1 : triOf d with
    | none => rw [e1] at h; cases h
    | some t =>
    cases e2 : trisOf ds with
    | none => rw [e1, e2] at h; cases h
    | some us =>
    rw [e1, e2] at h
    cases h
    obtain ⟨h1, h2⟩ := trisOf_spec e2
    obtain ⟨g1, g2⟩ := triOf_spec e1
    refine ⟨by rw [List.map_cons, g1, h1], fun t' ht => ?_⟩
    rcases List.mem_cons.mp ht with rfl | ht
    · exact g2
    · exact h2 _ ht
section
variable {K : PySem.W.Frag} {N : Addr → Prop} {H : Hp}
theorem tri_tupI {x : V} {ns : List Int} (h : Rp K N H (triD ns) x) : TupI K H x ns := by
  unfold triD at h
  simp only [Rp] at h
  obtain ⟨a, vs, rfl, t, r⟩ := h
  have := r.ints; subst this
  exact ⟨a, rfl, t⟩
theorem tri_mem : ∀ {ts : List (List Int)} {vs : List V}, Rps K N H (ts.map triD) vs → ∀ x ∈ vs, ∃ ns, ns ∈ ts ∧ Rp K N H (triD ns) x
  | [], vs, r, x, hx => by simp only [List.map_nil, Rps] at r; subst r; cases hx
  | t :: ts, vs, r, x, hx => by
    simp only [List.map_cons, Rps] at r
    obtain ⟨v, ws, rfl, r1, r2⟩ := r
    rcases List.mem_cons.mp hx with rfl | hx
    · exact ⟨t, List.mem_cons_self, r1⟩
    · obtain ⟨ns, h1, h2⟩ := tri_mem r2 x hx
      exact ⟨ns, List.mem_cons_of_mem _ h1, h2⟩
theorem tri_perm {ts : List (List Int)} {vs ys : List V} (hp : ys.Perm vs) : Rps K N H (ts.map triD) vs → ∃ ts' : List (List Int), ts'.Perm ts ∧ Rps K N H (ts'.map triD) ys := by
  induction hp generalizing ts with
  | nil => intro r; exact ⟨ts, List.Perm.refl _, r⟩
  | cons x _ ih =>
    intro r
    cases ts with
    | nil => simp only [List.map_nil, Rps] at r; cases r
    | cons t ts =>
      simp only [List.map_cons, Rps] at r
      obtain ⟨v, ws, e, r1, r2⟩ := r
      cases e
      obtain ⟨ts', p, q⟩ := ih r2
      exact ⟨t :: ts', p.cons t, by rw [List.map_cons]; exact Rps.cons r1 q⟩
  | swap x y l =>
    intro r
    cases ts with
    | nil => simp only [List.map_nil, Rps] at r; cases r
    | cons t ts =>
      simp only [List.map_cons, Rps] at r
      obtain ⟨v, ws, e, r1, r2⟩ := r
      cases e
      cases ts with
      | nil => simp only [List.map_nil, Rps] at r2; cases r2
      | cons u ts =>
        simp only [List.map_cons, Rps] at r2
        obtain ⟨v2, ws2, e2, r3, r4⟩ := r2
        cases e2
        exact ⟨u :: t :: ts, List.Perm.swap t u ts, by rw [List.map_cons, List.map_cons]; exact Rps.cons r3 (Rps.cons r1 r4)⟩
  | trans _ _ ih1 ih2 =>
    intro r
    obtain ⟨t1, p1, r1⟩ := ih2 r
    obtain ⟨t2, p2, r2⟩ := ih1 r1
    exact ⟨t2, p2.trans p1, r2⟩
theorem tri_pw : ∀ {ts : List (List Int)} {ys : List V}, ys.Pairwise (fun x y => ∀ n m, TupI K H x n → TupI K H y m → TS.code 64 n ≤ TS.code 64 m) → Rps K N H (ts.map triD) ys → ts.Pairwise (fun a b => TS.code 64 a ≤ TS.code 64 b)
  | [], ys, _, _ => List.Pairwise.nil
  | t :: ts, ys, h, r => by
    simp only [List.map_cons, Rps] at r
    obtain ⟨v, ws, rfl, r1, r2⟩ := r
    rw [List.pairwise_cons] at h ⊢
    refine ⟨fun u hu => ?_, tri_pw h.2 r2⟩
    obtain ⟨i, hi⟩ := List.mem_iff_getElem?.mp hu
    obtain ⟨w, hw, rw'⟩ := r2.get (i := i) (d := triD u) (by rw [List.getElem?_map, hi]; rfl)
    exact h.1 w (List.mem_of_getElem? hw) _ _ (tri_tupI r1) (tri_tupI rw')
end
theorem code_inj : ∀ {a b : List Int}, a.length = b.length → TS.Bd 64 a → TS.Bd 64 b → TS.code 64 a = TS.code 64 b → a = b
  | [], [], _, _, _, _ => rfl
  | [], y :: b, h, _, _, _ => by simp at h
  | x :: a, [], h, _, _, _ => by simp at h
  | x :: a, y :: b, h, ha, hb, e => by
    have hl : a.length = b.length := by simpa using h
    rcases Int.lt_trichotomy x y with h1 | h1 | h1
    · have := TS.code_lt hl ha.tail hb.tail h1; omega
    · subst h1
      congr 1
      refine code_inj hl ha.tail hb.tail ?_
      have h2 : ¬ TS.code 64 a < TS.code 64 b := fun z => by have := (TS.code_same (d := x) (B := 64) hl).mpr z; omega
      have h3 : ¬ TS.code 64 b < TS.code 64 a := fun z => by have := (TS.code_same (d := x) (B := 64) hl.symm).mpr z; omega
      omega
    · have := TS.code_lt hl.symm hb.tail ha.tail h1; omega
theorem sortT_unique {l m : List (List Int)} (hl : ∀ t ∈ l, t.length = 3 ∧ TS.Bd 64 t) (hp : m.Perm l) (hs : m.Pairwise (fun a b => TS.code 64 a ≤ TS.code 64 b)) : m = sortT l := by
  unfold sortT
  have h1 : (l.mergeSort (fun a b => decide (TS.code 64 a ≤ TS.code 64 b))).Pairwise (fun a b => decide (TS.code 64 a ≤ TS.code 64 b) = true) := List.pairwise_mergeSort (by intro a b c; simp; omega) (by intro a b; simp; omega) l
  have h2 : m.Perm (l.mergeSort (fun a b => decide (TS.code 64 a ≤ TS.code 64 b))) := hp.trans (List.mergeSort_perm l _).symm
  refine List.Perm.eq_of_pairwise (le := fun a b => TS.code 64 a ≤ TS.code 64 b) ?_ hs (h1.imp (by intro a b h; simpa using h)) h2
  intro a b ma mb h3 h4
  have ia := hl a (hp.mem_iff.mp ma)
  have ib := hl b ((List.mergeSort_perm l _).mem_iff.mp mb)
  exact code_inj (ia.1.trans ib.1.symm) ia.2 ib.2 (by omega)
theorem s_bi (C : Ctx lb X Γ) {bi : BI} {p : Pos} (hg : Gl X (biName bi)) (hns : allNS (e :: es) = true) (ha : PA X (e :: es) (rdA X.K fs)) :
    PE X (.Call (.Name (biName bi) p) (e :: es) [] pos) (rd X.K fun ρ => do let rs ← fs ρ; ofD (dBI bi (rs.map (·.2)))) := by
  refine ⟨fun pins s σ H Q I hh => ?_⟩
  obtain ⟨B, ρ, fl, d, hf, S, q⟩ := hh
  cases e1 : fs ρ with
  | none => simp [e1] at hf
  | some rs =>
  simp only [e1, Option.bind_eq_bind, Option.bind_some] at hf
  cases e2 : dBI bi (rs.map (·.2)) with
  | none => simp [e2, ofD] at hf
  | some d' =>
  simp only [e2, ofD, Option.map_some, Option.some.injEq, Prod.mk.injEq] at hf
  obtain ⟨rfl, rfl⟩ := hf
  have hns' := hns
  simp only [allNS, Bool.and_eq_true] at hns'
  have mB : X.mg (biName bi) = none := C.blt _ (by cases bi <;> simp [biName, bltNames])
  have runB : ∀ {id : String} {r : List V → Hp → VK → Prop}, CallR X (.builtin id) r → bootBuiltins (biName bi) = some (.builtin id) → (biName bi) ≠ "__name__" → ((biName bi) == ("__debug__" : Str)) = false →
      (∀ vs H2, Ext H H2 → ResL X.K B ρ σ H H2 rs vs → r vs H2 Q) → wpAny (model X.prog X.w) X.A (eval (.Call (.Name (biName bi) p) (e :: es) [] pos) X.env) (EP X pins σ Q) X.xe s :=
    fun hc hv hn hd kk => (pe_callB hc hg mB hv ha hn hd (star_of hns'.1) (pl_of hns'.2)).run pins s σ H Q I ⟨B, ρ, rs, e1, S, kk⟩
  have runT : ∀ {T : String} {r : List V → Hp → VK → Prop}, CallR X (.type T) r → bootBuiltins (biName bi) = some (.type T) → (biName bi) ≠ "__name__" → ((biName bi) == ("__debug__" : Str)) = false →
      (∀ vs H2, Ext H H2 → ResL X.K B ρ σ H H2 rs vs → r vs H2 Q) → wpAny (model X.prog X.w) X.A (eval (.Call (.Name (biName bi) p) (e :: es) [] pos) X.env) (EP X pins σ Q) X.xe s :=
    fun hc hv hn hd kk => (pe_callTy hc hg mB hv ha hn hd (star_of hns'.1) (pl_of hns'.2)).run pins s σ H Q I ⟨B, ρ, rs, e1, S, kk⟩
  cases bi with
  | len =>
    by_cases hdc : ∃ ks ds, rs.map (·.2) = [.dic ks ds]
    · obtain ⟨ks, ds, hm⟩ := hdc
      refine runB call_lenD PySem.boot_len (by decide) (by decide) fun vs H2 z rl => ?_
      rw [hm] at e2
      cases e2
      obtain ⟨fl, rfl⟩ := map_one hm
      obtain ⟨v, rfl, r⟩ := resl_one rl
      obtain ⟨pa, kvs, rfl, t, ek, rr⟩ := r.dic
      refine ⟨pa, kvs, rfl, t, ?_⟩
      have el : kvs.length = ks.length := by rw [← ek, List.length_map]
      rw [el]
      exact q _ H2 z fin_int
    refine runB call_len PySem.boot_len (by decide) (by decide) fun vs H2 z rl => ?_
    unfold dBI dLen at e2
    dsimp only at e2
    split at e2 <;> try contradiction
    · rename_i ds hm
      split at e2 <;> cases e2
      rename_i hz
      obtain ⟨fl, rfl⟩ := map_one hm
      obtain ⟨v, rfl, r⟩ := resl_one rl
      obtain ⟨pa, ws, rfl, t, rr⟩ := r.tup
      refine ⟨_, ds.length, rfl, ?_, q _ H2 z fin_int⟩
      exact .inr ⟨ws, t, rr.length⟩
    · rename_i ds hm
      split at e2 <;> cases e2
      rename_i hz
      obtain ⟨fl, rfl⟩ := map_one hm
      obtain ⟨v, rfl, r⟩ := resl_one rl
      obtain ⟨pa, ws, rfl, t, rr⟩ := r.lst S
      refine ⟨_, ds.length, rfl, ?_, q _ H2 z fin_int⟩
      exact .inl ⟨ws, SqL.of t, rr.length⟩
    · rename_i ds hm
      split at e2 <;> cases e2
      rename_i hz
      obtain ⟨fl, rfl⟩ := map_one hm
      obtain ⟨v, rfl, r⟩ := resl_one rl
      obtain ⟨pa, ws, rfl, t, rr⟩ := r.fz
      refine ⟨_, ds.length, rfl, ?_, q _ H2 z fin_int⟩
      exact .inl ⟨ws, t.sql, rr.length⟩
    · rename_i x hm
      split at e2 <;> cases e2
      rename_i hz
      obtain ⟨fl, rfl⟩ := map_one hm
      obtain ⟨v, rfl, r⟩ := resl_one rl
      refine ⟨_, x.length, rfl, ?_, q _ H2 z fin_int⟩
      rw [r.str]
      exact ⟨sz_of hz, rfl⟩
    · rename_i ks ds hm
      exact absurd ⟨ks, ds, hm⟩ hdc
  | abs =>
    refine runB call_abs boot_abs (by decide) (by decide) fun vs H2 z rl => ?_
    unfold dBI dAbs at e2
    dsimp only at e2
    split at e2 <;> try contradiction
    rename_i i hm
    cases e2
    obtain ⟨fl, rfl⟩ := map_one hm
    obtain ⟨v, rfl, r⟩ := resl_one rl
    exact ⟨i, by rw [r.int], q _ H2 z fin_int⟩
  | int =>
    refine runT call_int1 boot_int (by decide) (by decide) fun vs H2 z rl => ?_
    unfold dBI dInt at e2
    dsimp only at e2
    split at e2 <;> try contradiction
    · rename_i i hm
      cases e2
      obtain ⟨fl, rfl⟩ := map_one hm
      obtain ⟨v, rfl, r⟩ := resl_one rl
      exact .inl ⟨i, by rw [r.int], q _ H2 z fin_int⟩
    · rename_i i hm
      cases e2
      obtain ⟨fl, rfl⟩ := map_one hm
      obtain ⟨v, rfl, r⟩ := resl_one rl
      exact .inr ⟨i, by rw [r.bl], q _ H2 z fin_int⟩
  | str =>
    refine runT call_str_int boot_str (by decide) (by decide) fun vs H2 z rl => ?_
    unfold dBI dStr at e2
    dsimp only at e2
    split at e2 <;> try contradiction
    rename_i i hm
    split at e2 <;> cases e2
    rename_i hz
    obtain ⟨fl, rfl⟩ := map_one hm
    obtain ⟨v, rfl, r⟩ := resl_one rl
    exact ⟨i, by rw [r.int], dte.mp hz, q _ H2 z fin_str⟩
  | list =>
    refine runT call_list_of boot_list (by decide) (by decide) fun vs H2 z rl => ?_
    unfold dBI dList at e2
    dsimp only at e2
    split at e2 <;> try contradiction
    · rename_i ds hm
      cases e2
      obtain ⟨fl, rfl⟩ := map_one hm
      obtain ⟨v, rfl, r⟩ := resl_one rl
      obtain ⟨pa, ws, rfl, t, rr⟩ := r.tup
      exact ⟨pa, ws, rfl, .inr t, fun n hn => q _ _ (z.trans (Ext.new hn)) (Res.newL S z hn rr)⟩
    · rename_i ds hm
      cases e2
      obtain ⟨fl, rfl⟩ := map_one hm
      obtain ⟨v, rfl, r⟩ := resl_one rl
      obtain ⟨pa, ws, rfl, t, rr⟩ := r.lst S
      exact ⟨pa, ws, rfl, .inl (SqL.of t), fun n hn => q _ _ (z.trans (Ext.new hn)) (Res.newL S z hn rr)⟩
    · rename_i ds hm
      cases e2
      obtain ⟨fl, rfl⟩ := map_one hm
      obtain ⟨v, rfl, r⟩ := resl_one rl
      obtain ⟨pa, ws, rfl, t, rr⟩ := r.fz
      exact ⟨pa, ws, rfl, .inl t.sql, fun n hn => q _ _ (z.trans (Ext.new hn)) (Res.newL S z hn rr)⟩
  | tuple =>
    refine runT call_tuple_of boot_tuple (by decide) (by decide) fun vs H2 z rl => ?_
    unfold dBI dTuple at e2
    dsimp only at e2
    split at e2 <;> try contradiction
    · rename_i ds hm
      cases e2
      obtain ⟨fl, rfl⟩ := map_one hm
      obtain ⟨v, rfl, r⟩ := resl_one rl
      obtain ⟨pa, ws, rfl, t, rr⟩ := r.lst S
      exact ⟨pa, ws, rfl, .inl ⟨SqL.of t, fun n hn => q _ _ (z.trans (Ext.new hn)) (Res.newT hn rr)⟩⟩
    · rename_i ds hm
      cases e2
      obtain ⟨fl, rfl⟩ := map_one hm
      obtain ⟨v, rfl, r⟩ := resl_one rl
      obtain ⟨pa, ws, rfl, t, rr⟩ := r.fz
      exact ⟨pa, ws, rfl, .inl ⟨t.sql, fun n hn => q _ _ (z.trans (Ext.new hn)) (Res.newT hn rr)⟩⟩
    · rename_i ds hm
      cases e2
      obtain ⟨fl, rfl⟩ := map_one hm
      obtain ⟨v, rfl, r⟩ := resl_one rl
      obtain ⟨pa, ws, rfl, t, rr⟩ := r.tup
      exact ⟨pa, ws, rfl, .inr ⟨t, q _ H2 z (Res.of_rp rfl (by simp only [Rp]; exact ⟨pa, ws, rfl, t, rr⟩))⟩⟩
  | sum =>
    refine runB (cr_sum C.calm) boot_sum (by decide) (by decide) fun vs H2 z rl => ?_
    unfold dBI dSum at e2
    dsimp only at e2
    split at e2 <;> try contradiction
    · rename_i ds hm
      cases e3 : intsOf ds with
      | none => rw [e3] at e2; cases e2
      | some ns =>
      rw [e3] at e2; cases e2
      have := intsOf_map e3; subst this
      obtain ⟨fl, rfl⟩ := map_one hm
      obtain ⟨v, rfl, r⟩ := resl_one rl
      obtain ⟨pa, ws, rfl, t, rr⟩ := r.lst S
      have := rr.ints; subst this
      exact ⟨pa, ns, rfl, SqL.of t, q _ H2 z fin_int⟩
    · rename_i ds hm
      cases e3 : intsOf ds with
      | none => rw [e3] at e2; cases e2
      | some ns =>
      rw [e3] at e2; cases e2
      have := intsOf_map e3; subst this
      obtain ⟨fl, rfl⟩ := map_one hm
      obtain ⟨v, rfl, r⟩ := resl_one rl
      obtain ⟨pa, ws, rfl, t, rr⟩ := r.fz
      have := rr.ints; subst this
      exact ⟨pa, ns, rfl, t.sql, q _ H2 z fin_int⟩
  | min =>
    unfold dBI dMin at e2
    dsimp only at e2
    split at e2 <;> try contradiction
    · rename_i i j hm
      cases e2
      refine runB (call_min2 C.calm) boot_min (by decide) (by decide) fun vs H2 z rl => ?_
      obtain ⟨fl, fm, rfl⟩ := map_two hm
      obtain ⟨v, w, rfl, r, r2⟩ := resl_two rl
      exact ⟨i, j, by rw [r.int, r2.int], q _ H2 z fin_int⟩
    · rename_i ds hm
      cases e3 : intsOf ds with
      | none => rw [e3] at e2; cases e2
      | some ns =>
      rw [e3, Option.bind_some] at e2
      cases ns with
      | nil => cases e2
      | cons n ns =>
      cases e2
      refine runB (cr_min C.calm) boot_min (by decide) (by decide) fun vs H2 z rl => ?_
      have := intsOf_map e3; subst this
      obtain ⟨fl, rfl⟩ := map_one hm
      obtain ⟨v, rfl, r⟩ := resl_one rl
      obtain ⟨pa, ws, rfl, t, rr⟩ := r.lst S
      have := rr.ints; subst this
      refine ⟨pa, n :: ns, rfl, SqL.of t, by simp, fun m h1 h2 => ?_⟩
      have sp := foldl_min_spec ns n
      have em : m = ns.foldl min n := Int.le_antisymm (h2 _ sp.1) (sp.2 m h1)
      subst em
      exact q _ H2 z fin_int
    · rename_i ds hm
      cases e3 : intsOf ds with
      | none => rw [e3] at e2; cases e2
      | some ns =>
      rw [e3, Option.bind_some] at e2
      cases ns with
      | nil => cases e2
      | cons n ns =>
      cases e2
      refine runB (cr_minT C.calm) boot_min (by decide) (by decide) fun vs H2 z rl => ?_
      have := intsOf_map e3; subst this
      obtain ⟨fl, rfl⟩ := map_one hm
      obtain ⟨v, rfl, r⟩ := resl_one rl
      obtain ⟨pa, ws, rfl, t, rr⟩ := r.tup
      have := rr.ints; subst this
      refine ⟨pa, n :: ns, rfl, t, by simp, fun m h1 h2 => ?_⟩
      have sp := foldl_min_spec ns n
      have em : m = ns.foldl min n := Int.le_antisymm (h2 _ sp.1) (sp.2 m h1)
      subst em
      exact q _ H2 z fin_int
  | max =>
    unfold dBI dMax at e2
    dsimp only at e2
    split at e2 <;> try contradiction
    · rename_i i j hm
      cases e2
      refine runB (call_max2 C.calm) boot_max (by decide) (by decide) fun vs H2 z rl => ?_
      obtain ⟨fl, fm, rfl⟩ := map_two hm
      obtain ⟨v, w, rfl, r, r2⟩ := resl_two rl
      exact ⟨i, j, by rw [r.int, r2.int], q _ H2 z fin_int⟩
    · rename_i ds hm
      cases e3 : intsOf ds with
      | none => rw [e3] at e2; cases e2
      | some ns =>
      rw [e3, Option.bind_some] at e2
      cases ns with
      | nil => cases e2
      | cons n ns =>
      cases e2
      refine runB (cr_max C.calm) boot_max (by decide) (by decide) fun vs H2 z rl => ?_
      have := intsOf_map e3; subst this
      obtain ⟨fl, rfl⟩ := map_one hm
      obtain ⟨v, rfl, r⟩ := resl_one rl
      obtain ⟨pa, ws, rfl, t, rr⟩ := r.lst S
      have := rr.ints; subst this
      refine ⟨pa, n :: ns, rfl, SqL.of t, by simp, fun m h1 h2 => ?_⟩
      have sp := foldl_max_spec ns n
      have em : m = ns.foldl max n := Int.le_antisymm (sp.2 m h1) (h2 _ sp.1)
      subst em
      exact q _ H2 z fin_int
    · rename_i ds hm
      cases e3 : intsOf ds with
      | none => rw [e3] at e2; cases e2
      | some ns =>
      rw [e3, Option.bind_some] at e2
      cases ns with
      | nil => cases e2
      | cons n ns =>
      cases e2
      refine runB (cr_maxT C.calm) boot_max (by decide) (by decide) fun vs H2 z rl => ?_
      have := intsOf_map e3; subst this
      obtain ⟨fl, rfl⟩ := map_one hm
      obtain ⟨v, rfl, r⟩ := resl_one rl
      obtain ⟨pa, ws, rfl, t, rr⟩ := r.tup
      have := rr.ints; subst this
      refine ⟨pa, n :: ns, rfl, t, by simp, fun m h1 h2 => ?_⟩
      have sp := foldl_max_spec ns n
      have em : m = ns.foldl max n := Int.le_antisymm (sp.2 m h1) (h2 _ sp.1)
      subst em
      exact q _ H2 z fin_int
  | sorted =>
    have fin : ∀ {H2 : Hp} {ns : List Int} {pa : Addr}, Ext H H2 → SqL X.K H2 pa (ns.map V.int) → d' = .lst ((sortI ns).map .int) → rSortedI X.K [.ref pa] H2 Q := by
      intro H2 ns pa z t ed
      subst ed
      refine ⟨pa, ns, rfl, t, fun ms n hp hs hn => ?_⟩
      rw [sort_unique hp hs]
      exact q _ _ (z.trans (Ext.new hn)) (Res.newL S z hn (Rps.of_ints _))
    unfold dBI dSorted at e2
    dsimp only at e2
    split at e2 <;> try contradiction
    · rename_i ds hm
      cases e3 : intsOf ds with
      | none =>
        rw [e3] at e2
        dsimp only at e2
        split at e2
        case isFalse => cases e2
        rename_i h64
        cases e4 : trisOf ds with
        | none => rw [e4] at e2; cases e2
        | some ts =>
        rw [e4, Option.map_some, Option.some.injEq] at e2
        subst e2
        obtain ⟨hds, hts⟩ := trisOf_spec e4
        subst hds
        obtain ⟨fl, rfl⟩ := map_one hm
        refine runB (cr_sortT (d := 3) (B := 64) (by decide)) boot_sorted (by decide) (by decide) fun vs H2 z rl => ?_
        obtain ⟨v, rfl, r⟩ := resl_one rl
        obtain ⟨pa, ws, rfl, t, rr⟩ := r.lst S
        refine ⟨pa, ws, rfl, SqL.of t, by rw [← rr.length]; exact h64, fun x hx => ?_, fun ys p hp hw hn => ?_⟩
        · obtain ⟨ns, h1, h2⟩ := tri_mem rr x hx
          exact ⟨ns, tri_tupI h2, (hts ns h1).1, (hts ns h1).2⟩
        · obtain ⟨ts', p1, r1⟩ := tri_perm hp rr
          have : ts' = sortT ts := by
            refine sortT_unique hts p1 ?_
            exact tri_pw hw r1
          subst this
          exact q _ _ (z.trans (Ext.new hn)) (Res.newL S z hn r1)
      | some ns =>
      rw [e3] at e2
      simp only [Option.some.injEq] at e2
      have := intsOf_map e3; subst this
      obtain ⟨fl, rfl⟩ := map_one hm
      refine runB cr_sortedI boot_sorted (by decide) (by decide) fun vs H2 z rl => ?_
      obtain ⟨v, rfl, r⟩ := resl_one rl
      obtain ⟨pa, ws, rfl, t, rr⟩ := r.lst S
      have := rr.ints; subst this
      exact fin z (SqL.of t) e2.symm
    · rename_i ds hm
      cases e3 : intsOf ds with
      | none => rw [e3] at e2; cases e2
      | some ns =>
      rw [e3, Option.map_some, Option.some.injEq] at e2
      have := intsOf_map e3; subst this
      obtain ⟨fl, rfl⟩ := map_one hm
      refine runB cr_sortedI boot_sorted (by decide) (by decide) fun vs H2 z rl => ?_
      obtain ⟨v, rfl, r⟩ := resl_one rl
      obtain ⟨pa, ws, rfl, t, rr⟩ := r.fz
      have := rr.ints; subst this
      exact fin z t.sql e2.symm
    · rename_i ks ds hm
      split at e2
      case isFalse => cases e2
      rename_i h64
      cases e3 : kintsOf ks with
      | none => rw [e3] at e2; cases e2
      | some ns =>
      rw [e3, Option.map_some, Option.some.injEq] at e2
      have := kintsOf_spec e3; subst this
      subst e2
      obtain ⟨fl, rfl⟩ := map_one hm
      refine runB (call_sortedDI C.calm) boot_sorted (by decide) (by decide) fun vs H2 z rl => ?_
      obtain ⟨v, rfl, r⟩ := resl_one rl
      obtain ⟨pa, kvs, rfl, t, ek, rr⟩ := r.dic
      refine ⟨pa, kvs, ns, rfl, .inl t, ek, by simpa using h64, fun ys pp hp hs hn => ?_⟩
      rw [sort_unique hp hs]
      exact q _ _ (z.trans (Ext.new hn)) (Res.newL S z hn (Rps.of_ints _))
theorem tyx0 {K : PySem.W.Frag} {B : Bs} {ρ : Rho} {σ : L2.St} {H H1 : Hp} {fl : Fl} {d : D} {v : V} (hd : isDk d = false) (h : Res K B ρ σ H H1 fl d v) : TyX K H1 v (.type (tyD d)) := by
  have q := h.any
  cases d with
  | non => rw [h.non]; exact .base .non
  | bl _ => rw [h.bl]; exact .base (.bl _)
  | int _ => rw [h.int]; exact .base (.int _)
  | str _ => rw [h.str]; exact .base (.str _)
  | tup ds =>
    obtain ⟨a, vs, rfl, t, _⟩ := h.tup
    rcases t with (t | ⟨o, t⟩) | ⟨o, its, n, h1, h2, _⟩
    · exact .base (.tup t)
    · exact .fTuple t
    · exact .kTuple h1 h2
  | lst ds =>
    simp only [Rp] at q
    obtain ⟨a, vs, rfl, _, t, _⟩ := q
    exact .base (.lst t)
  | fz ds =>
    simp only [Rp] at q
    obtain ⟨a, vs, rfl, t, _⟩ := q
    rcases t with ⟨o, t⟩ | ⟨o, its, n, h1, h2, _⟩
    · exact .base (.frz t)
    · exact .kList h1 h2
  | dic ks ds =>
    simp only [Rp] at q
    obtain ⟨a, vs, rfl, _, t, _⟩ := q
    exact .base (.dK t)
  | dit ks ds =>
    simp only [Rp] at q
    obtain ⟨a, vs, rfl, _, t, _⟩ := q
    exact .base (.dT t)
  | fd ks ds =>
    obtain ⟨a, vs, rfl, ⟨_, t⟩, _⟩ := h.fd
    exact .fDict t
  | dk C q ks ds => cases hd
/-- a value's class, and what isinstance answers of it -/
theorem tyx {K : PySem.W.Frag} {B : Bs} {ρ : Rho} {σ : L2.St} {H H1 : Hp} {fl : Fl} {d : D} {v : V} (h : Res K B ρ σ H H1 fl d v) : ∃ c, TyX K H1 v c ∧ ∀ T r, tyNames.contains T = true → dIsi T d = some r → PySem.W.kitOne K c (.type T) = some r := by
  cases hd : isDk d with
  | false =>
    refine ⟨_, tyx0 hd h, fun T r _ e => ?_⟩
    unfold dIsi at e
    rw [hd, if_neg Bool.false_ne_true] at e
    exact kit_ty e
  | true =>
    cases d <;> simp [isDk] at hd
    rename_i C q ks ds
    have g := h.any
    simp only [Rp] at g
    obtain ⟨p, dx, kvs, rfl, c, t, _⟩ := g
    refine ⟨_, .base (.ins t c.cl c.ha c.hn c.htk c.hm), fun T r hT e => ?_⟩
    have er : r = false := by
      unfold dIsi at e
      simpa [isDk] using e.symm
    subst er
    exact c.no T (by simpa [tyNames] using hT)
theorem pe_ty (C : Ctx lb X Γ) {T : String} (hT : tyNames.contains T = true) {p : Pos} (hg : Gl X (Str.ofString T)) : PE X (.Name (Str.ofString T) p) (tC (.ty T)) := by
  have : T = "int" ∨ T = "bool" ∨ T = "str" ∨ T = "list" ∨ T = "tuple" ∨ T = "dict" := by simpa [tyNames] using hT
  rcases this with rfl | rfl | rfl | rfl | rfl | rfl
  · exact pe_bltn hg (C.blt _ (by simp [bltNames])) boot_int rfl
  · exact pe_bltn hg (C.blt _ (by simp [bltNames])) boot_bool rfl
  · exact pe_bltn hg (C.blt _ (by simp [bltNames])) boot_str rfl
  · exact pe_bltn hg (C.blt _ (by simp [bltNames])) boot_list rfl
  · exact pe_bltn hg (C.blt _ (by simp [bltNames])) boot_tuple rfl
  · exact pe_bltn hg (C.blt _ (by simp [bltNames])) boot_dict rfl
theorem s_isi (C : Ctx lb X Γ) {T : String} (hT : tyNames.contains T = true) {p p2 : Pos} (hg : Gl X "isinstance") (hgT : Gl X (Str.ofString T)) (hs : notStar a = true) (ha : PE X a (rd X.K f)) :
    PE X (.Call (.Name "isinstance" p) [a, .Name (Str.ofString T) p2] [] pos) (rd X.K fun ρ => do let x ← f ρ; ofB (dIsi T x.2)) := by
  refine pe_le (pe_callB call_isi hg (C.blt _ (by simp [bltNames])) boot_isinstance (pa_cons ha (pa_cons (pe_ty C hT hgT) pa_nil) (star_of hs)) (by decide) (by decide) (star_of hs)) fun σ H Q hh => ?_
  obtain ⟨B, ρ, fl, d, hf, S, q⟩ := hh
  cases e1 : f ρ with
  | none => simp [e1] at hf
  | some x =>
  obtain ⟨fa, da⟩ := x
  simp only [e1, Option.bind_eq_bind, Option.bind_some] at hf
  cases e2 : dIsi T da with
  | none => simp [e2, ofB] at hf
  | some r =>
  simp only [e2, ofB, Option.map_some, Option.some.injEq, Prod.mk.injEq] at hf
  obtain ⟨rfl, rfl⟩ := hf
  exact ⟨B, ρ, fa, da, e1, S, fun v H1 z r1 => let ⟨c, y1, y2⟩ := tyx r1; ⟨v, .ty T, c, .type T, r, rfl, .ty T, y1, y2 T r hT e2, q _ H1 z fin_bl⟩⟩
theorem s_isi2 (C : Ctx lb X Γ) {T U : String} (hT : tyNames.contains T = true) (hU : tyNames.contains U = true) {p p2 p3 p4 : Pos} {k : Nat} (hg : Gl X "isinstance") (hgT : Gl X (Str.ofString T)) (hgU : Gl X (Str.ofString U)) (hs : notStar a = true) (ha : PE X a (rd X.K f)) :
    PE X (.Call (.Name "isinstance" p) [a, .Tuple [.Name (Str.ofString T) p2, .Name (Str.ofString U) p3] k p4] [] pos) (rd X.K fun ρ => do let x ← f ρ; let b ← dIsi T x.2; if b then ofB (some true) else ofB (dIsi U x.2)) := by
  refine pe_le (pe_callB call_isiT hg (C.blt _ (by simp [bltNames])) boot_isinstance (pa_cons ha (pa_cons (pe_tup (pa_cons (pe_ty C hT hgT) (pa_cons (pe_ty C hU hgU) pa_nil))) pa_nil) (star_of hs)) (by decide) (by decide) (star_of hs)) fun σ H Q hh => ?_
  obtain ⟨B, ρ, fl, d, hf, S, q⟩ := hh
  cases e1 : f ρ with
  | none => simp [e1] at hf
  | some x =>
  obtain ⟨fa, da⟩ := x
  simp only [e1, Option.bind_eq_bind, Option.bind_some] at hf
  cases e2 : dIsi T da with
  | none => simp [e2] at hf
  | some r =>
  simp only [e2, Option.bind_some] at hf
  refine ⟨B, ρ, fa, da, e1, S, fun v H1 z r1 => ⟨by show 2 ≤ sizeLine; decide, fun n hn => ?_⟩⟩
  have r1' := r1.ext (Ext.new (o := .tup [.ty T, .ty U]) hn)
  obtain ⟨c, y1, y2⟩ := tyx r1'
  cases r with
  | true =>
    simp only [if_true, ofB, Option.map_some, Option.some.injEq, Prod.mk.injEq] at hf
    obtain ⟨rfl, rfl⟩ := hf
    exact ⟨v, n, [.ty T, .ty U], c, [.type T, .type U], true, rfl, upd_same, .cons (.ty T) (.cons (.ty U) .nil), y1, kitAny_cons (y2 T _ hT e2) (fun z => nomatch z) (fun _ => rfl), q _ _ (z.trans (Ext.new hn)) fin_bl⟩
  | false =>
    simp only [Bool.false_eq_true, if_false] at hf
    cases e3 : dIsi U da with
    | none => simp [e3, ofB] at hf
    | some r2 =>
    simp only [e3, ofB, Option.map_some, Option.some.injEq, Prod.mk.injEq] at hf
    obtain ⟨rfl, rfl⟩ := hf
    refine ⟨v, n, [.ty T, .ty U], c, [.type T, .type U], r2, rfl, upd_same, .cons (.ty T) (.cons (.ty U) .nil), y1, kitAny_cons (y2 T _ hT e2) (fun _ => kitAny_cons (y2 U _ hU e3) (fun z => ?_) (fun z => z)) (fun z => nomatch z), q _ _ (z.trans (Ext.new hn)) fin_bl⟩
    subst z; exact kitAny_nil
theorem meAt_none {K : PySem.W.Frag} {mg : Str → Option Value} {q : MF2} {f : Addr} (h : q.me.C = none) (m : MeAt K mg q f) : mg q.nm = some (.ref f) ∧ PySem.W.keepIn K (.ref f) = true := by
  unfold MeAt at m
  rw [h] at m
  exact m
theorem meAt_some {K : PySem.W.Frag} {mg : Str → Option Value} {q : MF2} {f C : Addr} (h : q.me.C = some C) (m : MeAt K mg q f) : Meth K C q.nm f ∧ Cls K C := by
  unfold MeAt at m
  rw [h] at m
  exact m
theorem few_back {X : Cx} {pos : Pos} : ∀ {es : List Expr}, allNS es = true → (backTo pos (starEach es X.env)).all (!·.1) = true
  | [], _ => rfl
  | e :: es, h => by
    simp only [allNS, Bool.and_eq_true] at h
    rw [star_of h.1]
    show (!false && (backTo pos (starEach es X.env)).all (!·.1)) = true
    rw [few_back h.2]; rfl
theorem spM2_nil {K : PySem.W.Frag} {n : Nat} {F : List D → Option (List D × D)} {vs : List V} {H : Hp} {Q : VK} {E : XK} {ds : List D} {r : D} (h : F ds = some ([], r)) (hn : ds.length = n) (hv : vs.length = n) (hr : Rps K (fun _ => True) H ds vs) (hT : LamX.Tabs Tb.T H)
    (k : ∀ v H', Ext H H' → imm r = true → Rp K (fun _ => False) H' r v → Q v H') : spM2 K n [] F vs H Q E :=
  ⟨ds, [], r, [], [], h, hn, hv, rfl, rfl, List.nodup_nil, trivial, fun i d v _ h1 h2 => by
    obtain ⟨w, g1, g2⟩ := hr.get h1
    rw [h2] at g1; cases g1
    exact Rp.imp (fun _ _ _ _ => by simp) g2, hT, fun v H' e _ hi hq => k v H' ⟨fun a o ha nt => e.to a o (by simp) ha nt, e.tab, e.dom⟩ hi hq⟩
/-- o.m(..) of an object that is only read -/
theorem s_meth (C : Ctx lb X Γ) {k i : Nat} {q0 : MF2} {x : Str} {p ap : Pos} (hq : Γ.ex.ops.mf[k]? = some q0) (hs : q0.me.C.isSome = true) (hk : (q0.nm == ("kept_runs" : Str)) = false) (hl : (ap.endLine == pos.line) = true) (hf : es.length < 20)
    (hv : PE X (.Name x p) (tVar i)) (hn : allNS (e :: es) = true) (ha : PA X (e :: es) (rdA X.K fs)) :
    PE X (.Call (.Attribute (.Name x p) q0.nm ap) (e :: es) [] pos) (rd X.K fun ρ => do let d0 ← shS ρ[i]?; let rs ← fs ρ; let q ← Γ.ex.ops.mf[k]?; methR q d0 rs) := by
  refine ⟨fun pins s σ H Q I hh => ?_⟩
  obtain ⟨B, ρ, fl, d, hf', S, q⟩ := hh
  simp only [Option.bind_eq_bind] at hf'
  cases e0 : shS ρ[i]? with
  | none => rw [e0] at hf'; cases hf'
  | some d0 =>
  rw [e0, Option.bind_some] at hf'
  cases e1 : fs ρ with
  | none => rw [e1] at hf'; cases hf'
  | some rs =>
  rw [e1, Option.bind_some, hq, Option.bind_some] at hf'
  unfold methR at hf'
  split at hf'
  case isFalse => cases hf'
  rename_i hc
  simp only [Bool.and_eq_true, decide_eq_true_eq, List.isEmpty_iff] at hc
  obtain ⟨⟨hc, hp⟩, hlen⟩ := hc
  cases e3 : q0.F (d0 :: rs.map (·.2)) with
  | none => rw [e3] at hf'; cases hf'
  | some r =>
  rw [e3, Option.bind_some] at hf'
  split at hf'
  case isFalse => cases hf'
  rename_i hi
  simp only [Bool.and_eq_true, List.isEmpty_iff] at hi
  obtain ⟨hi, hr0⟩ := hi
  cases hf'
  obtain ⟨r1, r2⟩ := r
  dsimp only at hr0 hi
  subst hr0
  have hρ : ρ[i]? = some (some (.sh d0)) := by
    revert e0
    cases ρ[i]? with
    | none => intro z; cases z
    | some y => cases y with
      | none => intro z; cases z
      | some sl => cases sl <;> intro z <;> cases z; rfl
  cases d0 <;> simp only [ofC, Bool.false_eq_true] at hc
  rename_i C0 qa ks dv
  have hC : q0.me.C = some C0 := by simpa using hc
  obtain ⟨v0, hσ, rv⟩ := S.sh i _ hρ
  obtain ⟨kk, fa, fd, ps, hps, G, hr, hme, hb⟩ := (C.m2 k _ hq).ex
  obtain ⟨hm, hcl⟩ := meAt_some hC hme
  have rv' := rv
  simp only [Rp] at rv'
  obtain ⟨pa, dx, kvs, rfl, _, hins, _⟩ := rv'
  simp only [allNS, Bool.and_eq_true] at hn
  have hfew : methodCallForm ((e :: es).length + ([] : List Keyword).length) (backTo pos (starEach (e :: es) X.env)) (backToKw pos (keywordEach [] X.env)) = true := by
    unfold methodCallForm
    have h1 : (backTo pos (starEach (e :: es) X.env)).all (!·.1) = true := few_back (by simp only [allNS, Bool.and_eq_true]; exact hn)
    rw [h1]
    simp only [keywordEach, List.length_cons, List.length_nil]
    have : es.length + 1 < 30 := by omega
    simpa [backToKw] using this
  refine (pe_meth (pl := plainOf (.Name x p) X.env) (E := fun _ _ _ => False) hv hcl hm G hr hb .nil pass0 ha (star_of hn.1) (pl_of hn.2) (by
    rw [arm_eval_Call]
    have em := fun ov : Value => mcall_line (o := .Name x p) (m := q0.nm) (env := X.env) (ov := ov) hfew hl
    simp only [em]
    rfl)).run pins s σ H Q I ?_
  refine ⟨_, hσ, pa, dx, _, rfl, hins, ?_, B, ρ, rs, e1, S, fun vs H1 z r1 => ?_⟩
  · simp only [List.lookup, hk]
  · rw [hp]
    refine spM2_nil e3 (by simp [hlen]) (by simp [← r1.length, hlen]) ?_ (z.tabs S.tabs) fun v H2 z2 _ rr => q v H2 (z.trans z2) ?_
    · rw [List.append_nil]
      exact Rps.cons (Rp.imp (fun _ _ _ _ => trivial) (rv.ext z)) r1.any
    · exact Res.of_rp (by cases r2 <;> simp [imm] at hi <;> rfl) (Rp.any hi rr)
theorem s_call (C : Ctx lb X Γ) {kf : Nat} {x : Str} {p : Pos} (hkf : (Γ.fn.map (·.1))[kf]? = some x) (hg : Gl X x) (hd : (x == ("__debug__" : Str)) = false) (hn : allNS (e :: es) = true) (ha : PA X (e :: es) (rdA X.K fs)) :
    PE X (.Call (.Name x p) (e :: es) [] pos) (rd X.K fun ρ => do let rs ← fs ρ; let F ← Γ.fn[kf]?; if rs.length = F.2.1 then ofD (F.2.2 (rs.map (·.2))) else none) := by
  refine ⟨fun pins s σ H Q I hh => ?_⟩
  obtain ⟨B, ρ, fl, d, hf, S, q⟩ := hh
  cases e1 : fs ρ with
  | none => simp [e1] at hf
  | some rs =>
  rw [List.getElem?_map] at hkf
  cases e2 : Γ.fn[kf]? with
  | none => simp [e1, e2] at hf
  | some nF =>
  obtain ⟨y, n, F⟩ := nF
  rw [e2] at hkf
  simp only [Option.map_some, Option.some.injEq] at hkf
  subst hkf
  simp only [e1, e2, Option.bind_eq_bind, Option.bind_some] at hf
  split at hf
  · rename_i hl
    cases e3 : F (rs.map (·.2)) with
    | none => simp [e3, ofD] at hf
    | some r =>
    simp only [e3, ofD, Option.map_some, Option.some.injEq, Prod.mk.injEq] at hf
    obtain ⟨rfl, rfl⟩ := hf
    obtain ⟨k, fa, fd, ps, hps, G, hr, hm, hk, hb⟩ := (C.fn kf _ n F e2).ex
    simp only [allNS, Bool.and_eq_true] at hn
    refine (pe_call (E := fun _ _ _ => False) G hr hg hm hk hb .nil pass0 ha hd (star_of hn.1) (pl_of hn.2)).run pins s σ H Q I ?_
    refine ⟨B, ρ, rs, e1, S, fun vs H1 z r1 => ?_⟩
    refine ⟨rs.map (·.2), r, e3, by rw [List.length_map]; exact hl, by rw [List.append_nil]; exact r1.any, z.tabs S.tabs, fun v H2 z2 sep => q v H2 (z.trans z2) ?_⟩
    exact Sep.imp (fun a o _ n0 => S.new (z.back n0)) (fun a o _ t => z.back t) sep
  · cases hf
theorem resl_get {K : PySem.W.Frag} {B : Bs} {ρ : Rho} {σ : L2.St} {H H1 : Hp} {rs : List (Fl × D)} {vs : List V} (h : ResL K B ρ σ H H1 rs vs) : ∀ {j : Nat} {r : Fl × D} {v : V}, rs[j]? = some r → vs[j]? = some v → Res K B ρ σ H H1 r.1 r.2 v := by
  induction h with
  | nil => intro j r v e _; simp at e
  | cons r0 _ ih =>
    intro j r v e1 e2
    cases j with
    | zero => simp at e1 e2; subst e1; subst e2; exact r0
    | succ j => exact ih (by simpa using e1) (by simpa using e2)
theorem sa_lastD {p : Pos} : PA X [.Dict [] [] p] (rdN X.K fun _ => some []) := by
  refine pa_le (pa_cons pe_dnewK pa_nil (star_of rfl)) fun σ H Q hh => ?_
  obtain ⟨B, ρ, rs, hf, S, q⟩ := hh
  cases hf
  intro p hp
  exact q [] H (Ext.refl H) .nil p hp
theorem sa_consN (hs : notStar e = true) (ha : PE X e (rd X.K f)) (hr : PA X es (rdN X.K fs)) : PA X (e :: es) (rdN X.K fun ρ => do let x ← f ρ; let xs ← fs ρ; some (x :: xs)) := by
  refine pa_le (pa_cons ha hr (star_of hs)) fun σ H Q hh => ?_
  obtain ⟨B, ρ, rs, hf, S, q⟩ := hh
  cases e1 : f ρ with
  | none => simp [e1] at hf
  | some x =>
  cases e2 : fs ρ with
  | none => simp [e1, e2] at hf
  | some xs =>
  obtain ⟨fa, da⟩ := x
  simp only [e1, e2, Option.bind_eq_bind, Option.bind_some, Option.some.injEq] at hf
  subst hf
  exact ⟨B, ρ, fa, da, e1, S, fun v H1 z1 r1 => ⟨B, ρ, xs, e2, S.ext z1, fun vs H2 z2 r2 p hp => q _ H2 (z1.trans z2) (.cons (r1.ext z2) (r2.back z1)) p hp⟩⟩
theorem s_mcl (C : Ctx lb X Γ) {kf : Nat} {x : Str} {p : Pos} {fi : Rho → Option (List (Fl × D))} (hfi : ∀ ρ, fs ρ = (fi ρ).map fun rs => rs ++ [(.fr, .dic [] [])]) (hkf : (Γ.mf.map (·.nm))[kf]? = some x) (hg : Gl X x) (hd : (x == ("__debug__" : Str)) = false) (hn : allNS (e :: es) = true) (ha : PA X (e :: es) (rdN X.K fi)) :
    PE X (.Call (.Name x p) (e :: es) [] pos) (rd X.K fun ρ => do let rs ← fs ρ; let q ← Γ.mf[kf]?; mclR q rs) := by
  refine ⟨fun pins s σ H Q I hh => ?_⟩
  obtain ⟨B, ρ, fl, d, hf, S, q⟩ := hh
  simp only [hfi] at hf
  cases e1 : fi ρ with
  | none => simp [e1] at hf
  | some rs =>
  rw [List.getElem?_map] at hkf
  cases e2 : Γ.mf[kf]? with
  | none => simp [e1, e2] at hf
  | some q0 =>
  rw [e2] at hkf
  simp only [Option.map_some, Option.some.injEq] at hkf
  subst hkf
  simp only [e1, e2, Option.map_some, Option.bind_eq_bind, Option.bind_some, mclR, List.getLast?_concat] at hf
  split at hf
  case isFalse => cases hf
  rename_i hz
  simp only [Bool.and_eq_true, decide_eq_true_eq] at hz
  obtain ⟨⟨⟨hz1, hz2⟩, hz3⟩, hz4⟩ := hz
  cases e3 : q0.F ((rs ++ [((.fr, .dic [] []) : Fl × D)]).map (·.2)) with
  | none => rw [e3] at hf; cases hf
  | some d' =>
  simp only [e3, Option.map_some, Option.some.injEq, Prod.mk.injEq] at hf
  obtain ⟨rfl, rfl⟩ := hf
  rw [List.length_append, List.length_singleton] at hz2
  obtain ⟨k, fa, fd, ps, hps, G, hr, hm, hk, hb⟩ := (C.mf kf q0 e2).ex
  simp only [allNS, Bool.and_eq_true] at hn
  refine (pe_call (E := fun _ _ _ => False) G hr hg hm hk hb .nil pass0 ha hd (star_of hn.1) (pl_of hn.2)).run pins s σ H Q I ?_
  refine ⟨B, ρ, rs, e1, S, fun vs H1 z rl a ha => ?_⟩
  have lv := rl.length
  have na : ∀ b o, H1 b = some o → b ≠ a := fun b o h z => by rw [z, ha] at h; cases h
  have zn : Ext H1 (upd H1 a (.dK [])) := Ext.new ha
  refine ⟨(rs ++ [((.fr, .dic [] []) : Fl × D)]).map (·.2), d', .dic [] [], a, e3, by rw [List.length_map, List.length_append, List.length_singleton]; exact hz2, by rw [List.append_nil, List.length_append, List.length_singleton]; omega, ?_, ?_, rfl, ?_, ?_, ?_⟩
  · rw [List.append_nil, List.getElem?_append_right (by omega)]
    have : q0.p - vs.length = 0 := by omega
    rw [this]; rfl
  · rw [List.map_append, List.getElem?_append_right (by rw [List.length_map]; omega), List.length_map]
    have : q0.p - rs.length = 0 := by omega
    rw [this]; rfl
  · simp only [Sep]
    exact ⟨a, [], rfl, rfl, upd_same, rfl, Rps.nil⟩
  · intro j dj vj hj g1 g2
    rw [List.append_nil] at g2
    have hj2 : j < vs.length := by
      have h1 : j < (vs ++ [V.ref a]).length := by
        rcases List.getElem?_eq_some_iff.mp g2 with ⟨h, _⟩; exact h
      rw [List.length_append, List.length_singleton] at h1
      omega
    rw [List.getElem?_append_left hj2] at g2
    rw [List.map_append, List.getElem?_append_left (by rw [List.length_map]; omega), List.getElem?_map] at g1
    cases g3 : rs[j]? with
    | none => rw [g3] at g1; cases g1
    | some r =>
    rw [g3] at g1
    cases g1
    exact (Rp.imp (fun b o hb _ => na b o hb) (resl_get rl g3 g2).any).ext zn
  · refine ⟨(z.trans zn).tabs S.tabs, ?_⟩
    intro v H2 kp hm' sp hv
    obtain rfl := hv hz4
    have hHa : H a = none := z.back ha
    have zz := z.trans zn
    refine q _ H2 ⟨fun b o hb nt => kp.to b o (fun e => by rw [e, hHa] at hb; cases hb) (zz.to b o hb nt) nt, fun h => kp.tab (zz.tab h), fun b h => zz.dom b (kp.dom b h)⟩ ?_
    exact Sep.imp (fun _ _ _ n => n.elim) (fun b _ _ t => by rw [t]; exact hHa) sp
theorem sortP_unique {l m : List (Int × Int)} (hp : m.Perm l) (hs : SrtO.Srtd SrtO.lexB m) : m = sortP l := by
  unfold sortP
  have h1 : (l.mergeSort (fun a b => !SrtO.lexB b a)).Pairwise (fun a b => (!SrtO.lexB b a) = true) := by
    refine List.pairwise_mergeSort ?_ ?_ l
    · intro a b c h1 h2
      simp only [Bool.not_eq_true'] at h1 h2 ⊢
      have x1 := SrtO.lexB_no.mp h1
      have x2 := SrtO.lexB_no.mp h2
      refine SrtO.lexB_no.mpr ?_
      omega
    · intro a b
      cases e : SrtO.lexB b a
      · simp
      · have x1 := SrtO.lexB_iff.mp e
        have : SrtO.lexB a b = false := SrtO.lexB_no.mpr (by omega)
        simp [this]
  have h2 : m.Perm (l.mergeSort (fun a b => !SrtO.lexB b a)) := hp.trans (List.mergeSort_perm l _).symm
  refine List.Perm.eq_of_pairwise (le := fun a b => SrtO.lexB b a = false) ?_ hs (h1.imp (by intro a b h; simpa using h)) h2
  intro a b _ _ h3 h4
  have x1 := SrtO.lexB_no.mp h3
  have x2 := SrtO.lexB_no.mp h4
  exact Prod.ext (by omega) (by omega)
theorem prsOf_spec {K : PySem.W.Frag} {N : Addr → Prop} {H : Hp} : ∀ {kvs : List (Key × V)} {ds : List D} {ps : List (Int × Int)}, prsOf (kvs.map (·.1)) ds = some ps → Rps K N H ds (kvs.map (·.2)) → kvs = ps.map L2.DX.entI
  | [], [], ps, h, r => by simp only [List.map_nil, prsOf, Option.some.injEq] at h; subst h; rfl
  | [], d :: ds, ps, h, r => by simp [prsOf] at h
  | kv :: kvs, [], ps, h, r => by
    rw [List.map_cons] at h
    cases hk : kv.1 <;> rw [hk] at h <;> simp [prsOf] at h
  | kv :: kvs, d :: ds, ps, h, r => by
    rw [List.map_cons] at h r
    obtain ⟨k, v⟩ := kv
    cases k with
    | inr x => simp [prsOf] at h
    | inl k =>
      cases d <;> simp only [prsOf, reduceCtorEq] at h
      rename_i i
      cases e : prsOf (kvs.map (·.1)) ds with
      | none => rw [e] at h; cases h
      | some ps' =>
      rw [e, Option.map_some, Option.some.injEq] at h
      subst h
      simp only [Rps] at r
      obtain ⟨w, ws, e0, r1, r2⟩ := r
      obtain ⟨rfl, rfl⟩ := List.cons.inj e0
      simp only [Rp] at r1
      rw [List.map_cons, ← prsOf_spec e r2, r1]
theorem s_srt (C : Ctx lb X Γ) {p ap cp : Pos} (hg : Gl X "sorted") (ha : PE X a (rd X.K f)) (hl : (ap.endLine == cp.line) = true) (hb : attributeBase a "items" X.env (eval a X.env) = eval a X.env) :
    PE X (.Call (.Name "sorted" p) [.Call (.Attribute a "items" ap) [] [] cp] [] pos) (rd X.K fun ρ => do let x ← f ρ; ofD (dSrt x.2)) := by
  refine ⟨fun pins s σ H Q I hh => ?_⟩
  obtain ⟨B, ρ, fl, d, hf, S, q⟩ := hh
  cases e1 : f ρ with
  | none => simp [e1] at hf
  | some x =>
  obtain ⟨fa, da⟩ := x
  simp only [e1, Option.bind_eq_bind, Option.bind_some] at hf
  cases da <;> simp only [dSrt, ofD, Option.map_none, reduceCtorEq] at hf
  rename_i ks ds
  cases e2 : prsOf ks ds with
  | none => rw [e2] at hf; cases hf
  | some ps =>
  rw [e2] at hf
  simp only [Option.map_some, Option.some.injEq, Prod.mk.injEq] at hf
  obtain ⟨rfl, rfl⟩ := hf
  have mB : X.mg "sorted" = none := C.blt _ (by simp [bltNames])
  have h1 : PE X (.Call (.Attribute a "items" ap) [] [] cp) (tBM0 X.K "dict" L2.DX.rItemsK (rd X.K f)) := pe_bm0 PySem.F.plainAttrs_dict PySem.F.slot_dict_items PySem.F.type_dict_items L2.DX.mt_itemsK ha hb hl
  refine (pe_callB (L2.DX.cr_sortedIK C.calm) hg mB boot_sorted (pa_cons h1 pa_nil (star_of rfl)) (by decide) (by decide) (star_of rfl) rfl).run pins s σ H Q I ?_
  refine ⟨B, ρ, fa, _, e1, S, fun v H1 z r => ?_⟩
  obtain ⟨pa, kvs, rfl, t, ek, rr⟩ := r.dic
  subst ek
  have ek := prsOf_spec e2 rr
  subst ek
  refine ⟨.inr (.inr (.inl ⟨rfl, .inl ⟨_, t⟩⟩)), pa, _, rfl, rfl, t, fun pv hpv => ?_⟩
  have np : pv ≠ pa := fun w => by rw [w, t] at hpv; cases hpv
  refine ⟨pv, pa, ps, rfl, upd_same, by rw [upd_ne (fun w => np w.symm)]; exact t, fun H2 l qs g hperm hsort hl0 hlst hq => ?_⟩
  have E0 : Ext H1 (upd H1 pv (L2.DX.itemsO pv pa)) := Ext.new hpv
  have E1 : Ext H1 H2 := E0.trans (Ext.of g)
  refine q _ H2 (z.trans E1) ?_
  have := sortP_unique hperm hsort
  rw [← this]
  have hlH : H1 l = none := E0.dom l hl0
  simp only [Res, Sep]
  refine ⟨l, _, rfl, z.back hlH, hlst, ?_⟩
  have gen : ∀ (zs : List (Addr × Int × Int)), (∀ w ∈ zs, H2 w.1 = some (.tup [.int w.2.1, .int w.2.2])) → ∀ N, Rps X.K N H2 ((zs.map (·.2)).map prD) (zs.map fun w => V.ref w.1) := by
    intro zs
    induction zs with
    | nil => intro _ N; exact Rps.nil
    | cons w zs ih =>
      intro hw N
      simp only [List.map_cons]
      refine Rps.cons ?_ (ih (fun y hy => hw y (List.mem_cons_of_mem _ hy)) N)
      unfold prD
      simp only [Rp]
      exact ⟨w.1, _, rfl, SqT.of (hw w (List.mem_cons_self ..)), Rps.cons (by simp only [Rp]) (Rps.one (by simp only [Rp]))⟩
  exact gen qs hq _
theorem lookD_none {K : PySem.W.Frag} {N : Addr → Prop} {H : Hp} : ∀ {kvs : List (Key × V)} {ds : List D} {q : Key}, Rps K N H ds (kvs.map (·.2)) → lookD (kvs.map (·.1)) ds q = none → valV kvs q = none
  | [], ds, q, r, h => rfl
  | kv :: kvs, [], q, r, h => by simp only [Rps, List.map_cons, reduceCtorEq] at r
  | kv :: kvs, d :: ds, q, r, h => by
    simp only [List.map_cons, Rps] at r
    obtain ⟨w, ws, e0, r1, r2⟩ := r
    obtain ⟨rfl, rfl⟩ := List.cons.inj e0
    simp only [List.map_cons, lookD] at h
    split at h
    · cases h
    · rename_i hq
      rw [valV_neg (fun z => hq z.symm)]
      exact lookD_none r2 h
theorem dget_val {B : Bs} {ρ : Rho} {σ : L2.St} {H H2 : Hp} {fa : Fl} {da db : D} {o : Option D} {x y : V} (h : dGet da db = some o) (r1 : Res X.K B ρ σ H H2 fa da x) {H0 : Hp} {fb : Fl} (r2 : Res X.K B ρ σ H0 H2 fb db y) :
    ∃ p ov, x = .ref p ∧ IsD H2 p ∧ DGet H2 p y ov ∧ (∀ d, o = some d → ∃ v, ov = some v ∧ Rp X.K (Nsh B ρ σ) H2 d v) ∧ (o = none → ov = none) := by
  cases da <;> simp only [dGet, reduceCtorEq] at h
  rename_i ks ds
  cases e4 : keyD db with
  | none => rw [e4] at h; cases h
  | some qk =>
  rw [e4, Option.map_some, Option.some.injEq] at h
  subst h
  have hq : y = kV qk := by
    cases db <;> simp only [keyD, reduceCtorEq, Option.some.injEq] at e4
    · subst e4; exact r2.int
    · subst e4; exact r2.str
  obtain ⟨p, kvs, rfl, t, ek, r⟩ := r1.dic
  subst ek
  rw [hq]
  refine ⟨p, _, rfl, .inl ⟨_, .inl t⟩, DGet.k t, ?_⟩
  exact ⟨fun d e5 => let ⟨v, hv, rv⟩ := lookD_val r e5; ⟨v, hv, rv⟩, fun e5 => lookD_none r e5⟩
theorem s_dget1 (C : Ctx lb X Γ) {ap cp : Pos} (ha : PE X a (rd X.K f)) (hb : PE X b (rd X.K g)) (hs : notStar b = true) (hl : (ap.endLine == cp.line) = true) (hbase : attributeBase a "get" X.env (eval a X.env) = eval a X.env) :
    PE X (.Call (.Attribute a "get" ap) [b] [] cp) (rd X.K fun ρ => do let x ← f ρ; let y ← g ρ; (dGet x.2 y.2).map fun o => (.sh, o.getD .non)) := by
  have hu : X.A.units + 1 < cLine := by have := C.units; omega
  have hst := star_of (X := X) (es := []) hs
  refine pe_le (pe_dget1 hu ha hb ⟨hbase, by rw [hst]; rfl, hl, by rw [hst]; rfl⟩) fun σ H Q hh => ?_
  obtain ⟨B, ρ, fl, d, hf, S, q⟩ := hh
  cases e1 : f ρ with
  | none => simp [e1] at hf
  | some x =>
  cases e2 : g ρ with
  | none => simp [e1, e2] at hf
  | some y =>
  obtain ⟨fa, da⟩ := x
  obtain ⟨fb, db⟩ := y
  simp only [e1, e2, Option.bind_eq_bind, Option.bind_some] at hf
  cases e3 : dGet da db with
  | none => simp [e3] at hf
  | some o =>
  simp only [e3, Option.map_some, Option.some.injEq, Prod.mk.injEq] at hf
  obtain ⟨rfl, rfl⟩ := hf
  refine ⟨B, ρ, fa, da, e1, S, fun x H1 z r => ?_⟩
  cases da <;> simp only [dGet, reduceCtorEq] at e3
  rename_i ks ds
  obtain ⟨p, kvs, rfl, t, ek, rr⟩ := id r.dic
  refine ⟨p, rfl, .inl ⟨_, .inl t⟩, B, ρ, fb, db, e2, S.ext z, fun y H2 z2 r2 => ?_⟩
  obtain ⟨p', ov, ep, _, h1, h2⟩ := dget_val (x := .ref p) (y := y) (db := db) (o := o) (da := .dic ks ds) e3 (r.ext z2) r2
  cases ep
  refine ⟨ov, h1, q _ H2 (z.trans z2) ?_⟩
  cases o with
  | none =>
    rw [h2.2 rfl]
    simp only [Option.getD_none, Res, Rp]
  | some d =>
    obtain ⟨v, rfl, rv⟩ := h2.1 d rfl
    exact rv
theorem s_dget2 (C : Ctx lb X Γ) {ap cp : Pos} (ha : PE X a (rd X.K f)) (hb : PE X b (rd X.K g)) (hc : PE X c (rd X.K h)) (hs : notStar b = true) (hs2 : notStar c = true) (hl : (ap.endLine == cp.line) = true) (hbase : attributeBase a "get" X.env (eval a X.env) = eval a X.env) :
    PE X (.Call (.Attribute a "get" ap) [b, c] [] cp) (rd X.K fun ρ => do let x ← f ρ; let y ← g ρ; let z ← h ρ; if shb z.1 z.2 then (dGet x.2 y.2).map fun o => (.sh, o.getD z.2) else none) := by
  have hu : X.A.units + 1 < cLine := by have := C.units; omega
  have hst2 := star_of (X := X) (es := []) hs2
  have hst := star_of (X := X) (es := [c]) hs
  refine pe_le (pe_dget2 hu ha hb hc ⟨hbase, by rw [hst, hst2]; rfl, hl, by rw [hst, hst2]; rfl⟩) fun σ H Q hh => ?_
  obtain ⟨B, ρ, fl, d, hf, S, q⟩ := hh
  cases e1 : f ρ with
  | none => simp [e1] at hf
  | some x =>
  cases e2 : g ρ with
  | none => simp [e1, e2] at hf
  | some y =>
  cases e0 : h ρ with
  | none => simp [e1, e2, e0] at hf
  | some w =>
  obtain ⟨fa, da⟩ := x
  obtain ⟨fb, db⟩ := y
  obtain ⟨fc, dc⟩ := w
  simp only [e1, e2, e0, Option.bind_eq_bind, Option.bind_some] at hf
  split at hf
  case isFalse => cases hf
  rename_i hshb
  cases e3 : dGet da db with
  | none => simp [e3] at hf
  | some o =>
  simp only [e3, Option.map_some, Option.some.injEq, Prod.mk.injEq] at hf
  obtain ⟨rfl, rfl⟩ := hf
  refine ⟨B, ρ, fa, da, e1, S, fun x H1 z r => ?_⟩
  cases da <;> simp only [dGet, reduceCtorEq] at e3
  rename_i ks ds
  obtain ⟨p, kvs, rfl, t, ek, rr⟩ := id r.dic
  refine ⟨p, rfl, .inl ⟨_, .inl t⟩, B, ρ, fb, db, e2, S.ext z, fun y H2 z2 r2 => ⟨B, ρ, fc, dc, e0, (S.ext z).ext z2, fun w H3 z3 r3 => ?_⟩⟩
  obtain ⟨p', ov, ep, _, h1, h2⟩ := dget_val (x := .ref p) (y := y) (db := db) (o := o) (da := .dic ks ds) e3 ((r.ext z2).ext z3) (r2.ext z3)
  cases ep
  refine ⟨ov, h1, q _ H3 ((z.trans z2).trans z3) ?_⟩
  cases o with
  | none =>
    rw [h2.2 rfl]
    exact r3.shb ((S.ext z).ext z2) hshb
  | some d =>
    obtain ⟨v, rfl, rv⟩ := h2.1 d rfl
    exact rv
theorem s_lrev {k : Nat} {p1 p2 p3 : Pos} {F : Rho → Option (Fl × D)} (hF : F = fun ρ => do let x ← f ρ; match x.2 with | .lst ds => some (.fr, .lst ds.reverse) | .tup ds => some (.fr, .tup ds.reverse) | _ => none) (ha : PE X a (rd X.K f)) :
    PE X (.Subscript a (.Slice none none (some (.UnaryOp .USub (.Constant (.int 1) k p1) p2)) p3) pos) (rd X.K F) := by
  refine ⟨fun pins s σ H Q I hh => ?_⟩
  obtain ⟨B, ρ, fl, d, hf, S, q⟩ := hh
  rw [hF] at hf
  cases e1 : f ρ with
  | none => simp [e1] at hf
  | some x =>
  obtain ⟨fa, da⟩ := x
  simp only [e1, Option.bind_eq_bind, Option.bind_some] at hf
  cases da <;> simp only [reduceCtorEq, Option.some.injEq, Prod.mk.injEq] at hf
  · obtain ⟨rfl, rfl⟩ := hf
    refine (pe_revT ha).run pins s σ H Q I ⟨B, ρ, fa, _, e1, S, fun x H1 z r => ?_⟩
    obtain ⟨pa, vs, rfl, t, rr⟩ := r.tup
    exact ⟨pa, vs, rfl, t, fun p hp => q _ _ (z.trans (Ext.new hp)) (Res.newT hp rr.reverse)⟩
  · obtain ⟨rfl, rfl⟩ := hf
    refine (pe_revL ha).run pins s σ H Q I ⟨B, ρ, fa, _, e1, S, fun x H1 z r => ?_⟩
    obtain ⟨pa, vs, rfl, t, rr⟩ := r.lst S
    exact ⟨pa, vs, rfl, SqL.of t, fun p hp => q _ _ (z.trans (Ext.new hp)) (Res.newL S z hp rr.reverse)⟩
theorem s_lrv (C : Ctx lb X Γ) {p p2 pos2 : Pos} {F : Rho → Option (Fl × D)} (hF : F = fun ρ => do let x ← f ρ; match x.2 with | .lst ds => some (.fr, .lst ds.reverse) | _ => none) (hg : Gl X "list") (hg2 : Gl X "reversed") (hns : notStar a = true) (ha : PE X a (rd X.K f)) :
    PE X (.Call (.Name "list" p) [.Call (.Name "reversed" p2) [a] [] pos2] [] pos) (rd X.K F) := by
  refine ⟨fun pins s σ H Q I hh => ?_⟩
  obtain ⟨B, ρ, fl, d, hf, S, q⟩ := hh
  rw [hF] at hf
  cases e1 : f ρ with
  | none => simp [e1] at hf
  | some x =>
  obtain ⟨fa, da⟩ := x
  simp only [e1, Option.bind_eq_bind, Option.bind_some] at hf
  cases da <;> simp only [reduceCtorEq, Option.some.injEq, Prod.mk.injEq] at hf
  obtain ⟨rfl, rfl⟩ := hf
  refine (L2.DX.pe_lstRev C.calm hg (C.blt _ (by simp [bltNames])) hg2 (C.blt _ (by simp [bltNames])) ha (star_of hns) (star_of rfl)).run pins s σ H Q I ⟨B, ρ, fa, _, e1, S, fun x H1 z r => ?_⟩
  obtain ⟨pa, vs, rfl, t, rr⟩ := r.lst S
  exact ⟨pa, vs, rfl, SqL.of t, fun p hp => q _ _ (z.trans (Ext.new hp)) (Res.newL S z hp rr.reverse)⟩
end
end DD
set_option Elab.async false
set_option linter.all false
set_option maxRecDepth 100000
set_option maxHeartbeats 2000000
namespace DD
open PySem L2 PyProof.Rows
variable [Tb : Tbl] {lb : Bool}
section
variable {K : PySem.W.Frag} {B : Bs} {ρ ρ' : Rho} {σ σ' : L2.St} {H H1 H2 H' : Hp} {fl : Fl} {d : D} {v : V}
theorem own_set_sh {i : Nat} {a : Addr} (hl : ρ.length = σ.length) (h : Own (setS ρ i (.sh d)) (σ.set i (some v)) a) : Own ρ σ a := by
  obtain ⟨j, e, h1, h2⟩ := h
  unfold setS at h1
  by_cases hj : i = j
  · subst hj
    by_cases hi : i < ρ.length
    · rw [List.getElem?_set_self hi] at h1; cases h1
    · rw [List.getElem?_eq_none (by simpa using hi)] at h1; cases h1
  · rw [List.getElem?_set_ne hj] at h1 h2
    exact ⟨j, e, h1, h2⟩
theorem pin_set {i : Nat} {u : Option V} (hP : ∀ a, (i, a) ∉ B.P) (h : ∀ (i : Nat) (a : Addr), (i, a) ∈ B.P → σ[i]? = some (some (.ref a))) : ∀ (j : Nat) (a : Addr), (j, a) ∈ B.P → (σ.set i u)[j]? = some (some (.ref a)) := fun j a e => by
  have : i ≠ j := fun z => hP a (by rw [z]; exact e)
  rw [List.getElem?_set_ne this]; exact h j a e
theorem clo_set {sl : Option Sl} (hsl : ∀ v, sl ≠ some (.cl v)) {i j : Nat} {v : CV} (h : (List.set ρ i sl)[j]? = some (some (.cl v))) : i ≠ j ∧ ρ[j]? = some (some (.cl v)) := by
  by_cases e : i = j
  · subst e
    by_cases hi : i < ρ.length
    · rw [List.getElem?_set_self hi] at h
      exact absurd (Option.some.inj h) (hsl v)
    · rw [List.getElem?_eq_none (by simpa using hi)] at h; cases h
  · rw [List.getElem?_set_ne e] at h
    exact ⟨e, h⟩
theorem StOk.set (S : StOk K B ρ σ H) (i : Nat) (hP : ∀ a, (i, a) ∉ B.P) (r : Rp K (Nsh B ρ σ) H d v) : StOk K B (setS ρ i (.sh d)) (σ.set i (some v)) H := by
  have mono : ∀ a o, H a = some o → Nsh B ρ σ a → Nsh B (setS ρ i (.sh d)) (σ.set i (some v)) a := fun a o _ n => ⟨n.1, fun z => n.2 (own_set_sh S.len z)⟩
  refine ⟨by simp [setS, S.len], S.keep, S.fresh, fun j e h => ?_, fun j e h => ?_, fun j k e e' a h1 h2 h3 h4 => ?_, pin_set hP S.pin, S.tabs, fun j w h => ?_⟩
  · by_cases hj : i = j
    · subst hj
      by_cases hi : i < ρ.length
      · unfold setS at h
        rw [List.getElem?_set_self hi] at h
        cases h
        exact ⟨v, List.getElem?_set_self (by rw [← S.len]; exact hi), Rp.imp mono r⟩
      · rw [List.getElem?_eq_none (by simpa [setS] using hi)] at h; cases h
    · unfold setS at h
      rw [List.getElem?_set_ne hj] at h
      obtain ⟨w, h1, h2⟩ := S.sh j e h
      exact ⟨w, by rw [List.getElem?_set_ne hj]; exact h1, Rp.imp mono h2⟩
  · by_cases hj : i = j
    · subst hj
      unfold setS at h
      by_cases hi : i < ρ.length
      · rw [List.getElem?_set_self hi] at h; cases h
      · rw [List.getElem?_eq_none (by simpa using hi)] at h; cases h
    · unfold setS at h
      rw [List.getElem?_set_ne hj] at h
      obtain ⟨w, h1, h2, h3⟩ := S.ow j e h
      exact ⟨w, by rw [List.getElem?_set_ne hj]; exact h1, h2, Sep.imp mono (fun _ _ _ t => t) h3⟩
  · have ne : ∀ {m : Nat} {e : D}, (setS ρ i (.sh d))[m]? = some (some (.ow e)) → i ≠ m := by
      intro m e h z
      subst z
      unfold setS at h
      by_cases hi : i < ρ.length
      · rw [List.getElem?_set_self hi] at h; cases h
      · rw [List.getElem?_eq_none (by simpa using hi)] at h; cases h
    have n1 := ne h1
    have n2 := ne h2
    unfold setS at h1 h2
    rw [List.getElem?_set_ne n1] at h1 h3
    rw [List.getElem?_set_ne n2] at h2 h4
    exact S.dis j k e e' a h1 h2 h3 h4
  · obtain ⟨n, h⟩ := clo_set (by intro v z; cases z) h
    obtain ⟨a1, a2, a3⟩ := S.clo j w h
    exact ⟨by rw [List.getElem?_set_ne n]; exact a1, a2, Rps.imp mono a3⟩
/-- a slot given a new list, a new dict -/
theorem StOk.setOw (S : StOk K B ρ σ H) (e : Ext H H') (i : Nat) (hP : ∀ a, (i, a) ∉ B.P) (hm : isMut d = true) (r : Sep K (Nsh B ρ σ) (fun a => H a = none) H' d v) : StOk K B (setS ρ i (.ow d)) (σ.set i (some v)) H' := by
  obtain ⟨p, rfl⟩ : ∃ p, v = .ref p := by
    cases d <;> simp [isMut] at hm <;> simp only [Sep] at r <;> obtain ⟨p, _, e, _⟩ := r <;> exact ⟨p, e⟩
  obtain ⟨op, hp, _, hpn⟩ := r.tracked hm
  have own : ∀ a, Own (setS ρ i (.ow d)) (σ.set i (some (.ref p))) a → Own ρ σ a ∨ a = p := by
    rintro a ⟨j, e', h1, h2⟩
    unfold setS at h1
    by_cases hj : i = j
    · subst hj
      by_cases hi : i < σ.length
      · rw [List.getElem?_set_self hi] at h2; cases h2; exact .inr rfl
      · rw [List.getElem?_eq_none (by simpa using hi)] at h2; cases h2
    · rw [List.getElem?_set_ne hj] at h1 h2
      exact .inl ⟨j, e', h1, h2⟩
  have mono : ∀ a o, H a = some o → Nsh B ρ σ a → Nsh B (setS ρ i (.ow d)) (σ.set i (some (.ref p))) a := fun a o q n => ⟨n.1, fun z => (own a z).elim n.2 fun w => by
    subst w; rw [q] at hpn; cases hpn⟩
  have mono' : ∀ a o, H' a = some o → (Nsh B ρ σ a ∧ a ≠ p) → Nsh B (setS ρ i (.ow d)) (σ.set i (some (.ref p))) a ∧ a ≠ p := fun a o q n => ⟨⟨n.1.1, fun z => (own a z).elim n.1.2 n.2⟩, n.2⟩
  refine ⟨by simp [setS, S.len], S.keep.trans e, fun a h => S.fresh a (e.back h), fun j e' h => ?_, fun j e' h => ?_, fun j k e' e'' a h1 h2 h3 h4 => ?_, pin_set hP S.pin, e.tabs S.tabs, fun j w h => ?_⟩
  · by_cases hj : i = j
    · subst hj
      unfold setS at h
      by_cases hi : i < ρ.length
      · rw [List.getElem?_set_self hi] at h; cases h
      · rw [List.getElem?_eq_none (by simpa using hi)] at h; cases h
    · unfold setS at h
      rw [List.getElem?_set_ne hj] at h
      obtain ⟨w, h1, h2⟩ := S.sh j e' h
      exact ⟨w, by rw [List.getElem?_set_ne hj]; exact h1, Rp.ext e (Rp.imp mono h2)⟩
  · by_cases hj : i = j
    · subst hj
      unfold setS at h
      by_cases hi : i < ρ.length
      · rw [List.getElem?_set_self hi] at h
        cases h
        refine ⟨.ref p, List.getElem?_set_self (by rw [← S.len]; exact hi), hm, ?_⟩
        have tp : B.S p ∧ B.N0 p ∧ B.G p = none := ⟨(S.fresh p hpn).1, (S.fresh p hpn).2, by
          cases q : B.G p with
          | none => rfl
          | some o => rw [S.keep.dom p hpn] at q; cases q⟩
        revert r
        cases d <;> simp [isMut] at hm <;> intro r <;> simp only [Sep] at r ⊢
        · obtain ⟨a, vs, ea, _, t, rr⟩ := r
          cases ea
          exact ⟨p, vs, rfl, tp, t, Rps.imp mono' rr⟩
        · obtain ⟨a, vs, ea, _, t, ek, rr⟩ := r
          cases ea
          exact ⟨p, vs, rfl, tp, t, ek, Rps.imp mono' rr⟩
        · obtain ⟨a, vs, ea, _, t, ek, rr⟩ := r
          cases ea
          exact ⟨p, vs, rfl, tp, t, ek, Rps.imp mono' rr⟩
      · rw [List.getElem?_eq_none (by simpa using hi)] at h; cases h
    · unfold setS at h
      rw [List.getElem?_set_ne hj] at h
      obtain ⟨w, h1, h2, h3⟩ := S.ow j e' h
      exact ⟨w, by rw [List.getElem?_set_ne hj]; exact h1, h2, Sep.ext e (Sep.imp mono (fun _ _ _ t => t) h3)⟩
  · have tr : ∀ {m : Nat} {x : D}, i ≠ m → (setS ρ i (.ow d))[m]? = some (some (.ow x)) → (σ.set i (some (.ref p)))[m]? = some (some (.ref a)) → ρ[m]? = some (some (.ow x)) ∧ σ[m]? = some (some (.ref a)) ∧ a ≠ p := by
      intro m x nm g1 g2
      unfold setS at g1
      rw [List.getElem?_set_ne nm] at g1 g2
      obtain ⟨o, q, _⟩ := S.own ⟨m, x, g1, g2⟩
      exact ⟨g1, g2, fun z => by subst z; rw [hpn] at q; cases q⟩
    have at_i : ∀ {m : Nat}, i = m → (σ.set i (some (.ref p)))[m]? = some (some (.ref a)) → a = p := by
      intro m z g
      subst z
      by_cases hi : i < σ.length
      · rw [List.getElem?_set_self hi] at g; cases g; rfl
      · rw [List.getElem?_eq_none (by simpa using hi)] at g; cases g
    by_cases hj : i = j
    · by_cases hk : i = k
      · exact hj.symm.trans hk
      · exact absurd (at_i hj h3) (tr hk h2 h4).2.2
    · by_cases hk : i = k
      · exact absurd (at_i hk h4) (tr hj h1 h3).2.2
      · obtain ⟨a1, a2, _⟩ := tr hj h1 h3
        obtain ⟨b1, b2, _⟩ := tr hk h2 h4
        exact S.dis j k _ _ a a1 b1 a2 b2
  · obtain ⟨n, h⟩ := clo_set (by intro v z; cases z) h
    obtain ⟨a1, a2, a3⟩ := S.clo j w h
    exact ⟨by rw [List.getElem?_set_ne n]; exact a1, e.code a2, Rps.ext e (Rps.imp mono a3)⟩
/-- some slots forgotten; the rest as they were -/
theorem StOk.sub (S : StOk K B ρ σ H) (hl : ρ'.length = σ'.length) (hP : ∀ i a, (i, a) ∈ B.P → σ'[i]? = σ[i]?) (h : ∀ (i : Nat) sl, ρ'[i]? = some (some sl) → ρ[i]? = some (some sl) ∧ σ'[i]? = σ[i]?) : StOk K B ρ' σ' H := by
  have own : ∀ a, Own ρ' σ' a → Own ρ σ a := by
    rintro a ⟨i, d, h1, h2⟩
    obtain ⟨g1, g2⟩ := h i _ h1
    exact ⟨i, d, g1, g2 ▸ h2⟩
  have mono : ∀ a o, H a = some o → Nsh B ρ σ a → Nsh B ρ' σ' a := fun a o _ n => ⟨n.1, fun z => n.2 (own a z)⟩
  refine ⟨hl, S.keep, S.fresh, fun j e h1 => ?_, fun j e h1 => ?_, fun j k e e' a h1 h2 h3 h4 => ?_, fun i a e => (hP i a e).trans (S.pin i a e), S.tabs, fun j w h1 => ?_⟩
  · obtain ⟨g1, g2⟩ := h j _ h1
    obtain ⟨w, q1, q2⟩ := S.sh j e g1
    exact ⟨w, g2.trans q1, Rp.imp mono q2⟩
  · obtain ⟨g1, g2⟩ := h j _ h1
    obtain ⟨w, q1, q2, q3⟩ := S.ow j e g1
    exact ⟨w, g2.trans q1, q2, Sep.imp mono (fun _ _ _ t => t) q3⟩
  · obtain ⟨g1, g2⟩ := h j _ h1
    obtain ⟨g3, g4⟩ := h k _ h2
    exact S.dis j k e e' a g1 g3 (g2 ▸ h3) (g4 ▸ h4)
  · obtain ⟨g1, g2⟩ := h j _ h1
    obtain ⟨a1, a2, a3⟩ := S.clo j w g1
    exact ⟨g2.trans a1, a2, Rps.imp mono a3⟩
theorem wipeR_len (ρ : Rho) : ∀ vs : List Nat, (wipeR ρ vs).length = ρ.length
  | [] => rfl
  | v :: vs => by unfold wipeR; rw [List.length_set, wipeR_len ρ vs]
theorem wipeR_out {i : Nat} : ∀ {vs : List Nat}, i ∉ vs → (wipeR ρ vs)[i]? = ρ[i]?
  | [], _ => rfl
  | v :: vs, h => by
    unfold wipeR
    rw [List.getElem?_set_ne (fun z => h (by simp [z])), wipeR_out (fun z => h (by simp [z]))]
theorem wipeR_in {i : Nat} {sl : Sl} : ∀ {vs : List Nat}, (wipeR ρ vs)[i]? = some (some sl) → i ∉ vs
  | [], _ => by simp
  | v :: vs, h => by
    unfold wipeR at h
    by_cases e : v = i
    · subst e
      by_cases hi : v < (wipeR ρ vs).length
      · rw [List.getElem?_set_self hi] at h; cases h
      · rw [List.getElem?_eq_none (by simpa using hi)] at h; cases h
    · rw [List.getElem?_set_ne e] at h
      have := wipeR_in h
      simp only [List.mem_cons, not_or]
      exact ⟨fun z => e z.symm, this⟩
theorem StOk.wipe (S : StOk K B ρ σ H) (hP : B.P = []) (vs : List Nat) : StOk K B (wipeR ρ vs) (wipe σ vs) H :=
  S.sub (by rw [wipeR_len, wipe_length, S.len]) (fun i a e => by rw [hP] at e; cases e) fun i sl h => by
    have hi := wipeR_in h
    rw [wipeR_out hi] at h
    exact ⟨h, wipe_out hi⟩
theorem own_wipe {vs : List Nat} {a : Addr} (hn : noOwn ρ vs = true) (h : Own ρ σ a) : Own (wipeR ρ vs) (L2.wipe σ vs) a := by
  obtain ⟨i, d, h1, h2⟩ := h
  have hi : i ∉ vs := fun z => by
    have := List.all_eq_true.mp hn i z
    rw [h1] at this
    simp at this
  exact ⟨i, d, by rw [wipeR_out hi]; exact h1, by rw [wipe_out hi]; exact h2⟩
theorem wipe_at (σ : L2.St) : ∀ (vs : List Nat) (j : Nat), (L2.wipe σ vs)[j]? = if j ∈ vs then (if j < σ.length then some none else none) else σ[j]?
  | [], j => by simp [L2.wipe]
  | v :: vs, j => by
    unfold L2.wipe
    by_cases e : v = j
    · subst e
      simp only [List.mem_cons, true_or, if_true]
      by_cases hi : v < σ.length
      · rw [List.getElem?_set_self (by rw [wipe_length]; exact hi), if_pos hi]
      · rw [List.getElem?_eq_none (by simpa [wipe_length] using hi), if_neg hi]
    · rw [List.getElem?_set_ne e, wipe_at σ vs j]
      have e' : ¬ j = v := fun z => e z.symm
      simp only [List.mem_cons, e', false_or]
theorem wipe_same {σ τ : L2.St} {vs : List Nat} (hl : σ.length = τ.length) (h : ∀ j, j ∉ vs → σ[j]? = τ[j]?) : L2.wipe σ vs = L2.wipe τ vs := by
  apply List.ext_getElem?
  intro j
  rw [wipe_at, wipe_at]
  by_cases hj : j ∈ vs
  · rw [if_pos hj, if_pos hj, hl]
  · rw [if_neg hj, if_neg hj, h j hj]
/-- a new cell is shut off -/
theorem StOk.hide (S : StOk K B ρ σ H) {p : Addr} {o : HO} (hp : H p = none) (e : Ext H H') (h : H' p = some o) : StOk K { B with S := fun a => B.S a ∧ a ≠ p, P := [] } ρ σ H' := by
  have ne : ∀ {a o}, H a = some o → a ≠ p := fun q z => by subst z; rw [hp] at q; cases q
  refine ⟨S.len, S.keep.trans e, fun a q => ⟨⟨(S.fresh a (e.back q)).1, fun z => by subst z; rw [h] at q; cases q⟩, (S.fresh a (e.back q)).2⟩, fun j d q => ?_, fun j d q => ?_, S.dis, (fun _ _ e => by cases e), e.tabs S.tabs, fun j w q => ?_⟩
  · obtain ⟨w, q1, q2⟩ := S.sh j d q
    exact ⟨w, q1, Rp.ext e (Rp.imp (fun a o t n => ⟨⟨n.1, ne t⟩, n.2⟩) q2)⟩
  · obtain ⟨w, q1, q2, q3⟩ := S.ow j d q
    exact ⟨w, q1, q2, Sep.ext e (Sep.imp (fun a o t n => ⟨⟨n.1, ne t⟩, n.2⟩) (fun a o t n => ⟨⟨n.1, ne t⟩, n.2.1, n.2.2⟩) q3)⟩
  · obtain ⟨a1, a2, a3⟩ := S.clo j w q
    exact ⟨a1, e.code a2, Rps.ext e (Rps.imp (fun a o t n => ⟨⟨n.1, ne t⟩, n.2⟩) a3)⟩
def gsR : List Nat → TGs
  | [] => gNil
  | i :: is => gCons (gName i) (gsR is)
def tgR (K : PySem.W.Frag) : Tg → TG
  | .nm i => gName i
  | .tp is => fun v σ H Q => gTup K is.length (gsR is) v σ H Q ∨ gLst K is.length (gsR is) v σ H Q
def tgS : Tg → List Nat
  | .nm i => [i]
  | .tp is => is
theorem binds_ok : ∀ {is : List Nat} {ds : List D} {vs : List V} {ρ : Rho} {σ : L2.St}, (∀ i ∈ is, ∀ a, (i, a) ∉ B.P) → is.length = ds.length → StOk K B ρ σ H → Rps K (Nsh B ρ σ) H ds vs →
    ∃ σ', StOk K B (setSs ρ is ds) σ' H ∧ (∀ Q : L2.St → Hp → Prop, Q σ' H → gsR is vs σ H Q) ∧ σ'.length = σ.length ∧ (∀ j, j ∉ is → σ'[j]? = σ[j]?) ∧ (∀ a, Own (setSs ρ is ds) σ' a → Own ρ σ a) ∧ (∀ j, j ∉ is → (setSs ρ is ds)[j]? = ρ[j]?)
  | [], [], vs, ρ, σ, _, _, S, r => by
    simp only [Rps] at r
    subst r
    exact ⟨σ, S, fun Q q => ⟨rfl, q⟩, rfl, fun _ _ => rfl, fun _ z => z, fun _ _ => rfl⟩
  | i :: is, d :: ds, vs, ρ, σ, hP, hl, S, r => by
    simp only [Rps] at r
    obtain ⟨v, ws, rfl, r1, r2⟩ := r
    have S1 := S.set i (hP i (by simp)) r1
    have r2' : Rps K (Nsh B (setS ρ i (.sh d)) (σ.set i (some v))) H ds ws := Rps.imp (fun a o _ n => ⟨n.1, fun z => n.2 (own_set_sh S.len z)⟩) r2
    obtain ⟨σ', S2, q2, l2, o2, w2, u2⟩ := binds_ok (is := is) (fun j hj => hP j (List.mem_cons_of_mem _ hj)) (by simpa using hl) S1 r2'
    refine ⟨σ', S2, fun Q q => ⟨v, ws, rfl, q2 Q q⟩, by rw [l2, List.length_set], fun j hj => ?_, fun a z => own_set_sh S.len (w2 a z), fun j hj => ?_⟩
    · simp only [List.mem_cons, not_or] at hj
      rw [o2 j hj.2, List.getElem?_set_ne (fun z => hj.1 z.symm)]
    · simp only [List.mem_cons, not_or] at hj
      show (setSs (setS ρ i (.sh d)) is ds)[j]? = _
      rw [u2 j hj.2]
      unfold setS
      rw [List.getElem?_set_ne (fun z => hj.1 z.symm)]
  | [], d :: ds, vs, ρ, σ, _, hl, _, _ => by simp at hl
  | i :: is, [], vs, ρ, σ, _, hl, _, _ => by simp at hl
theorem bind_ok {t : Tg} (hP : ∀ i ∈ tgS t, ∀ a, (i, a) ∉ B.P) (S : StOk K B ρ σ H) (r : Rp K (Nsh B ρ σ) H d v) (hb : bindT t d ρ = some ρ') :
    ∃ σ', StOk K B ρ' σ' H ∧ (∀ Q : L2.St → Hp → Prop, Q σ' H → tgR K t v σ H Q) ∧ σ'.length = σ.length ∧ (∀ j, j ∉ tgS t → σ'[j]? = σ[j]?) ∧ (∀ a, Own ρ' σ' a → Own ρ σ a) ∧ (∀ j, j ∉ tgS t → ρ'[j]? = ρ[j]?) := by
  cases t with
  | nm i =>
    simp only [bindT, Option.some.injEq] at hb
    subst hb
    exact ⟨_, S.set i (hP i (by simp [tgS])) r, fun Q q => q, by rw [List.length_set], fun j hj => List.getElem?_set_ne (fun z => hj (by simp [tgS, z])), fun a z => own_set_sh S.len z, fun j hj => List.getElem?_set_ne (fun z => hj (by simp [tgS, z]))⟩
  | tp is =>
    cases d <;> simp only [bindT, reduceCtorEq] at hb
    · rename_i ds
      split at hb
      · rename_i hl
        simp only [Option.some.injEq] at hb
        subst hb
        simp only [Rp] at r
        obtain ⟨a, vs, rfl, t, r⟩ := r
        obtain ⟨σ', S2, q2, l2, o2, w2, u2⟩ := binds_ok hP hl S r
        exact ⟨σ', S2, fun Q q => .inl ⟨a, vs, rfl, t, by rw [← r.length, hl], q2 Q q⟩, l2, o2, w2, u2⟩
      · cases hb
    · rename_i ds
      split at hb
      · rename_i hl
        simp only [Option.some.injEq] at hb
        subst hb
        simp only [Rp] at r
        obtain ⟨a, vs, rfl, _, t, r⟩ := r
        obtain ⟨σ', S2, q2, l2, o2, w2, u2⟩ := binds_ok hP hl S r
        exact ⟨σ', S2, fun Q q => .inr ⟨a, vs, rfl, SqL.of t, by rw [← r.length, hl], q2 Q q⟩, l2, o2, w2, u2⟩
      · cases hb
end
section
variable {X : Cx}
theorem nameAt_of {N : List Str} {i : Nat} {x : Str} (h : nameAt N i x = true) : N[i]? = some x := by
  unfold nameAt at h
  split at h
  · rename_i y e; rw [of_decide_eq_true h] at e; exact e
  · cases h
theorem locB_of {sc : Scope} {x : Str} (h : locB sc x = true) : sc.names.lookup x = some .local := by
  unfold locB at h
  split at h
  · assumption
  · cases h
theorem visB_of {sc : Scope} {x : Str} (h : visB sc x = true) : Vis sc x := by
  unfold visB at h
  split at h
  · exact .inl (by assumption)
  · exact .inr (.inl (by assumption))
  · exact .inr (.inr (by assumption))
  · cases h
theorem dstK_of {b : Bool} {sc : Scope} {x : Str} (h : dstK b sc x = true) : Loc sc x ∧ (b = true ∨ sc.names.lookup x = some .local) := by
  unfold dstK at h
  split at h
  · rename_i e; exact ⟨.inl e, .inr e⟩
  · rename_i e; exact ⟨.inr e, .inl h⟩
  · cases h
theorem dst_pg {b : Bool} {i : Nat} {x : Str} {p : Pos} (hN : X.N.Nodup) (hb : b = true → ∀ x, X.fn x = true) (h1 : nameAt X.N i x = true) (h2 : dstK b X.env.scope x = true) : PG X (.Name x p) (gName i) := by
  obtain ⟨l, o⟩ := dstK_of h2
  exact pg_name hN (nameAt_of h1) l (o.elim (fun z => .inl (hb z x)) .inr)
theorem pgs_of {b : Bool} {sc : Scope} (hN : X.N.Nodup) (hb : b = true → ∀ x, X.fn x = true) (hs : X.env.scope = sc) : ∀ {is : List Nat} {es : List Expr}, chkNs b X.N sc is es = true → PGs X es (gsR is) ∧ (assignEach es X.env).length = is.length ∧ (assignEach es X.env).findIdx? (·.1) = none
  | [], [], _ => ⟨pgs_nil, rfl, rfl⟩
  | i :: is, e :: es, h => by
    cases e <;> simp only [chkNs, Bool.and_eq_true, reduceCtorEq] at h <;> try contradiction
    obtain ⟨⟨h1, h2⟩, h3⟩ := h
    obtain ⟨g1, g2, g3⟩ := pgs_of hN hb hs h3
    rw [← hs] at h2
    refine ⟨pgs_cons (dst_pg hN hb h1 h2) g1, ?_, ?_⟩
    · show (assignEach es X.env).length + 1 = is.length + 1
      rw [g2]
    · show List.findIdx? (·.1) ((false, _) :: assignEach es X.env) = none
      rw [List.findIdx?_cons]
      simp [g3]
  | [], e :: es, h => by cases e <;> simp [chkNs] at h
  | i :: is, [], h => by simp [chkNs] at h
theorem pg_of {b : Bool} {sc : Scope} {t : Tg} {e : Expr} (hc : X.calm = true) (hN : X.N.Nodup) (hb : b = true → ∀ x, X.fn x = true) (hs : X.env.scope = sc) (h : chkTg b sc X.N t e = true) : PG X e (tgR X.K t) := by
  cases t with
  | nm i =>
    cases e <;> simp only [chkTg, Bool.and_eq_true, reduceCtorEq] at h <;> try contradiction
    have h2 := h.2
    rw [← hs] at h2
    exact dst_pg hN hb h.1 h2
  | tp is =>
    cases e <;> simp only [chkTg, Bool.and_eq_true, reduceCtorEq] at h <;> try contradiction
    obtain ⟨g1, g2, g3⟩ := pgs_of hN hb hs h.1
    exact ⟨fun pins s σ H v u Q I r hw => hw.elim (fun h => (pg_tup hc g1 g2 g3).run pins s σ H v u Q I r h) fun h => (pg_lst hc g1 g2 g3).run pins s σ H v u Q I r h⟩
end
end DD
set_option Elab.async false
set_option linter.all false
set_option maxRecDepth 100000
set_option maxHeartbeats 2000000
namespace DD
open PySem L2 PyProof.Rows
variable [Tb : Tbl] {lb : Bool}
theorem enum_newB {v : Value} {ob : Obj} {G : Heap → Prop} (B : Begins v ob G) :
    Meets (Builtin.«enumerate.__new__» ⟨[.type "enumerate", v], []⟩) (fun _ R st => G st.heap ∧ R (.ok (.ret (.ref (st.heap.push ob).objs.size))) { st with heap := (st.heap.push ob).push { cls := .type "enumerate", data := .fields #[.none, .bool false, .ref st.heap.objs.size, rawInt 0, .none, .none] } }) :=
  .of_wp fun prog w A R st z => by
    obtain ⟨hp, g, d, tk, os⟩ := st; obtain ⟨z1, z2⟩ := z
    have hs := sub_enumerate
    have it1 : ∀ {A' : Around} {E Q : Value → Shared → Prop}, Q (.ref hp.objs.size) ⟨hp.push ob, g, d, tk, os⟩ → wpAny (model prog w) A' (pyIter v) Q E ⟨hp, g, d, tk, os⟩ := fun q => B.iter prog w _ _ _ _ z1 q
    wp_walk using it1
    refine wpAny_stack_any fun _ => wpAny_pure ?_
    split
    · rename_i c _ _ _ _ _
      cases (c == Value.type "enumerate") <;> (wp_walk using it1; exact ⟨_, rfl, z2⟩)
    · (wp_walk using it1); exact ⟨_, rfl, z2⟩
def IteT (K : PySem.W.Frag) (a : Addr) : It :=
  ⟨fun i H => ∃ (xs : List V) (x : V), SqT K H a xs ∧ xs[i]? = some x, fun i H v H' => ∃ T x, v = .ref T ∧ H T = none ∧ H' = upd H T (.tup [.int (i : Nat), x]) ∧ ∀ xs, SqT K H a xs → xs[i]? = some x, fun i H => ∃ xs : List V, SqT K H a xs ∧ xs.length = i⟩
theorem turn_enumT {P : Program} {w : World} {K : PySem.W.Frag} {elts : List Expr} {kk : Nat} {tpos : Pos} (t e it : Addr) :
    Turn P w K (.Tuple elts kk tpos) (IteT K t) [e, it] e (fun i h => (∃ old, IsEnum h e it ((i : Nat) : Int) old) ∧ h.IsTupleIter it t i ∧ e ≠ it ∧ e ≠ t ∧ t ≠ it) where
  mem := by simp
  obj := fun i h ⟨⟨old, he⟩, ⟨o, ho, hc, hd⟩, _⟩ b hb => by
    rcases (show b = e ∨ b = it by simpa using hb) with rfl | rfl
    · exact ⟨_, he, fun v q => nomatch q⟩
    · exact ⟨o, ho, fun v q => by rw [hd] at q; cases q⟩
  keep := fun i h h' ⟨⟨old, he⟩, hi, hne⟩ k => ⟨⟨old, k e (by simp) _ he⟩, hi.at fun o q => k it (by simp) o q, hne⟩
  item := by
    intro X hP hw hK hc i pins s σ H E I hf st hg
    subst hP hw hK
    obtain ⟨⟨old, he⟩, hit, n1, n2, n3⟩ := st
    obtain ⟨xs, x, hq, hx⟩ := hg
    obtain ⟨its, rv, pl, hz⟩ := I.tuple hq
    obtain ⟨u, hu, ru⟩ := rv.get hx
    have he0 : e < s.heap.objs.size := Heap.lt_size he
    have hi0 : it < s.heap.objs.size := by obtain ⟨_, q, _⟩ := hit; exact Heap.lt_size q
    have D := Draws.tuple (prog := X.prog) (w := X.w) (A := X.A.in1) (I.ok.hd hc) it t n3 its.toArray
    have hlt : i < its.toArray.size := by rw [List.size_toArray]; exact (List.getElem?_eq_some_iff.mp hu).1
    refine wpAny_pyNext_enum_itemD D he ⟨hit, pl⟩ hlt n1 (by simp [n1, n2]) fun y h' tk hy ho hst hT hsz hk => ?_
    have ey : y = u := by
      have e1 : its.toArray[i]? = some y := hy
      simp only [List.getElem?_toArray] at e1
      rw [hu] at e1; exact (Option.some.inj e1).symm
    subst ey
    refine ⟨_, rfl, wpAny_letOwnedTupleGo_enum (s := { s with heap := h', toks := tk + 1 }) ho fun h2 he2 sb => ?_⟩
    have hT2 := (sb.2 _ (Nat.ne_of_gt he0)).trans hT
    have new : ObjOk X.prog X.w (upd H s.heap.objs.size (.tup [.int (i : Nat), x])) h2 s.heap.objs.size (.tup [.int (i : Nat), x]) := ⟨by show 2 ≤ sizeLine; decide, [.int i tk, y], .cons ⟨_, rfl⟩ (.cons ru .nil), ⟨_, hT2, rfl, _, rfl⟩⟩
    have I1 : Inv X pins σ (upd H s.heap.objs.size (.tup [.int (i : Nat), x])) { s with heap := h2, toks := tk + 1 } := I.turnedNew (ch := [e, it]) (fun b ob hb q => (sb.2 b (fun z => hb (by simp [z]))).trans (hk b ob (fun z => hb (by simp [z])) (fun z => hb (by simp [z])) q)) hf (Nat.le_refl _) new
    refine ⟨.ref s.heap.objs.size, _, I1, rfl, ⟨_, x, rfl, I.hok.fresh (Nat.le_refl _), rfl, fun ys hy => ?_⟩, ⟨⟨y, ?_⟩, hst.1.at fun o q => (sb.2 it (Ne.symm n1)).trans q, n1, n2, n3⟩, fun b hb => ?_⟩
    · rw [I.tuple_inj hy hq]; exact hx
    · rw [show ((i + 1 : Nat) : Int) = (i : Int) + 1 by omega]; exact he2
    · rcases (show b = e ∨ b = it by simpa using hb) with rfl | rfl
      · rw [upd_ne (Nat.ne_of_lt he0)]; exact (hf _ hb).1
      · rw [upd_ne (Nat.ne_of_lt hi0)]; exact (hf _ hb).1
  done := by
    intro X hP hw hK hc i pins s σ H E I hf st hg
    subst hP hw hK
    obtain ⟨⟨old, he⟩, hit, n1, n2, n3⟩ := st
    obtain ⟨xs, hq, hx⟩ := hg
    obtain ⟨its, rv, pl, hz⟩ := I.tuple hq
    obtain ⟨f0, f1, f2, f3, f4, f5⟩ := hf it (by simp)
    have D := Draws.tuple (prog := X.prog) (w := X.w) (A := X.A.in1) (I.ok.hd hc) it t n3 its.toArray
    have el : its.toArray.size = i := by rw [List.size_toArray, ← rv.length]; exact hx
    subst el
    exact wpAny_pyNext_enum_endD D he ⟨hit, pl⟩ fun h' eb => ⟨rfl, I.turned (t' := s.toks) (fun b o hb q => eb b o hb q) f0 f1 f3 f4 f5⟩
  self := fun A i s Q E st h => let ⟨⟨_, he⟩, _⟩ := st; wpAny_pyIter_enum he h
theorem call_enumT {prog : Program} {w : World} {A : Around} {E Q : Value → Shared → Prop} {st : Shared} {t : Addr} {its : Array Value} (ht : st.heap.IsTuple t its)
    (z : ∀ h', IsEnum h' (st.heap.objs.size + 1) st.heap.objs.size 0 .none → h'.IsTupleIter st.heap.objs.size t 0 → h'.objs.size = st.heap.objs.size + 2 → (∀ b o, st.heap.get? b = some o → h'.get? b = some o) → Q (.ref (st.heap.objs.size + 1)) { st with heap := h' }) :
    wpAny (model prog w) A (call (.type "enumerate") [.ref t]) Q E st := by
  have B := begins_tuple t its
  refine callType_new F.called_enumerate (by decide) (F.typeCall_enumerate_1 _) (F.newCall_enumerate_1 _) (fun obj => F.args_object_init_2 obj _) F.entry_enumerate_new (enum_newB B) ⟨ht, ?_⟩
  have sz : (st.heap.push { cls := .type "tuple_iterator", data := .fields #[.ref t, .int 0 0] }).objs.size = st.heap.objs.size + 1 := Heap.size_push ..
  show _ ∧ _
  rw [sz]
  have he : IsEnum ((st.heap.push { cls := .type "tuple_iterator", data := .fields #[.ref t, .int 0 0] }).push { cls := .type "enumerate", data := .fields #[.none, .bool false, .ref st.heap.objs.size, rawInt 0, .none, .none] }) (st.heap.objs.size + 1) st.heap.objs.size 0 .none := by
    have := Heap.get?_push_size (st.heap.push { cls := .type "tuple_iterator", data := .fields #[.ref t, .int 0 0] }) (o := { cls := .type "enumerate", data := .fields #[.none, .bool false, .ref st.heap.objs.size, rawInt 0, .none, .none] }) rfl
    rw [sz] at this; exact this
  exact ⟨⟨_, he, rfl⟩, z _ he ⟨_, Heap.get?_push_of_some _ (Heap.get?_push_size _ B.free), rfl, rfl⟩ (by rw [Heap.size_push, sz]) fun b o x => Heap.get?_push_of_some _ (Heap.get?_push_of_some _ x)⟩
def iEnumT (K : PySem.W.Frag) (ta : TA) : TI := fun σ H R => ta σ H fun vs H1 => ∃ a xs, vs = [.ref a] ∧ SqT K H1 a xs ∧ R (IteT K a) H1
theorem pi_enumT {X : Cx} {e : Expr} {ta : TA} {p pos tpos : Pos} {elts : List Expr} {kk : Nat} (hg : Gl X "enumerate") (hm : X.mg "enumerate" = none) (ha : PA X [e] ta) (hs : starEach [e] X.env = [(false, eval e X.env)]) :
    PI X (.Tuple elts kk tpos) (.Call (.Name "enumerate" p) [e] [] pos) (iEnumT X.K ta) := by
  refine ⟨fun pins s σ H R I h => ?_⟩
  refine Call_ (ld_blt I hg hm boot_enumerate (callWith_type1 (thn (ha.run pos pins s σ H _ I h) fun us s1 ⟨vs, H1, I1, r1, q1⟩ => ?_) hs rfl))
  obtain ⟨a, xs, rfl, hq, q⟩ := q1
  cases r1 with
  | cons r rr =>
    cases rr
    cases r
    obtain ⟨its, rv, pl, hz⟩ := I1.tuple hq
    have ha0 : a < s1.heap.objs.size := by obtain ⟨_, q, _⟩ := pl; exact Heap.lt_size q
    refine call_enumT (its := its.toArray) pl fun h' he hit hsz hk => wpAny_pyIter_enum he ?_
    have I2 : Inv X pins σ H1 { s1 with heap := h' } := I1.kept (t' := s1.toks) hk
    refine ⟨s1.heap.objs.size + 1, [s1.heap.objs.size + 1, s1.heap.objs.size], _, _, H1, rfl, I2, turn_enumT a (s1.heap.objs.size + 1) s1.heap.objs.size, ⟨⟨.none, he⟩, hit, Nat.succ_ne_self _, Nat.ne_of_gt (Nat.lt_succ_of_lt ha0), Nat.ne_of_lt ha0⟩, fun b hb => ?_, q⟩
    have hle : s1.heap.objs.size ≤ b := by
      rcases (show b = s1.heap.objs.size + 1 ∨ b = s1.heap.objs.size by simpa using hb) with rfl | rfl
      · omega
      · omega
    exact I1.fpOk hle (I1.hok.fresh hle)
end DD
set_option Elab.async false
set_option linter.all false
set_option maxRecDepth 100000
set_option maxHeartbeats 2000000
namespace DD
open PySem L2 PyProof.Rows RZ
variable [Tb : Tbl] {lb : Bool}
section
variable {K : PySem.W.Frag} {B : Bs} {ρ ρ' : Rho} {σ σ' : L2.St} {H H1 H2 H' : Hp} {fl : Fl} {d : D} {v : V} {bb : Bool}
theorem gd_le : Ext (Gd ρ σ bb H) H := .of fun a o h => by
  unfold Gd at h
  split at h
  · exact h
  · split at h
    · cases h
    · exact h
theorem gd_at {a : Addr} {o : HO} (h : H a = some o) (hn : bb = false → ¬ Own ρ σ a) (e : Ext (Gd ρ σ bb H) H2) (nt : ∀ ps, o ≠ .tbl ps := by intro _ z; cases z) : H2 a = some o := by
  refine e.to a o ?_ nt
  unfold Gd
  cases bb with
  | true => exact h
  | false => rw [if_neg Bool.false_ne_true, if_neg (hn rfl)]; exact h
theorem own_not {a : Addr} {o : HO} (S : StOk K B ρ σ H) (h : H a = some o) (hm : ¬ MutO o) : ¬ Own ρ σ a := fun z => by
  obtain ⟨o', q, m, _⟩ := S.own z
  rw [h] at q; cases q; exact hm m
theorem gd_tabs (S : StOk K B ρ σ H) : LamX.Tabs Tb.T (Gd ρ σ bb H) := fun r hr => by
  obtain ⟨ps, h1, h2, h3⟩ := S.tabs r hr
  have keep : ∀ {a : Addr} {o : HO}, H a = some o → ¬ MutO o → Gd ρ σ bb H a = some o := fun {a o} h n => by
    unfold Gd
    cases bb with
    | true => exact h
    | false => rw [if_neg Bool.false_ne_true, if_neg (own_not S h n)]; exact h
  refine ⟨ps, keep h1 (fun z => z), h2, fun pos cv e => ?_⟩
  obtain ⟨c, e1, e2⟩ := h3 pos cv e
  exact ⟨c, e1, keep e2 (fun z => z)⟩
theorem gd_sqt (S : StOk K B ρ σ H) (e : Ext (Gd ρ σ bb H) H2) {a : Addr} {xs : List V} (h : SqT K H a xs) : SqT K H2 a xs := by
  rcases h with (h | ⟨o, h⟩) | h
  · exact .inl (.inl (gd_at h (fun _ => own_not S h fun z => z) e))
  · exact .inl (.inr ⟨o, gd_at h (fun _ => own_not S h fun z => z) e⟩)
  · exact .inr h
theorem gd_fz (S : StOk K B ρ σ H) (e : Ext (Gd ρ σ bb H) H2) {a : Addr} {xs : List V} (h : Fz K H a xs) : Fz K H2 a xs := by
  rcases h with ⟨o, h⟩ | h
  · exact .inl ⟨o, gd_at h (fun _ => own_not S h fun z => z) e⟩
  · exact .inr h
theorem gd_rp (S : StOk K B ρ σ H) (e : Ext (Gd ρ σ bb H) H2) (r : Rp K (Nsh B ρ σ) H d v) : Rp K (fun a => Nsh B ρ σ a ∧ ∃ o, H a = some o) H2 d v :=
  Rp.keep (fun _ _ => gd_sqt S e) (fun _ _ => gd_fz S e) (fun _ _ _ z => gd_at z (fun _ => own_not S z fun y => y) e) (fun _ _ _ _ z => gd_at z (fun _ => own_not S z fun y => y) e (fun _ y => by cases y)) (fun a o m n h => ⟨⟨n, o, h⟩, gd_at h (fun _ => n.2) e m.notbl⟩) d v r
/-- a list that is walked stays -/
theorem Res.lstN {ds : List D} (h : Res K B ρ σ H H1 fl (.lst ds) v) (S : StOk K B ρ σ H) : ∃ a vs, v = .ref a ∧ H1 a = some (.lst vs) ∧ Rps K (Nsh B ρ σ) H1 ds vs ∧ ((fl == .bo) = false → ¬ Own ρ σ a) := by
  cases fl with
  | sh => 
    simp only [Res, Rp] at h
    obtain ⟨a, vs, e, n, s, r⟩ := h; exact ⟨a, vs, e, s, r, fun _ => n.2⟩
  | fr => 
    simp only [Res, Sep] at h
    obtain ⟨a, vs, e, n, s, r⟩ := h
    exact ⟨a, vs, e, s, Rps.imp (fun _ _ _ n => n.1) r, fun _ => (S.new n).2⟩
  | bo => 
    simp only [Res, Sep] at h
    obtain ⟨a, vs, e, _, s, r⟩ := h; exact ⟨a, vs, e, s, Rps.imp (fun _ _ _ n => n.1) r, fun z => by cases z⟩
theorem src_list {ds : List D} {a : Addr} {vs : List V} (S : StOk K B ρ σ H) (r : Rps K (Nsh B ρ σ) H ds vs) (hs : ∀ H2, Ext (Gd ρ σ bb H) H2 → SqL K H2 a vs) : Src K B ρ σ bb H (Itl K a) ds := by
  intro H2 e
  have w := walk_list (K := K) (a := a) (xs := vs)
  refine ⟨fun i d hi => ?_, by rw [r.length]; exact w.stops H2 (hs H2 e)⟩
  have hlt : i < vs.length := by rw [← r.length]; exact (List.getElem?_eq_some_iff.mp hi).1
  refine ⟨w.goes i H2 hlt (hs H2 e), fun x H3 y => ?_⟩
  obtain ⟨e3, hx⟩ := w.yields i H2 x H3 hlt (hs H2 e) y
  subst e3
  obtain ⟨v, hv, rv⟩ := r.get hi
  rw [hx] at hv; cases hv
  exact ⟨Ext.refl _, gd_rp S e rv⟩
theorem src_tup {ds : List D} {a : Addr} {vs : List V} (S : StOk K B ρ σ H) (r : Rps K (Nsh B ρ σ) H ds vs) (hs : SqT K H a vs) : Src K B ρ σ bb H (Itt K a) ds := by
  intro H2 e
  have w := walk_tup (K := K) (a := a) (xs := vs)
  refine ⟨fun i d hi => ?_, by rw [r.length]; exact w.stops H2 (gd_sqt S e hs)⟩
  have hlt : i < vs.length := by rw [← r.length]; exact (List.getElem?_eq_some_iff.mp hi).1
  refine ⟨w.goes i H2 hlt (gd_sqt S e hs), fun x H3 y => ?_⟩
  obtain ⟨e3, hx⟩ := w.yields i H2 x H3 hlt (gd_sqt S e hs) y
  subst e3
  obtain ⟨v, hv, rv⟩ := r.get hi
  rw [hx] at hv; cases hv
  exact ⟨Ext.refl _, gd_rp S e rv⟩
theorem ups_at {i : Int} {n k : Nat} {d : D} (h : (ups i n)[k]? = some d) : k < n ∧ d = .int (i + (k : Int)) := by
  unfold ups at h
  rw [List.getElem?_map] at h
  cases e : (List.range n)[k]? with
  | none => rw [e] at h; cases h
  | some m =>
    rw [e] at h
    obtain ⟨h1, h2⟩ := List.getElem?_eq_some_iff.mp e
    rw [List.getElem_range] at h2
    subst h2
    rw [List.length_range] at h1
    simp only [Option.map_some, Option.some.injEq] at h
    exact ⟨h1, h.symm⟩
theorem steps_at {i c : Int} {n k : Nat} {d : D} (h : (steps i c n)[k]? = some d) : k < n ∧ d = .int (i + (k : Int) * c) := by
  unfold steps at h
  rw [List.getElem?_map] at h
  cases e : (List.range n)[k]? with
  | none => rw [e] at h; cases h
  | some m =>
    rw [e] at h
    obtain ⟨h1, h2⟩ := List.getElem?_eq_some_iff.mp e
    rw [List.getElem_range] at h2
    subst h2
    rw [List.length_range] at h1
    simp only [Option.map_some, Option.some.injEq] at h
    exact ⟨h1, h.symm⟩
theorem src_ups {i : Int} {n : Nat} : Src K B ρ σ bb H (Itr i n) (ups i n) := by
  intro H2 e
  refine ⟨fun k d hk => ?_, by show n ≤ _; simp [ups]⟩
  obtain ⟨h1, rfl⟩ := ups_at hk
  refine ⟨h1, fun x H3 y => ?_⟩
  obtain ⟨e3, hx⟩ := y
  subst e3 hx
  exact ⟨Ext.refl _, by simp only [Rp]⟩
theorem src_steps {i c : Int} {n : Nat} : Src K B ρ σ bb H (Itc i c n) (steps i c n) := by
  intro H2 e
  refine ⟨fun k d hk => ?_, by show n ≤ _; simp [steps]⟩
  obtain ⟨h1, rfl⟩ := steps_at hk
  refine ⟨h1, fun x H3 y => ?_⟩
  obtain ⟨e3, hx⟩ := y
  subst e3 hx
  exact ⟨Ext.refl _, by simp only [Rp]⟩
theorem pair_rp {N : Addr → Prop} {T : Addr} {x y : V} {d e : D} (hT : H T = none) (r1 : Rp K N H d x) (r2 : Rp K N H e y) : Ext H (upd H T (.tup [x, y])) ∧ Rp K N (upd H T (.tup [x, y])) (.tup [d, e]) (.ref T) := by
  refine ⟨Ext.new hT, ?_⟩
  simp only [Rp]
  exact ⟨T, [x, y], rfl, SqT.of upd_same, Rps.ext (Ext.new hT) (Rps.cons r1 (Rps.one r2))⟩
theorem zipW_at {α β γ : Type} {f : α → β → γ} {xs : List α} {ys : List β} {i : Nat} {z : γ} (h : (xs.zipWith f ys)[i]? = some z) : ∃ x y, xs[i]? = some x ∧ ys[i]? = some y ∧ z = f x y := by
  rw [List.getElem?_zipWith] at h
  cases e1 : xs[i]? with
  | none => rw [e1] at h; cases h
  | some x =>
    cases e2 : ys[i]? with
    | none => rw [e1, e2] at h; cases h
    | some y => rw [e1, e2] at h; cases h; exact ⟨x, y, rfl, rfl, rfl⟩
theorem src_enum {ds : List D} {a : Addr} {vs : List V} (S : StOk K B ρ σ H) (r : Rps K (Nsh B ρ σ) H ds vs) (hs : ∀ H2, Ext (Gd ρ σ bb H) H2 → SqL K H2 a vs) :
    Src K B ρ σ bb H (Ite K a) ((List.range ds.length).zipWith (fun (i : Nat) d => .tup [.int i, d]) ds) := by
  intro H2 e
  have w := walk_enum (K := K) (a := a) (xs := vs)
  refine ⟨fun i d hi => ?_, ?_⟩
  · obtain ⟨m, d', h1, h2, rfl⟩ := zipW_at hi
    obtain ⟨g1, g2⟩ := List.getElem?_eq_some_iff.mp h1
    rw [List.getElem_range] at g2
    subst g2
    have hlt : i < vs.length := by rw [← r.length]; simpa using g1
    refine ⟨w.goes i H2 hlt (hs H2 e), fun x H3 y => ?_⟩
    obtain ⟨T, x', y', rfl, hT, rfl, q1, q2⟩ := w.yields i H2 x H3 hlt (hs H2 e) y
    cases q1
    obtain ⟨v, hv, rv⟩ := r.get h2
    have q2' : vs[i]? = some y' := q2
    rw [q2'] at hv; cases hv
    exact pair_rp hT (by simp only [Rp]) (gd_rp S e rv)
  · have := w.stops H2 (hs H2 e)
    simpa [r.length] using this
theorem src_enumT {ds : List D} {a : Addr} {vs : List V} (S : StOk K B ρ σ H) (r : Rps K (Nsh B ρ σ) H ds vs) (hs : SqT K H a vs) :
    Src K B ρ σ bb H (IteT K a) ((List.range ds.length).zipWith (fun (i : Nat) d => .tup [.int i, d]) ds) := by
  intro H2 e
  have h2 := gd_sqt S e hs
  refine ⟨fun i d hi => ?_, ⟨vs, h2, by simp [r.length]⟩⟩
  obtain ⟨m, d', h1, h3, rfl⟩ := zipW_at hi
  obtain ⟨g1, g2⟩ := List.getElem?_eq_some_iff.mp h1
  rw [List.getElem_range] at g2
  subst g2
  have hlt : i < vs.length := by rw [← r.length]; simpa using g1
  obtain ⟨v, hv, rv⟩ := r.get h3
  refine ⟨⟨vs, v, h2, hv⟩, fun x H3 y => ?_⟩
  obtain ⟨T, y', rfl, hT, rfl, q2⟩ := y
  have q2' := q2 vs h2
  rw [q2'] at hv; cases hv
  exact pair_rp hT (by simp only [Rp]) (gd_rp S e rv)
theorem walk_zipT {a b : Addr} {xs ys : List V} {n : Nat} (hn : n = min xs.length ys.length) : Walk (ItzT K a b) n (fun H => SqT K H a xs ∧ SqT K H b ys) (YPair (fun i => xs[i]?) (fun i => ys[i]?)) := by
  subst hn
  refine ⟨fun i _ hi q => ?_, fun _ q => ⟨xs, ys, q.1, q.2, by omega⟩, fun i H v H' _ q y => ?_⟩
  · have h1 : i < xs.length := by omega
    have h2 : i < ys.length := by omega
    exact ⟨xs, ys, xs[i], ys[i], q.1, q.2, by simp [h1], by simp [h2]⟩
  · obtain ⟨T, x, z, h1, h2, h3, h4, h5⟩ := y
    exact ⟨T, x, z, h1, h2, h3, h4 xs q.1, h5 ys q.2⟩
theorem src_zipG {ds es : List D} {vs ws : List V} {J : It} {G : Hp → Prop} (S : StOk K B ρ σ H) (r : Rps K (Nsh B ρ σ) H ds vs) (r2 : Rps K (Nsh B ρ σ) H es ws)
    (w : Walk J (min vs.length ws.length) G (YPair (fun i => vs[i]?) (fun i => ws[i]?))) (hs : ∀ H2, Ext (Gd ρ σ bb H) H2 → G H2) : Src K B ρ σ bb H J (zip2 ds es) := by
  intro H2 e
  refine ⟨fun i d hi => ?_, ?_⟩
  · obtain ⟨d1, d2, h1, h2, rfl⟩ := zipW_at hi
    have hlt : i < min vs.length ws.length := by
      have := (List.getElem?_eq_some_iff.mp h1).1
      have := (List.getElem?_eq_some_iff.mp h2).1
      rw [← r.length, ← r2.length]; omega
    refine ⟨w.goes i H2 hlt (hs H2 e), fun x H3 y => ?_⟩
    obtain ⟨T, x', y', rfl, hT, rfl, q1, q2⟩ := w.yields i H2 x H3 hlt (hs H2 e) y
    obtain ⟨v1, hv1, rv1⟩ := r.get h1
    obtain ⟨v2, hv2, rv2⟩ := r2.get h2
    have q1' : vs[i]? = some x' := q1
    have q2' : ws[i]? = some y' := q2
    rw [q1'] at hv1; cases hv1
    rw [q2'] at hv2; cases hv2
    exact pair_rp hT (gd_rp S e rv1) (gd_rp S e rv2)
  · have := w.stops H2 (hs H2 e)
    have el : (zip2 ds es).length = min vs.length ws.length := by unfold zip2; rw [List.length_zipWith, r.length, r2.length]
    rw [el]; exact this
end
section
variable {X : Cx} {Γ : Gam} {f g h : Rho → Option (Fl × D)} {pos p : Pos} {a b c e tg : Expr}
theorem pi_le {t u : TI} (hp : PI X tg e u) (hle : ∀ σ H R, t σ H R → u σ H R) : PI X tg e t := ⟨fun pins s σ H R I hh => hp.run pins s σ H R I (hle σ H R hh)⟩
theorem si_val (ha : PE X e (rd X.K f)) : PI X tg e (rdI X.K fun ρ => do let x ← f ρ; itemsOf x) := by
  refine ⟨fun pins s σ H R I hh => ?_⟩
  obtain ⟨B, ρ, bb, ds, hf, S, q⟩ := hh
  cases e1 : f ρ with
  | none => simp [e1] at hf
  | some x =>
  obtain ⟨fa, da⟩ := x
  simp only [e1, Option.bind_eq_bind, Option.bind_some] at hf
  cases da <;> simp only [itemsOf, reduceCtorEq, Option.some.injEq, Prod.mk.injEq] at hf
  · obtain ⟨rfl, rfl⟩ := hf
    refine (pi_tup ha).run pins s σ H R I ⟨B, ρ, fa, _, e1, S, fun x H1 z r => ?_⟩
    obtain ⟨pa, vs, rfl, t, rr⟩ := r.tup
    exact ⟨pa, rfl, ⟨vs, t⟩, q _ H1 z (src_tup (S.ext z) rr t)⟩
  · obtain ⟨rfl, rfl⟩ := hf
    refine (pi_list ha).run pins s σ H R I ⟨B, ρ, fa, _, e1, S, fun x H1 z r => ?_⟩
    obtain ⟨pa, vs, rfl, t, rr, hn⟩ := r.lstN S
    exact ⟨pa, rfl, ⟨vs, SqL.of t⟩, q _ H1 z (src_list (S.ext z) rr fun H2 z2 => SqL.of (gd_at t hn z2))⟩
  · obtain ⟨rfl, rfl⟩ := hf
    refine (pi_list ha).run pins s σ H R I ⟨B, ρ, fa, _, e1, S, fun x H1 z r => ?_⟩
    obtain ⟨pa, vs, rfl, t, rr⟩ := r.fz
    exact ⟨pa, rfl, ⟨vs, t.sql⟩, q _ H1 z (src_list (S.ext z) rr fun H2 z2 => (gd_fz (S.ext z) z2 t).sql)⟩
theorem big62_of {i : Int} (h : big62 i = true) : -(2 ^ 62) ≤ i ∧ i < 2 ^ 62 := by
  unfold big62 at h
  rw [Bool.and_eq_true, dte, dte] at h
  exact h
theorem si_rng1 (C : Ctx lb X Γ) (hg : Gl X "range") (hs : notStar a = true) (ha : PE X a (rd X.K f)) : PI X tg (.Call (.Name "range" p) [a] [] pos) (rdI X.K fun ρ => do let x ← f ρ; (rng1Of x.2).map fun ds => (false, ds)) := by
  refine pi_le (pi_range1 hg (C.blt _ (by simp [bltNames])) (pa_cons ha pa_nil (star_of hs)) (star_of hs)) fun σ H R hh => ?_
  obtain ⟨B, ρ, bb, ds, hf, S, q⟩ := hh
  cases e1 : f ρ with
  | none => simp [e1] at hf
  | some x =>
  obtain ⟨fa, da⟩ := x
  simp only [e1, Option.bind_eq_bind, Option.bind_some] at hf
  cases da <;> simp only [rng1Of, reduceCtorEq, Option.map_none] at hf
  split at hf <;> simp only [Option.map_some, Option.map_none, Option.some.injEq, reduceCtorEq, Prod.mk.injEq] at hf
  rename_i j hz
  obtain ⟨rfl, rfl⟩ := hf
  have hb := big62_of hz
  refine ⟨B, ρ, fa, _, e1, S, fun v H1 z r => ⟨j, by rw [r.int], hb.1, hb.2, q _ H1 z src_ups⟩⟩
theorem si_rng2 (C : Ctx lb X Γ) (hg : Gl X "range") (hs : notStar a = true) (hs2 : notStar b = true) (ha : PE X a (rd X.K f)) (hb : PE X b (rd X.K g)) :
    PI X tg (.Call (.Name "range" p) [a, b] [] pos) (rdI X.K fun ρ => do let x ← f ρ; let y ← g ρ; (rng2Of x.2 y.2).map fun ds => (false, ds)) := by
  refine pi_le (pi_range2 hg (C.blt _ (by simp [bltNames])) (pa_cons ha (pa_cons hb pa_nil (star_of hs2)) (star_of hs)) (by rw [star_of hs, star_of hs2]; rfl) (star_of hs2)) fun σ H R hh => ?_
  obtain ⟨B, ρ, bb, ds, hf, S, q⟩ := hh
  cases e1 : f ρ with
  | none => simp [e1] at hf
  | some x =>
  cases e2 : g ρ with
  | none => simp [e1, e2] at hf
  | some y =>
  obtain ⟨fa, da⟩ := x
  obtain ⟨fb, db⟩ := y
  simp only [e1, e2, Option.bind_eq_bind, Option.bind_some] at hf
  cases da <;> cases db <;> simp only [rng2Of, reduceCtorEq, Option.map_none] at hf
  split at hf <;> simp only [Option.map_some, Option.map_none, Option.some.injEq, reduceCtorEq, Prod.mk.injEq] at hf
  rename_i i j hz
  obtain ⟨rfl, rfl⟩ := hf
  rw [Bool.and_eq_true] at hz
  have h1 := big62_of hz.1
  have h2 := big62_of hz.2
  exact ⟨B, ρ, fa, _, e1, S, fun v H1 z r => ⟨B, ρ, fb, _, e2, S.ext z, fun w H2 z2 r2 => ⟨i, j, by rw [r.int, r2.int], ⟨h1.1, h1.2, h2.1, h2.2⟩, q _ H2 (z.trans z2) src_ups⟩⟩⟩
theorem si_rng3 (C : Ctx lb X Γ) (hg : Gl X "range") (hs : notStar a = true) (hs2 : notStar b = true) (hs3 : notStar c = true) (ha : PE X a (rd X.K f)) (hb : PE X b (rd X.K g)) (hc : PE X c (rd X.K h)) :
    PI X tg (.Call (.Name "range" p) [a, b, c] [] pos) (rdI X.K fun ρ => do let x ← f ρ; let y ← g ρ; let z ← h ρ; (rng3Of x.2 y.2 z.2).map fun ds => (false, ds)) := by
  refine pi_le (pi_range3 hg (C.blt _ (by simp [bltNames])) (pa_cons ha (pa_cons hb (pa_cons hc pa_nil (star_of hs3)) (star_of hs2)) (star_of hs)) (star_of hs) (pl_of (by simp [allNS, hs2, hs3]))) fun σ H R hh => ?_
  obtain ⟨B, ρ, bb, ds, hf, S, q⟩ := hh
  cases e1 : f ρ with
  | none => simp [e1] at hf
  | some x =>
  cases e2 : g ρ with
  | none => simp [e1, e2] at hf
  | some y =>
  cases e3 : h ρ with
  | none => simp [e1, e2, e3] at hf
  | some z =>
  obtain ⟨fa, da⟩ := x
  obtain ⟨fb, db⟩ := y
  obtain ⟨fc, dc⟩ := z
  simp only [e1, e2, e3, Option.bind_eq_bind, Option.bind_some] at hf
  cases da <;> cases db <;> cases dc <;> simp only [rng3Of, reduceCtorEq, Option.map_none] at hf
  split at hf <;> simp only [Option.map_some, Option.map_none, Option.some.injEq, reduceCtorEq, Prod.mk.injEq] at hf
  rename_i i j k hz
  obtain ⟨rfl, rfl⟩ := hf
  rw [Bool.and_eq_true, Bool.and_eq_true, dte, dte] at hz
  exact ⟨B, ρ, fa, _, e1, S, fun v H1 z r => ⟨B, ρ, fb, _, e2, S.ext z, fun w H2 z2 r2 => ⟨B, ρ, fc, _, e3, (S.ext z).ext z2, fun u H3 z3 r3 => ⟨i, j, k, _, by rw [r.int, r2.int, r3.int], ⟨hz.1.1, hz.1.2, hz.2, PyProof.Rows.rangeSize_toNat i j k⟩, q _ H3 ((z.trans z2).trans z3) src_steps⟩⟩⟩⟩
theorem si_rrng2 (C : Ctx lb X Γ) (hg : Gl X "reversed") (hg2 : Gl X "range") (hs : notStar a = true) (hs2 : notStar b = true) {p2 pos2 : Pos} (ha : PE X a (rd X.K f)) (hb : PE X b (rd X.K g)) :
    PI X tg (.Call (.Name "reversed" p) [.Call (.Name "range" p2) [a, b] [] pos2] [] pos) (rdI X.K fun ρ => do let x ← f ρ; let y ← g ρ; (rrng2Of x.2 y.2).map fun ds => (false, ds)) := by
  refine pi_le (pi_revR hg (C.blt _ (by simp [bltNames])) (prg_2 hg2 (C.blt _ (by simp [bltNames])) ha hb (star_of hs) (star_of hs2) (pl_of (by simp [allNS, hs2])))) fun σ H R hh => ?_
  obtain ⟨B, ρ, bb, ds, hf, S, q⟩ := hh
  cases e1 : f ρ with
  | none => simp [e1] at hf
  | some x =>
  cases e2 : g ρ with
  | none => simp [e1, e2] at hf
  | some y =>
  obtain ⟨fa, da⟩ := x
  obtain ⟨fb, db⟩ := y
  simp only [e1, e2, Option.bind_eq_bind, Option.bind_some] at hf
  cases da <;> cases db <;> simp only [rrng2Of, reduceCtorEq, Option.map_none] at hf
  split at hf <;> simp only [Option.map_some, Option.map_none, Option.some.injEq, reduceCtorEq, Prod.mk.injEq] at hf
  rename_i i j hz
  obtain ⟨rfl, rfl⟩ := hf
  rw [Bool.and_eq_true] at hz
  have h1 := big62_of hz.1
  have h2 := big62_of hz.2
  exact ⟨B, ρ, fa, _, e1, S, fun v H1 z r => ⟨B, ρ, fb, _, e2, S.ext z, fun w H2 z2 r2 => ⟨i, j, r.int, r2.int, h1.1, h1.2, h2.1, h2.2, q _ H2 (z.trans z2) src_steps⟩⟩⟩
theorem si_enum (C : Ctx lb X Γ) {elts : List Expr} {kk : Nat} {tpos : Pos} (hg : Gl X "enumerate") (hs : notStar a = true) (ha : PE X a (rd X.K f)) :
    PI X (.Tuple elts kk tpos) (.Call (.Name "enumerate" p) [a] [] pos) (rdI X.K fun ρ => do let x ← f ρ; enumOf x) := by
  have hl := pi_enum (tpos := tpos) (kk := kk) (elts := elts) (pos := pos) (p := p) hg (C.blt _ (by simp [bltNames])) (pa_cons ha pa_nil (star_of hs)) (star_of hs)
  have ht := pi_enumT (tpos := tpos) (kk := kk) (elts := elts) (pos := pos) (p := p) hg (C.blt _ (by simp [bltNames])) (pa_cons ha pa_nil (star_of hs)) (star_of hs)
  refine ⟨fun pins s σ H R I hh => ?_⟩
  obtain ⟨B, ρ, bb, ds, hf, S, q⟩ := hh
  cases e1 : f ρ with
  | none => simp [e1] at hf
  | some x =>
  obtain ⟨fa, da⟩ := x
  simp only [e1, Option.bind_eq_bind, Option.bind_some] at hf
  cases da <;> simp only [enumOf, reduceCtorEq, Option.some.injEq, Prod.mk.injEq] at hf
  · obtain ⟨rfl, rfl⟩ := hf
    refine ht.run pins s σ H R I ⟨B, ρ, fa, _, e1, S, fun x H1 z r => ?_⟩
    obtain ⟨pa, vs, rfl, t, rr⟩ := r.tup
    exact ⟨pa, vs, rfl, t, q _ H1 z (src_enumT (S.ext z) rr t)⟩
  · obtain ⟨rfl, rfl⟩ := hf
    refine hl.run pins s σ H R I ⟨B, ρ, fa, _, e1, S, fun x H1 z r => ?_⟩
    obtain ⟨pa, vs, rfl, t, rr, hn⟩ := r.lstN S
    exact ⟨pa, vs, rfl, SqL.of t, q _ H1 z (src_enum (S.ext z) rr fun H2 z2 => SqL.of (gd_at t hn z2))⟩
  · obtain ⟨rfl, rfl⟩ := hf
    refine hl.run pins s σ H R I ⟨B, ρ, fa, _, e1, S, fun x H1 z r => ?_⟩
    obtain ⟨pa, vs, rfl, t, rr⟩ := r.fz
    exact ⟨pa, vs, rfl, t.sql, q _ H1 z (src_enum (S.ext z) rr fun H2 z2 => (gd_fz (S.ext z) z2 t).sql)⟩
theorem si_zip (C : Ctx lb X Γ) {elts : List Expr} {kk : Nat} {tpos : Pos} (hg : Gl X "zip") (hs : notStar a = true) (hs2 : notStar b = true) (ha : PE X a (rd X.K f)) (hb : PE X b (rd X.K g)) :
    PI X (.Tuple elts kk tpos) (.Call (.Name "zip" p) [a, b] [] pos) (rdI X.K fun ρ => do let x ← f ρ; let y ← g ρ; zipOf x y) := by
  refine pi_le (pi_zipA hg (C.blt _ (by simp [bltNames])) (pa_cons ha (pa_cons hb pa_nil (star_of hs2)) (star_of hs)) (star_of hs) (pl_of (by simp [allNS, hs2]))) fun σ H R hh => ?_
  obtain ⟨B, ρ, bb, ds, hf, S, q⟩ := hh
  cases e1 : f ρ with
  | none => simp [e1] at hf
  | some x =>
  cases e2 : g ρ with
  | none => simp [e1, e2] at hf
  | some y =>
  obtain ⟨fa, da⟩ := x
  obtain ⟨fb, db⟩ := y
  simp only [e1, e2, Option.bind_eq_bind, Option.bind_some] at hf
  cases da <;> cases db <;> simp only [zipOf, reduceCtorEq, Option.some.injEq, Prod.mk.injEq] at hf
  · obtain ⟨rfl, rfl⟩ := hf
    refine ⟨B, ρ, fa, _, e1, S, fun x H1 z r => ⟨B, ρ, fb, _, e2, S.ext z, fun y H2 z2 r2 => ?_⟩⟩
    obtain ⟨pa, vs, rfl, t, rr⟩ := (r.ext z2).tup
    obtain ⟨pb, ws, rfl, t2, rr2⟩ := r2.tup
    exact ⟨pa, pb, vs, ws, rfl, .inr ⟨t, t2, q _ H2 (z.trans z2) (src_zipG (S.ext (z.trans z2)) rr rr2 (walk_zipT rfl) fun H3 z3 => ⟨gd_sqt (S.ext (z.trans z2)) z3 t, gd_sqt (S.ext (z.trans z2)) z3 t2⟩)⟩⟩
  · obtain ⟨rfl, rfl⟩ := hf
    refine ⟨B, ρ, fa, _, e1, S, fun x H1 z r => ⟨B, ρ, fb, _, e2, S.ext z, fun y H2 z2 r2 => ?_⟩⟩
    obtain ⟨pa, vs, rfl, t, rr, hn⟩ := (r.ext z2).lstN S
    obtain ⟨pb, ws, rfl, t2, rr2, hn2⟩ := (r2.back z).lstN S
    refine ⟨pa, pb, vs, ws, rfl, .inl ⟨SqL.of t, SqL.of t2, q _ H2 (z.trans z2) (src_zipG (S.ext (z.trans z2)) rr rr2 (walk_zip rfl) fun H3 z3 => ⟨SqL.of (gd_at t (fun w => hn (by rw [Bool.or_eq_false_iff] at w; exact w.1)) z3), SqL.of (gd_at t2 (fun w => hn2 (by rw [Bool.or_eq_false_iff] at w; exact w.2)) z3)⟩)⟩⟩
end
end DD
set_option Elab.async false
set_option linter.all false
set_option maxRecDepth 100000
set_option maxHeartbeats 4000000
namespace DD
open PySem L2 PyProof.Rows RZ
variable [Tb : Tbl] {lb : Bool}
theorem src_walk {K : PySem.W.Frag} {B : Bs} {ρ : Rho} {σ : L2.St} {H : Hp} {bb : Bool} {J : It} {ds : List D} (s : Src K B ρ σ bb H J ds) :
    Walk J ds.length (fun H2 => Ext (Gd ρ σ bb H) H2) (fun i H2 x H3 => Ext H2 H3 ∧ ∃ d, ds[i]? = some d ∧ Rp K (fun a => Nsh B ρ σ a ∧ ∃ o, H a = some o) H3 d x) :=
  ⟨fun i H2 hi e => ((s H2 e).1 i ds[i] (by simp [hi])).1, fun H2 e => (s H2 e).2, fun i H2 x H3 hi e y => let q := ((s H2 e).1 i ds[i] (by simp [hi])).2 x H3 y; ⟨q.1, ds[i], by simp [hi], q.2⟩⟩
section
variable {X : Cx} {Γ : Gam} {f g h : Rho → Option (Fl × D)} {pos p : Pos} {a b c e tg : Expr}
theorem tgIn_of {own : List Nat} {t : Tg} (h : tgIn own t = true) : ∀ j, j ∉ own → j ∉ tgS t := by
  intro j hj z
  cases t with
  | nm i =>
    simp only [tgIn, tgS, List.mem_singleton] at h z
    subst z
    exact hj (by simpa using h)
  | tp is =>
    simp only [tgIn, tgS, List.all_eq_true] at h z
    exact hj (by simpa using h j z)
def lcF (fi : Rho → Option (Bool × List D)) (fc : Rho → Option Bool) (fe : Rho → Option (Fl × D)) (own : List (Str × Nat)) (t : Tg) : Rho → Option (Fl × D) := fun ρ => do
      let ds ← fi ρ
      if decide (ds.2.length ≤ lim) && noOwn ρ (own.map (·.2)) then do
        let es ← lcGo t fc fe (wipeR ρ (own.map (·.2))) ds.2
        some (.fr, .lst es)
      else none
theorem lc_le {fi : Rho → Option (Bool × List D)} {fc : Rho → Option Bool} {fe : Rho → Option (Fl × D)} {own : List (Str × Nat)} {t : Tg} (htg : tgIn (own.map (·.2)) t = true) {σ : L2.St} {H : Hp} {Q : VK} (hh : rd X.K (lcF fi fc fe own t) σ H Q) :
    tLc (rdI X.K fi) (tgR X.K t) (rdT X.K fc) (rd X.K fe) (own.map (·.2)) σ H Q := by
  obtain ⟨B, ρ, fl, d, hf, S, q⟩ := hh
  unfold lcF at hf
  cases e1 : fi ρ with
  | none => simp [e1] at hf
  | some x =>
  obtain ⟨bb, ds⟩ := x
  simp only [e1, Option.bind_eq_bind, Option.bind_some] at hf
  split at hf
  case isFalse => cases hf
  rename_i hz
  rw [Bool.and_eq_true, decide_eq_true_eq] at hz
  obtain ⟨hlen, hno⟩ := hz
  generalize hvs : own.map (·.2) = vs at *
  cases e2 : lcGo t fc fe (wipeR ρ vs) ds with
  | none => simp [e2] at hf
  | some es =>
  simp only [e2, Option.bind_some, Option.some.injEq, Prod.mk.injEq] at hf
  obtain ⟨rfl, rfl⟩ := hf
  refine ⟨B, ρ, bb, ds, e1, S, fun J H1 z1 src D hD => ?_⟩
  refine lc_it (src_walk src) (fun i H2 => ∃ done rest acc, lcGo t fc fe (wipeR ρ vs) (ds.drop i) = some rest ∧ es = done ++ rest ∧ done.length ≤ i ∧ H2 D = some (.lst acc) ∧
      Rps X.K (fun b => Nsh B ρ σ b ∧ b ≠ D) H2 done acc ∧ Ext H1 H2) ?_ ?_ ?_ ?_
  · exact ⟨[], es, [], by simpa using e2, rfl, Nat.le_refl _, upd_same, Rps.nil, Ext.new hD⟩
  · intro i H2 _ ⟨_, _, _, _, _, _, _, _, ex⟩
    exact gd_le.trans ex
  · rintro i x H2 H3 hlt ⟨done, rest, acc, g1, g2, g3, g4, g5, g6⟩ ⟨ex3, d, hd, rx⟩
    have eD : ds.drop i = d :: ds.drop (i + 1) := by
      obtain ⟨h1, h2⟩ := List.getElem?_eq_some_iff.mp hd
      rw [← h2]; exact List.drop_eq_getElem_cons h1
    rw [eD] at g1
    simp only [lcGo, Option.bind_eq_bind] at g1
    cases hb : bindT t d (wipeR ρ vs) with
    | none => simp [hb] at g1
    | some ρ1 =>
    rw [hb, Option.bind_some] at g1
    cases hcc : fc ρ1 with
    | none => simp [hcc] at g1
    | some b =>
    rw [hcc, Option.bind_some] at g1
    have S3 := (S.ext z1).hide hD (g6.trans ex3) (ex3.lst g4)
    have Sw := S3.wipe rfl vs
    have ownw : ∀ a, Own (wipeR ρ vs) (L2.wipe σ vs) a → Own ρ σ a := by
      rintro a ⟨j, e', h1, h2⟩
      have hj := wipeR_in h1
      rw [wipeR_out hj] at h1
      rw [wipe_out hj] at h2
      exact ⟨j, e', h1, h2⟩
    have rx' := Rp.imp (N' := Nsh { B with S := fun a => B.S a ∧ a ≠ D, P := [] } (wipeR ρ vs) (L2.wipe σ vs)) (fun a o _ n => ⟨⟨n.1.1, fun w => by
      obtain ⟨_, o', ho'⟩ := n
      subst w; rw [hD] at ho'; cases ho'⟩, fun w => n.1.2 (ownw a w)⟩) rx
    obtain ⟨σ', S4, q4, l4, o4, w4, u4⟩ := bind_ok (fun _ _ _ z => by cases z) Sw rx' hb
    refine q4 _ ⟨?_, ?_⟩
    · refine wipe_same (by rw [l4, wipe_length]) fun j hj => ?_
      rw [o4 j (tgIn_of htg j hj), wipe_out hj]
    · refine ⟨_, ρ1, b, hcc, S4, fun H4 e4 => ?_⟩
      cases b with
      | false =>
        rw [if_neg Bool.false_ne_true] at g1 ⊢
        exact ⟨done, rest, acc, g1, g2, Nat.le_succ_of_le g3, e4.lst (ex3.lst g4), Rps.ext (ex3.trans e4) g5, (g6.trans ex3).trans e4⟩
      | true =>
        rw [if_pos rfl] at g1 ⊢
        cases hee : fe ρ1 with
        | none => simp [hee] at g1
        | some r =>
        obtain ⟨fl, dd⟩ := r
        rw [hee, Option.bind_some] at g1
        split at g1
        case isFalse => cases g1
        rename_i hshb
        cases hrest : lcGo t fc fe (wipeR ρ vs) (ds.drop (i + 1)) with
        | none => simp [hrest] at g1
        | some rest' =>
        rw [hrest, Option.bind_some, Option.some.injEq] at g1
        subst g1
        refine ⟨_, ρ1, fl, dd, hee, S4.ext e4, fun y H5 e5 r5 => ?_⟩
        have hD5 : H5 D = some (.lst acc) := e5.lst (e4.lst (ex3.lst g4))
        have g5' : Rps X.K (fun b => Nsh B ρ σ b ∧ b ≠ D) H5 done acc := Rps.ext ((ex3.trans e4).trans e5) g5
        refine ⟨acc, hD5, ?_, done ++ [dd], rest', acc ++ [y], rfl, by rw [g2]; simp, by rw [List.length_append]; exact Nat.succ_le_succ g3, upd_same, ?_, ?_⟩
        · rw [← g5'.length]
          exact sz_lt (by omega)
        · have ry := r5.shb (S4.ext e4) hshb
          have ry' : Rp X.K (fun b => Nsh B ρ σ b ∧ b ≠ D) H5 dd y := Rp.imp (fun a o _ n => ⟨⟨n.1.1, fun w => n.2 (by
            have w2 := own_wipe hno w
            obtain ⟨j, e', h1, h2⟩ := w2
            have hj := tgIn_of htg j (wipeR_in h1)
            exact ⟨j, e', by rw [u4 j hj]; exact h1, by rw [o4 j hj]; exact h2⟩)⟩, n.1.2⟩) ry
          exact Rps.append (Rps.mut hD5 trivial (fun a o _ n => n.2) g5') (Rps.one (Rp.mut hD5 trivial (fun a o _ n => n.2) ry'))
        · exact (((g6.trans ex3).trans e4).trans e5).mut hD hD5 trivial
  · rintro H2 ⟨done, rest, acc, g1, g2, g3, g4, g5, g6⟩
    rw [List.drop_length] at g1
    simp only [lcGo, Option.some.injEq] at g1
    subst g1
    rw [List.append_nil] at g2
    subst g2
    refine q _ H2 (z1.trans g6) ?_
    simp only [Res, Sep]
    exact ⟨D, acc, rfl, z1.back hD, g4, g5⟩
theorem s_lc {fi : Rho → Option (Bool × List D)} {fc : Rho → Option Bool} {fe : Rho → Option (Fl × D)} {own : List (Str × Nat)} {t : Tg} {elt iter : Expr} {ifs : List Expr} {scope : Scope}
    (hc : X.calm = true) (hN : X.N.Nodup) (hi : PI X tg iter (rdI X.K fi)) (ok : BlkOk X.N X.env.scope scope own) (htg : tgIn (own.map (·.2)) t = true)
    (hg : ∀ (s : Shared) (H : Hp) (C : Addr) (cl : List (Str × Addr)) (fp : List Addr), PG (X.blk s H scope (compEnvC scope cl C X.env) fp) tg (tgR X.K t))
    (ht : ∀ (s : Shared) (H : Hp) (C : Addr) (cl : List (Str × Addr)) (fp : List Addr), PTs (X.blk s H scope (compEnvC scope cl C X.env) fp) ifs (rdT X.K fc))
    (he : ∀ (s : Shared) (H : Hp) (C : Addr) (cl : List (Str × Addr)) (fp : List Addr), PE (X.blk s H scope (compEnvC scope cl C X.env) fp) elt (rd X.K fe))
    (hs : ∀ x, foldedSetIterable iter X.env x = pure x) :
    PE X (.ListComp elt [⟨tg, iter, ifs, 0⟩] scope pos) (rd X.K (lcF fi fc fe own t)) := by
  exact pe_le (pe_lc hc hN hi ok hg ht he hs) fun σ H Q hh => lc_le htg hh
theorem Ctx.blk (C : Ctx lb X Γ) {s : Shared} {H : Hp} {scope : Scope} {cenv : PySem.Env} {fp : List Addr} : Ctx false (X.blk s H scope cenv fp) Γ :=
  ⟨C.nd, C.calm, C.units, C.blt, fun k x n F h => ⟨(C.fn k x n F h).ex⟩, fun k q h => ⟨(C.mf k q h).ex⟩, C.gl, C.cl, fun k x n F h => ⟨(C.tc k x n F h).ex⟩, fun j q h => ⟨(C.fc j q h).ex⟩, fun j q h => ⟨(C.fb j q h).ex⟩, C.lm, (fun h => by cases h), fun j q h => ⟨(C.m2 j q h).ex⟩⟩
theorem s_yes : PTs X [] (rdT X.K fun _ => some true) := by
  refine ⟨fun pins s σ H Q I hh => pts_nil.run pins s σ H Q I ?_⟩
  obtain ⟨B, ρ, b, hf, S, q⟩ := hh
  cases hf
  exact q H (Ext.refl H)
end
section
variable {Γ : Gam}
theorem ev_bin {k a b} : ev Γ (.bin k a b) = (fun ρ => do let x ← ev Γ a ρ; let y ← ev Γ b ρ; ofD (dBin k x.2 y.2)) := by funext ρ; simp only [ev]
theorem ev_neg {a} : ev Γ (.neg a) = (fun ρ => do let x ← ev Γ a ρ; match x.2 with | .int i => some (.fr, .int (-i)) | _ => none) := by funext ρ; simp only [ev] <;> rfl
theorem ev_cmp {k a b} : ev Γ (.cmp k a b) = (fun ρ => do let x ← ev Γ a ρ; let y ← ev Γ b ρ; ofB (dCmp k x.2 y.2)) := by funext ρ; simp only [ev]
theorem ev_cmp2 {k k' a b c} : ev Γ (.cmp2 k k' a b c) = (fun ρ => do let x ← ev Γ a ρ; let y ← ev Γ b ρ; let u ← dCmp k x.2 y.2; if u then do { let z ← ev Γ c ρ; ofB (dCmp k' y.2 z.2) } else ofB (some false)) := by funext ρ; simp only [ev]
theorem ev_isN {n a} : ev Γ (.isN n a) = (fun ρ => do let x ← ev Γ a ρ; ofB (some (match x.2 with | .non => !n | _ => n))) := by funext ρ; simp only [ev] <;> rfl
theorem ev_isB {n b a} : ev Γ (.isB n b a) = (fun ρ => do let x ← ev Γ a ρ; match x.2 with | .bl c => ofB (some (if n then !decide (c = b) else decide (c = b))) | _ => none) := by funext ρ; simp only [ev] <;> rfl
theorem ev_and {a b} : ev Γ (.and a b) = dAnd (ev Γ a) (ev Γ b) := by funext ρ; simp only [ev, dAnd]
theorem ev_or {a b} : ev Γ (.or a b) = dOr (ev Γ a) (ev Γ b) := by funext ρ; simp only [ev, dOr]
theorem ev_not {a} : ev Γ (.not a) = (fun ρ => do let x ← toB (ev Γ a ρ); ofB (some (!x))) := by funext ρ; simp only [ev]
theorem ev_tup {as} : ev Γ (.tup as) = (fun ρ => do let rs ← evs Γ as ρ; if allShb rs && decide (rs.length ≤ lim) then some (.fr, .tup (rs.map (·.2))) else none) := by funext ρ; simp only [ev]
theorem ev_lst {as} : ev Γ (.lst as) = (fun ρ => do let rs ← evs Γ as ρ; if allShb rs && decide (rs.length ≤ lim) then some (.fr, .lst (rs.map (·.2))) else none) := by funext ρ; simp only [ev]
theorem ev_ix {a b} : ev Γ (.ix a b) = (fun ρ => do let x ← ev Γ a ρ; let y ← ev Γ b ρ; (dIx x.2 y.2).map fun d => (.sh, d)) := by funext ρ; simp only [ev]
theorem ev_sl {a lo hi} : ev Γ (.sl a lo hi) = (fun ρ => do let x ← ev Γ a ρ; let l ← evo Γ lo ρ; let h ← evo Γ hi ρ; ofD (dSl x.2 l h)) := by funext ρ; simp only [ev]
theorem ev_bi {b as} : ev Γ (.bi b as) = (fun ρ => do let rs ← evs Γ as ρ; ofD (dBI b (rs.map (·.2)))) := by funext ρ; simp only [ev]
theorem ev_isi {T a} : ev Γ (.isi T a) = (fun ρ => do let x ← ev Γ a ρ; ofB (dIsi T x.2)) := by funext ρ; simp only [ev]
theorem ev_isi2 {T U a} : ev Γ (.isi2 T U a) = (fun ρ => do let x ← ev Γ a ρ; let b ← dIsi T x.2; if b then ofB (some true) else ofB (dIsi U x.2)) := by funext ρ; simp only [ev]
theorem ev_call {f as} : ev Γ (.call f as) = (fun ρ => do let rs ← evs Γ as ρ; let F ← Γ.fn[f]?; if rs.length = F.2.1 then ofD (F.2.2 (rs.map (·.2))) else none) := by funext ρ; simp only [ev]
theorem ev_lrev {a} : ev Γ (.lrev a) = (fun ρ => do let x ← ev Γ a ρ; match x.2 with | .lst ds => some (.fr, .lst ds.reverse) | .tup ds => some (.fr, .tup ds.reverse) | _ => none) := by funext ρ; simp only [ev] <;> rfl
theorem ev_mcl {f as} : ev Γ (.mcl f as) = (fun ρ => do let rs ← evs Γ as ρ; let q ← Γ.mf[f]?; mclR q rs) := by funext ρ; simp only [ev]
theorem ev_lrv {a} : ev Γ (.lrv a) = (fun ρ => do let x ← ev Γ a ρ; match x.2 with | .lst ds => some (.fr, .lst ds.reverse) | _ => none) := by funext ρ; simp only [ev] <;> rfl
theorem ev_srt {a} : ev Γ (.srt a) = (fun ρ => do let x ← ev Γ a ρ; ofD (dSrt x.2)) := by funext ρ; simp only [ev]
theorem ev_dget1 {a k} : ev Γ (.dget1 a k) = (fun ρ => do let x ← ev Γ a ρ; let y ← ev Γ k ρ; (dGet x.2 y.2).map fun o => (.sh, o.getD .non)) := by funext ρ; simp only [ev]
theorem ev_dget2 {a k d} : ev Γ (.dget2 a k d) = (fun ρ => do let x ← ev Γ a ρ; let y ← ev Γ k ρ; let z ← ev Γ d ρ; if shb z.1 z.2 then (dGet x.2 y.2).map fun o => (.sh, o.getD z.2) else none) := by funext ρ; simp only [ev]
theorem ev_lc {own t it c e} : ev Γ (.lc own t it c e) = lcF (evi Γ it) (fun ρ1 => toB (ev Γ c ρ1)) (fun ρ1 => ev Γ e ρ1) own t := by funext ρ; simp only [ev, lcF]
theorem evs_cons {c cs} : evs Γ (.cons c cs) = (fun ρ => do let x ← ev Γ c ρ; let xs ← evs Γ cs ρ; some (x :: xs)) := by funext ρ; simp only [evs]
theorem evs_nil : evs Γ .nil = (fun _ => some []) := by funext ρ; simp only [evs]
theorem evo_none : evo Γ .none = (fun _ => some none) := by funext ρ; simp only [evo]
theorem evo_some {c} : evo Γ (.some c) = (fun ρ => do let x ← ev Γ c ρ; match x.2 with | .int i => some (some i) | _ => none) := by funext ρ; simp only [evo] <;> rfl
theorem evT_eq {c} : evT Γ c = fun ρ => toB (ev Γ c ρ) := rfl
end
theorem chks_ns {lb : Bool} {Γ : Gam} {sc : Scope} {N : List Str} : ∀ {as : CAs} {es : List Expr}, chks lb Γ sc N as es = true → allNS es = true
  | .nil, [], _ => rfl
  | .cons c cs, e :: es, h => by
    simp only [chks, Bool.and_eq_true] at h
    simp only [allNS, Bool.and_eq_true]
    exact ⟨h.1.1, chks_ns h.2⟩
  | .nil, _ :: _, h => by simp [chks] at h
  | .cons _ _, [], h => by simp [chks] at h
end DD
set_option Elab.async false
set_option linter.all false
set_option maxRecDepth 100000
set_option maxHeartbeats 4000000
namespace DD
open PySem L2 PyProof.Rows RZ
variable [Tb : Tbl] {lb : Bool}
/-- a dict's object -/
def DicO : HO → Prop
  | .dK _ => True
  | .dT _ => True
  | _ => False
section
variable {K : PySem.W.Frag} {N N' T T' : Addr → Prop} {H : Hp} {p : Addr} {od : Obj} {u : HO}
theorem unlock_sqt (hu : DicO u) (hp : H p = some (.frz od u)) {a : Addr} {xs : List V} (h : SqT K H a xs) : SqT K (upd H p u) a xs := by
  rcases h with (h | ⟨o, h⟩) | h
  · refine .inl (.inl ?_)
    rw [upd_ne]; exact h
    intro e; subst e; rw [hp] at h; cases h
  · refine .inl (.inr ⟨o, ?_⟩)
    rw [upd_ne]; exact h
    intro e; subst e; rw [hp] at h; cases h; exact hu
  · exact .inr h
theorem unlock_fz (hu : DicO u) (hp : H p = some (.frz od u)) {a : Addr} {xs : List V} (h : Fz K H a xs) : Fz K (upd H p u) a xs := by
  rcases h with ⟨o, h⟩ | h
  · refine .inl ⟨o, ?_⟩
    rw [upd_ne]; exact h
    intro e; subst e; rw [hp] at h; cases h; exact hu
  · exact .inr h
theorem keyV_rp {k : Key} : Rp K N H (keyV k) (kV k) := by cases k <;> simp only [keyV, kV, Rp]
theorem keyV_rps : ∀ {ks : List Key}, Rps K N H (ks.map keyV) (ks.map kV)
  | [] => Rps.nil
  | k :: ks => Rps.cons keyV_rp keyV_rps
end
section
variable {K : PySem.W.Frag} {B : Bs} {ρ : Rho} {σ : L2.St} {H : Hp}
theorem src_keysK {p : Addr} {od : Obj} {kvs : List (Key × V)} (h : H p = some (.frz od (.dK kvs))) (no : ¬ Own ρ σ p) : Src K B ρ σ false H (Itk p od kvs) ((kvs.map (·.1)).map keyV) := by
  intro H2 e
  have h2 : H2 p = some (.frz od (.dK kvs)) := gd_at h (fun _ => no) e
  refine ⟨fun i d hd => ?_, h2, by simp⟩
  rw [List.getElem?_map, List.getElem?_map] at hd
  cases hk : kvs[i]? with
  | none => rw [hk] at hd; cases hd
  | some kv =>
  rw [hk] at hd
  cases hd
  refine ⟨⟨h2, (List.getElem?_eq_some_iff.mp hk).1⟩, fun x H3 y => ?_⟩
  obtain ⟨rfl, k, v, hkv, rfl⟩ := y
  rw [hk] at hkv
  cases hkv
  exact ⟨Ext.refl _, keyV_rp⟩
theorem src_keysT {p : Addr} {od : Obj} {kvs : List (List Key × V)} (h : H p = some (.frz od (.dT kvs))) (no : ¬ Own ρ σ p) : Src K B ρ σ false H (Itkt p od kvs) ((kvs.map (·.1)).map fun k => .tup (k.map keyV)) := by
  intro H2 e
  have h2 : H2 p = some (.frz od (.dT kvs)) := gd_at h (fun _ => no) e
  refine ⟨fun i d hd => ?_, h2, by simp⟩
  rw [List.getElem?_map, List.getElem?_map] at hd
  cases hk : kvs[i]? with
  | none => rw [hk] at hd; cases hd
  | some kv =>
  rw [hk] at hd
  cases hd
  refine ⟨⟨h2, (List.getElem?_eq_some_iff.mp hk).1⟩, fun x H3 y => ?_⟩
  obtain ⟨rfl, k, v, q, hkv, rfl, hq⟩ := y
  rw [hk] at hkv
  cases hkv
  refine ⟨Ext.refl _, ?_⟩
  simp only [Rp]
  exact ⟨q, _, rfl, SqT.of hq, keyV_rps⟩
/-- the dict of a slot -/
theorem StOk.cellC {i : Nat} {d : D} {ds : List D} (S : StOk K B ρ σ H) (h : ρ[i]? = some (some (.ow d))) (hk : keysD d = some ds) : ∃ p u, σ[i]? = some (some (.ref p)) ∧ H p = some u ∧ DicO u ∧ Mut (some u) ∧
    (∀ (B' : Bs) (ρ' : Rho) (σ' : L2.St) (od : Obj), ¬ Own ρ' σ' p → ∃ J, Src K B' ρ' σ' false (upd H p (.frz od u)) J ds ∧ ∀ {R : It → Hp → Prop}, R J (upd H p (.frz od u)) → iKeys (tVar i) σ (upd H p (.frz od u)) R) := by
  cases d <;> simp only [keysD, reduceCtorEq, Option.some.injEq] at hk
  · obtain ⟨v, h1, _, h3⟩ := S.ow i _ h
    simp only [Sep] at h3
    obtain ⟨p, kvs, rfl, _, t, ek, r⟩ := h3
    subst ek; subst hk
    refine ⟨p, _, h1, t, trivial, trivial, fun B' ρ' σ' od no => ⟨Itk p od kvs, src_keysK upd_same no, fun {R} hR => ?_⟩⟩
    exact ⟨_, h1, p, od, rfl, .inl ⟨kvs, upd_same, hR⟩⟩
  · obtain ⟨v, h1, _, h3⟩ := S.ow i _ h
    simp only [Sep] at h3
    obtain ⟨p, kvs, rfl, _, t, ek, r⟩ := h3
    subst ek; subst hk
    refine ⟨p, _, h1, t, trivial, trivial, fun B' ρ' σ' od no => ⟨Itkt p od kvs, src_keysT upd_same no, fun {R} hR => ?_⟩⟩
    exact ⟨_, h1, p, od, rfl, .inr ⟨kvs, upd_same, hR⟩⟩
/-- an owned cell is given something else, its slot forgotten -/
theorem StOk.drop {i : Nat} {d0 : D} {a : Addr} {o o' : HO} (S : StOk K B ρ σ H) (h1 : ρ[i]? = some (some (.ow d0))) (h2 : σ[i]? = some (some (.ref a))) (ho : H a = some o) (q2 : MutO o) : StOk K B (ρ.set i none) σ (upd H a o') := by
  have own : Own ρ σ a := ⟨i, d0, h1, h2⟩
  obtain ⟨_, _, _, q3, q4, q5⟩ := S.own own
  have look : ∀ {j : Nat} {sl : Sl}, (ρ.set i none)[j]? = some (some sl) → i ≠ j ∧ ρ[j]? = some (some sl) := by
    intro j sl g
    by_cases hj : i = j
    · subst hj
      by_cases hi : i < ρ.length
      · rw [List.getElem?_set_self hi] at g; cases g
      · rw [List.getElem?_eq_none (by simpa using hi)] at g; cases g
    · rw [List.getElem?_set_ne hj] at g; exact ⟨hj, g⟩
  have nsh : ∀ b, Nsh B ρ σ b → Nsh B (ρ.set i none) σ b := fun b n => ⟨n.1, fun z => n.2 (by
    obtain ⟨j, e, g1, g2⟩ := z
    exact ⟨j, e, (look g1).2, g2⟩)⟩
  have na : ∀ b o, H b = some o → Nsh B ρ σ b → b ≠ a := fun b _ _ n z => n.2 (z ▸ own)
  refine ⟨by simp [S.len], S.keep.mut q5 ho q2, fun b g => ?_, fun j e g => ?_, fun j e g => ?_, fun j k e e' b g1 g2 g3 g4 => ?_, S.pin, fun p hp => tbl_mut ho q2 (S.tabs p hp), fun j w g => ?_⟩
  · have : b ≠ a := fun z => by subst z; rw [upd_same] at g; cases g
    rw [upd_ne this] at g; exact S.fresh b g
  · obtain ⟨hj, g⟩ := look g
    obtain ⟨w, w1, w2⟩ := S.sh j e g
    exact ⟨w, w1, Rp.imp (fun b _ _ n => nsh b n) (Rp.mut ho q2 na w2)⟩
  · obtain ⟨hj, g⟩ := look g
    obtain ⟨w, w1, w2, w3⟩ := S.ow j e g
    refine ⟨w, w1, w2, ?_⟩
    have wa : w ≠ .ref a := fun z => hj (S.dis i j d0 e a h1 g h2 (z ▸ w1))
    revert w3
    cases e <;> simp [isMut] at w2 <;> intro w3 <;> simp only [Sep] at w3 ⊢
    · obtain ⟨p, vs, ep, tt, t, r⟩ := w3
      have pa : p ≠ a := fun z => wa (by rw [ep, z])
      exact ⟨p, vs, ep, tt, by rw [upd_ne pa]; exact t, Rps.imp (fun b _ _ n => ⟨nsh b n.1, n.2⟩) (Rps.mut ho q2 (fun b o z n => na b o z n.1) r)⟩
    · obtain ⟨p, vs, ep, tt, t, k, r⟩ := w3
      have pa : p ≠ a := fun z => wa (by rw [ep, z])
      exact ⟨p, vs, ep, tt, by rw [upd_ne pa]; exact t, k, Rps.imp (fun b _ _ n => ⟨nsh b n.1, n.2⟩) (Rps.mut ho q2 (fun b o z n => na b o z n.1) r)⟩
    · obtain ⟨p, vs, ep, tt, t, k, r⟩ := w3
      have pa : p ≠ a := fun z => wa (by rw [ep, z])
      exact ⟨p, vs, ep, tt, by rw [upd_ne pa]; exact t, k, Rps.imp (fun b _ _ n => ⟨nsh b n.1, n.2⟩) (Rps.mut ho q2 (fun b o z n => na b o z n.1) r)⟩
  · exact S.dis j k _ _ b (look g1).2 (look g2).2 g3 g4
  · obtain ⟨a1, a2, a3⟩ := S.clo j w (look g).2
    refine ⟨a1, ?_, Rps.imp (fun b _ _ n => nsh b n) (Rps.mut ho q2 na a3)⟩
    rw [upd_ne (fun z => by rw [z, ho] at a2; cases a2; exact q2)]; exact a2
theorem DicO.mut {u : HO} (h : DicO u) : MutO u := by cases u <;> first | trivial | exact h.elim
end
section
variable {X : Cx} {Γ : Gam} {f g h : Rho → Option (Fl × D)} {pos p : Pos} {a b c e tg : Expr}
def lcdF (i : Nat) (fc : Rho → Option Bool) (fe : Rho → Option (Fl × D)) (own : List (Str × Nat)) (t : Tg) : Rho → Option (Fl × D) := fun ρ =>
  match ρ[i]? with
  | some (some (.ow d)) => match keysD d with
    | some ds => (lcF (fun _ => some (false, ds)) fc fe own t (lockR ρ i d)).bind fun r => match r.2 with | .lst es => if immL es then some r else none | _ => none
    | none => none
  | _ => none
theorem set_same {α : Type} : ∀ {l : List α} {i : Nat} {x : α}, l[i]? = some x → l.set i x = l
  | [], _, _, h => by simp at h
  | a :: l, 0, x, h => by simp at h; subst h; rfl
  | a :: l, i + 1, x, h => by
    simp only [List.getElem?_cons_succ] at h
    rw [List.set_cons_succ, set_same h]
theorem lcd_le {i : Nat} {fc : Rho → Option Bool} {fe : Rho → Option (Fl × D)} {own : List (Str × Nat)} {t : Tg} (htg : tgIn (own.map (·.2)) t = true) {σ : L2.St} {H : Hp} {Q : VK} (hh : rd X.K (lcdF i fc fe own t) σ H Q) :
    tLockE (tLc (iKeys (tVar i)) (tgR X.K t) (rdT X.K fc) (rd X.K fe) (own.map (·.2))) σ H Q := by
  obtain ⟨B, ρ, fl, d, hf, S, q⟩ := hh
  unfold lcdF at hf
  split at hf
  case h_2 => cases hf
  rename_i d0 hρ
  split at hf
  case h_2 => cases hf
  rename_i ds hk
  obtain ⟨p, u, hσ, hp, hu, hm, hsrc⟩ := S.cellC hρ hk
  refine ⟨p, u, hp, hm, fun od => ?_⟩
  have S1 := S.drop (o' := .frz od u) hρ hσ hp hu.mut
  have S0 : StOk X.K { B with P := [] } (ρ.set i none) σ (upd H p (.frz od u)) := ⟨S1.len, S1.keep, S1.fresh, S1.sh, S1.ow, S1.dis, (fun _ _ z => by cases z), S1.tabs, S1.clo⟩
  have S2 : StOk X.K { B with P := [] } (lockR ρ i d0) σ (upd H p (.frz od u)) := by
    cases d0 with
    | dic ks es =>
      obtain ⟨w, w1, w2, w3⟩ := S.ow i _ hρ
      simp only [Sep] at w3
      obtain ⟨p', kvs, ew, _, t0, ek, rr⟩ := w3
      rw [hσ] at w1; cases w1
      cases ew
      rw [hp] at t0; cases t0
      have nsh : ∀ b, Nsh B ρ σ b → Nsh { B with P := [] } (ρ.set i none) σ b := fun b n => ⟨n.1, fun z => n.2 (by
        obtain ⟨j, e, g1, g2⟩ := z
        by_cases hj : i = j
        · subst hj
          by_cases hi : i < ρ.length
          · rw [List.getElem?_set_self hi] at g1; cases g1
          · rw [List.getElem?_eq_none (by simpa using hi)] at g1; cases g1
        · rw [List.getElem?_set_ne hj] at g1; exact ⟨j, e, g1, g2⟩)⟩
      have hrp : Rp X.K (Nsh { B with P := [] } (ρ.set i none) σ) (upd H p (.frz od (.dK kvs))) (.fd ks es) (.ref p) := by
        simp only [Rp]
        exact ⟨p, kvs, rfl, ⟨od, upd_same⟩, ek, Rps.imp (fun b _ _ n => nsh b n.1) (Rps.mut hp hu.mut (fun b o z n => n.2) rr)⟩
      have S3 := S0.set i (fun _ z => by cases z) hrp
      have e1 : setS (ρ.set i none) i (.sh (.fd ks es)) = lockR ρ i (.dic ks es) := by simp [setS, lockR]
      rw [e1, set_same hσ] at S3
      exact S3
    | _ => exact S0
  cases hlc : lcF (fun _ => some (false, ds)) fc fe own t (lockR ρ i d0) with
  | none => rw [hlc] at hf; cases hf
  | some r0 =>
  rw [hlc, Option.bind_some] at hf
  split at hf
  case h_2 => cases hf
  rename_i es hr0
  split at hf
  case isFalse => cases hf
  rename_i himm
  have hl : r0.1 = .fr := by
    unfold lcF at hlc
    simp only [Option.bind_eq_bind, Option.bind_some] at hlc
    split at hlc
    · cases e2 : lcGo t fc fe (wipeR (lockR ρ i d0) (own.map (·.2))) ds with
      | none => rw [e2] at hlc; cases hlc
      | some es => rw [e2] at hlc; cases hlc; rfl
    · cases hlc
  obtain ⟨fl0, d1⟩ := r0
  simp only [] at hr0 hl
  subst hr0; subst hl
  cases hf
  have own_p : Own ρ σ p := ⟨i, d0, hρ, hσ⟩
  have key := lc_le (X := X) (fi := fun _ => some (false, ds)) (fc := fc) (fe := fe) (own := own) (t := t) htg (σ := σ) (H := upd H p (.frz od u)) (Q := fun v H' => H' p = some (.frz od u) ∧ Q v (upd H' p u)) ⟨_, _, .fr, .lst es, hlc, S2, fun v H' e r => ?_⟩
  · obtain ⟨B', ρ', b', ds', hf', S', k⟩ := key
    simp only [Option.some.injEq, Prod.mk.injEq] at hf'
    obtain ⟨rfl, rfl⟩ := hf'
    have no : ¬ Own ρ' σ p := fun z => by
      obtain ⟨o, q1, q2, _⟩ := S'.own z
      rw [upd_same] at q1; cases q1; exact q2
    obtain ⟨J, hs, hR⟩ := hsrc B' ρ' σ od no
    exact hR (k J _ (Ext.refl _) hs)
  · have hpH : H' p = some (.frz od u) := e.frz upd_same
    refine ⟨hpH, q v _ ⟨fun b o hb nt => ?_, fun h => fun r hr => tbl_upd hpH (fun _ z => by cases z) (fun _ _ z => by cases z) (e.tab (fun r' hr' => tbl_mut hp hu.mut (h r' hr')) r hr), fun b h => upd_none (e.dom b (upd_none h))⟩ ?_⟩
    · by_cases hbp : b = p
      · subst hbp; rw [hp] at hb; cases hb; exact upd_same
      · rw [upd_ne hbp]; exact e.to b o (by rw [upd_ne hbp]; exact hb) nt
    · simp only [Res, Sep] at r ⊢
      obtain ⟨a, vs, ea, t0, s, rr⟩ := r
      have na : a ≠ p := fun z => by subst z; rw [upd_same] at t0; cases t0
      exact ⟨a, vs, ea, by rw [upd_ne na] at t0; exact t0, by rw [upd_ne na]; exact s, Rps.im (fun _ _ z => unlock_sqt hu hpH z) (fun _ _ z => unlock_fz hu hpH z) _ _ himm rr⟩
theorem s_lcd {i : Nat} {fc : Rho → Option Bool} {fe : Rho → Option (Fl × D)} {own : List (Str × Nat)} {t : Tg} {elt iter : Expr} {ifs : List Expr} {scope : Scope}
    (hc : X.calm = true) (hN : X.N.Nodup) (hi : PE X iter (tVar i)) (ok : BlkOk X.N X.env.scope scope own) (htg : tgIn (own.map (·.2)) t = true)
    (hg : ∀ (s : Shared) (H : Hp) (C : Addr) (cl : List (Str × Addr)) (fp : List Addr), PG (X.blk s H scope (compEnvC scope cl C X.env) fp) tg (tgR X.K t))
    (ht : ∀ (s : Shared) (H : Hp) (C : Addr) (cl : List (Str × Addr)) (fp : List Addr), PTs (X.blk s H scope (compEnvC scope cl C X.env) fp) ifs (rdT X.K fc))
    (he : ∀ (s : Shared) (H : Hp) (C : Addr) (cl : List (Str × Addr)) (fp : List Addr), PE (X.blk s H scope (compEnvC scope cl C X.env) fp) elt (rd X.K fe))
    (hs : ∀ x, foldedSetIterable iter X.env x = pure x) :
    PE X (.ListComp elt [⟨tg, iter, ifs, 0⟩] scope pos) (rd X.K (lcdF i fc fe own t)) := by
  exact pe_le (pe_lock (pe_lc hc hN (pi_keys hi) ok hg ht he hs)) fun σ H Q hh => lcd_le htg hh
theorem ev_lcd {own : List (Str × Nat)} {t : Tg} {i : Nat} {c e : CE} : ev Γ (.lcd own t i c e) = lcdF i (fun ρ1 => toB (ev Γ c ρ1)) (fun ρ1 => ev Γ e ρ1) own t := by
  funext ρ
  rw [ev, lcdF]
  generalize ρ[i]? = o
  cases o with
  | none => rfl
  | some o =>
    cases o with
    | none => rfl
    | some sl =>
      cases sl with
      | sh d => rfl
      | cl v => rfl
      | ow d =>
        dsimp only
        cases keysD d with
        | none => rfl
        | some ds =>
          simp only [lcF, Option.bind_eq_bind, Option.bind_some]
          generalize lockR ρ i d = ρ'
          split
          · cases lcGo t (fun ρ1 => toB (ev Γ c ρ1)) (fun ρ1 => ev Γ e ρ1) (wipeR ρ' (own.map (·.2))) ds with
            | none => rfl
            | some es => simp only [Option.bind_some] <;> rfl
          · rfl
end
end DD
set_option Elab.async false
set_option linter.all false
set_option maxRecDepth 100000
set_option maxHeartbeats 4000000
namespace DD
open PySem L2 PyProof.Rows
variable [Tb : Tbl] {lb : Bool}
section
variable {X : Cx} {pins : List (Addr × Obj)} {σ : L2.St} {H : Hp} {s : Shared}
/-- what is told of the lambda just made -/
structure Made (X : Cx) (n : Str) (params : Arguments) (body : Expr) (scope : Scope) (f c' : Addr) (H1 : Hp) (h : Heap) : Prop where
  obj : ∃ pm ctv : Value, h.get? f = some (PySem.W.kla_obj "<lambda>" n params body scope (cloFrom X.env.cells scope.names []) pm c' ctv)
  out : H1 f = none
  nofr : f ∉ frs X.stack
  code : H1 c' = some (LamX.CodeO c' n)
theorem far_of (I : Inv X pins σ H s) {f : Addr} (hf : s.heap.objs.size ≤ f) : f ∉ frs X.stack := by
  intro z
  have z2 := I.stkSub _ z
  rw [List.mem_cons] at z2
  rcases z2 with e | e
  · exact absurd (Nat.lt_of_lt_of_le I.lt hf) (by rw [e]; exact Nat.lt_irrefl _)
  · exact I.nofs hf e
theorem lam_mk {c P : Addr} {n : Str} {params : Arguments} {body : Expr} {scope : Scope} {pos : Pos} {E Q : Value → Shared → Prop} (I : Inv X pins σ H s) (TB : LamX.TabB X.base X.mg c P) (hcode : X.env.code = .ref c) (hn : n = X.env.qual ++ "<lambda>")
    (hm : (P, n) ∈ Tb.T) (hu : ∀ p ∈ Tb.T, p.1 = P → p.2 = n) (hT : LamX.Tabs Tb.T H) (hdef : defaultsOf params X.env = ([], [])) (hfree : ∀ y ∈ scope.names, y.2 = .free → ∃ c, X.env.cells.lookup y.1 = some c)
    (k : ∀ (f c' : Addr) (H1 : Hp) (s' : Shared), Inv X pins σ H1 s' → Ext H H1 → Made X n params body scope f c' H1 s'.heap → Q (.ref f) s') :
    wpAny (model X.prog X.w) X.A (eval (.Lambda params body scope pos) X.env) Q E s := by
  subst hn
  obtain ⟨tb, tb1, tb2, tb3⟩ := hT _ hm
  have atP : s.heap.get? P = some { cls := .none, data := .fields tb } := I.hok P _ tb1
  have bl := TB.bm.keeps I.bk
  have gl := I.mod.glob.keeps I.bk
  have cd := TB.code.keeps I.bk
  apply PySem.W.kla_eval hdef
  cases found : codeAmong pos tb.toList with
  | some cv =>
    obtain ⟨c', rfl, hc'⟩ := tb3 pos cv found
    refine PySem.W.kla_makeFunctionHit (mg := X.mg) (closure_ok hfree) I.ok.glob gl hcode cd atP tb2 found bl fun ctv h' tk same big => ?_
    have J : Inv X pins σ H { s with heap := h'.push (PySem.W.kla_obj "<lambda>" (X.env.qual ++ "<lambda>") params body scope (cloFrom X.env.cells scope.names []) ((X.mg "__name__").getD .none) c' ctv), toks := tk } :=
      I.kept fun b o e => Heap.get?_push_of_some _ (same b o e)
    exact k _ c' H _ J (Ext.refl H) ⟨⟨_, ctv, Heap.get?_push_size _ rfl⟩, I.hok.fresh big, far_of I big, hc'⟩
  | none =>
    refine PySem.W.kla_makeFunction (mg := X.mg) (closure_ok hfree) I.ok.glob gl hcode cd atP tb2 found TB.gP bl fun c' ctv h' tk but lo hi rec grown => ?_
    obtain ⟨c2, oc, vs, t, e2, hoc, hd, hv⟩ := rec
    cases e2
    have big : s.heap.objs.size ≤ h'.objs.size := by omega
    have nC := I.hok.fresh lo
    have nPc : P ≠ c' := fun z => by rw [z, nC] at tb1; cases tb1
    have J := LamX.inv_table (t' := tk) (more := #[rawInt pos.line, rawInt pos.col, .ref c']) (h' := h'.push (PySem.W.kla_obj "<lambda>" (X.env.qual ++ "<lambda>") params body scope (cloFrom X.env.cells scope.names []) ((X.mg "__name__").getD .none) c' ctv)) (q := X.env.qual ++ "<lambda>") I tb1
      (fun b o hb e => Heap.get?_push_of_some _ (but b o hb e)) (Heap.get?_push_of_some _ grown) lo ⟨oc, vs, t, Heap.get?_push_of_some _ hoc, hd, hv⟩
    generalize hH1 : upd (upd H P (.tbl (tb ++ #[rawInt pos.line, rawInt pos.col, .ref c']))) c' (LamX.CodeO c' (X.env.qual ++ "<lambda>")) = H1 at J
    have at1 : H1 P = some (.tbl (tb ++ #[rawInt pos.line, rawInt pos.col, .ref c'])) := by rw [← hH1, upd_ne nPc, upd_same]
    have atc : H1 c' = some (LamX.CodeO c' (X.env.qual ++ "<lambda>")) := by rw [← hH1, upd_same]
    have other : ∀ b, b ≠ P → b ≠ c' → H1 b = H b := fun b n1 n2 => by rw [← hH1, upd_ne n2, upd_ne n1]
    have stay : ∀ b o, H b = some o → (∀ ps, o ≠ .tbl ps) → H1 b = some o := fun b o e nt => by
      rw [other b (fun z => by rw [z, tb1] at e; exact nt _ (Option.some.inj e).symm) (fun z => by rw [z, nC] at e; cases e)]
      exact e
    have z : Ext H H1 := by
      refine ⟨stay, fun _ => fun r hr => ?_, fun b e => ?_⟩
      · by_cases hb : r.1 = P
        · refine ⟨_, by rw [hb]; exact at1, ?_, fun p' cv hcv => ?_⟩
          · simpa using PySem.TriplesOk_snoc _ _ _ _ tb2
          · have hcv' : codeAmong p' (tb.toList ++ [rawInt pos.line, rawInt pos.col, Value.ref c']) = some cv := by simpa using hcv
            rw [hu r hr hb]
            rcases LamX.among_app _ tb2 hcv' with w | w
            · obtain ⟨c0, e1, e2⟩ := tb3 p' cv w
              exact ⟨c0, e1, stay _ _ e2 LamX.codeO_ne⟩
            · exact ⟨c', w, atc⟩
        · obtain ⟨ps, a1, a2, a3⟩ := hT r hr
          refine ⟨ps, ?_, a2, fun p' cv hcv => ?_⟩
          · rw [other _ hb (fun w => by rw [w, nC] at a1; cases a1)]; exact a1
          · obtain ⟨c0, e1, e2⟩ := a3 p' cv hcv
            exact ⟨c0, e1, stay _ _ e2 LamX.codeO_ne⟩
      · by_cases h1 : b = P
        · rw [h1, at1] at e; cases e
        · by_cases h2 : b = c'
          · rw [h2, atc] at e; cases e
          · rw [← other b h1 h2]; exact e
    have out : H1 h'.objs.size = none := by
      have ltP : P < s.heap.objs.size := Heap.lt_size atP
      rw [other _ (Nat.ne_of_gt (Nat.lt_of_lt_of_le ltP big)) (Nat.ne_of_gt hi)]
      exact I.hok.fresh big
    exact k _ c' H1 _ J z ⟨⟨_, ctv, Heap.get?_push_size _ rfl⟩, out, far_of I big, atc⟩
end
section
variable {X : Cx} {Γ : Gam} {fs : Rho → Option (List (Fl × D))} {pos p p2 lpos : Pos} {e : Expr} {es : List Expr}
theorem cloS_of {o : Option (Option Sl)} {v : CV} (h : cloS o = some v) : o = some (some (.cl v)) := by
  unfold cloS at h
  split at h
  · cases h; rfl
  · cases h
theorem s_app (C : Ctx lb X Γ) {i : Nat} {x : Str} (hi : X.N[i]? = some x) (hv : Vis X.env.scope x) (hd : (x == ("__debug__" : Str)) = false) (hcd : (x == ("__classdict__" : Str)) = false) (hn : allNS (e :: es) = true) (ha : PA X (e :: es) (rdA X.K fs)) :
    PE X (.Call (.Name x p) (e :: es) [] pos) (rd X.K fun ρ => do let v ← cloS ρ[i]?; let rs ← fs ρ; let φ ← Γ.ex.cl v; ofD (φ (rs.map (·.2)))) := by
  refine ⟨fun pins s σ H Q I hh => ?_⟩
  obtain ⟨B, ρ, fl, d, hf, S, q⟩ := hh
  simp only [Option.bind_eq_bind] at hf
  cases e0 : cloS ρ[i]? with
  | none => rw [e0] at hf; cases hf
  | some cv =>
  rw [e0, Option.bind_some] at hf
  cases e1 : fs ρ with
  | none => rw [e1] at hf; cases hf
  | some rs =>
  rw [e1, Option.bind_some] at hf
  cases e2 : Γ.ex.cl cv with
  | none => rw [e2] at hf; cases hf
  | some φ =>
  rw [e2, Option.bind_some] at hf
  cases e3 : φ (rs.map (·.2)) with
  | none => rw [e3] at hf; cases hf
  | some r =>
  simp only [e3, ofD, Option.map_some, Option.some.injEq, Prod.mk.injEq] at hf
  obtain ⟨rfl, rfl⟩ := hf
  obtain ⟨hσ, hco, hcap⟩ := S.clo i cv (cloS_of e0)
  obtain ⟨k, A, hr⟩ := C.cl cv φ e2
  simp only [allNS, Bool.and_eq_true] at hn
  have obj : ∀ {s' : Shared} {σ' : L2.St} {H' : Hp}, Inv X pins σ' H' s' → PySem.W.FnAt cv.a s'.heap := fun J => by
    obtain ⟨od, fd, sl, ho⟩ := A.obj
    exact ⟨_, od, fd, sl, J.bk _ _ ho⟩
  refine wpAny_Call_Name_kw (thn ((pe_var (pos := p) (i := i) hi hv hd hcd).run pins s σ H (fun v H1 => v = .ref cv.a ∧ H1 = H) I ⟨.ref cv.a, hσ, rfl, rfl⟩) fun u s1 ⟨v, H1, I1, r1, q1⟩ => ?_)
  obtain ⟨ev, eH⟩ := q1
  subst ev
  rw [eH] at I1
  obtain rfl : u = Value.ref cv.a := r1
  refine PySem.W.callWith_F (first := []) (obj I1) (thn (ha.run pos pins s1 σ H (fun vs H2 => Ext H H2 ∧ ResL X.K B ρ σ H H2 rs vs) I1 ⟨B, ρ, rs, e1, S, fun vs H2 z rl => ⟨z, rl⟩⟩) fun us s2 ⟨vs, H2, I2, rv, q2⟩ => ⟨obj I2, ?_⟩) (star_of hn.1) (pl_of hn.2)
  obtain ⟨z, rl⟩ := q2
  show wpAny _ _ (call (.ref cv.a) us) _ _ _
  refine wpAny_call (codeAny_mono (A.run X.A X.stack s2 H2 us vs (rs.map (·.2)) r Q (fun _ _ _ => False) hr I2.env0 (z.code hco) (Rps.imp (fun _ _ _ _ => trivial) (hcap.ext z)) e3 rl.any rv (z.tabs S.tabs) (fun u H3 z3 sep => q u H3 (z.trans z3) ?_)) fun r' s' hq => ?_)
  · exact Sep.imp (fun a o _ n0 => S.new (z.back n0)) (fun a o _ t => z.back t) sep
  · cases r' with
    | error e => exact (show False from hq).elim
    | ok fl =>
      cases fl with
      | ret u => exact I2.after hq
      | next => exact False.elim hq
      | brk => exact False.elim hq
      | cont => exact False.elim hq
theorem s_callC (C : Ctx lb X Γ) {k i : Nat} {g x : Str} (hk : (Γ.ex.tc.map (·.1))[k]? = some g) (hg : Gl X g) (hd : (g == ("__debug__" : Str)) = false) (hv : PE X (.Name x p2) (tVar i)) (hn : allNS es = true) (ha : PA X es (rdA X.K fs)) :
    PE X (.Call (.Name g p) (.Name x p2 :: es) [] pos) (rd X.K fun ρ => do let v ← cloS ρ[i]?; let rs ← fs ρ; let q ← Γ.ex.tc[k]?; if rs.length + 1 = q.2.1 then ofD (q.2.2 v (rs.map (·.2))) else none) := by
  refine ⟨fun pins s σ H Q I hh => ?_⟩
  obtain ⟨B, ρ, fl, d, hf, S, q⟩ := hh
  simp only [Option.bind_eq_bind] at hf
  cases e0 : cloS ρ[i]? with
  | none => rw [e0] at hf; cases hf
  | some cv =>
  rw [e0, Option.bind_some] at hf
  cases e1 : fs ρ with
  | none => rw [e1] at hf; cases hf
  | some rs =>
  rw [e1, Option.bind_some] at hf
  rw [List.getElem?_map] at hk
  cases e2 : Γ.ex.tc[k]? with
  | none => rw [e2] at hf; cases hf
  | some nF =>
  obtain ⟨y, n, F⟩ := nF
  rw [e2, Option.bind_some] at hf
  rw [e2] at hk
  simp only [Option.map_some, Option.some.injEq] at hk
  subst hk
  split at hf
  case isFalse => cases hf
  rename_i hl
  dsimp only at hf hl
  cases e3 : F cv (rs.map (·.2)) with
  | none => rw [e3] at hf; cases hf
  | some r =>
  simp only [e3, ofD, Option.map_some, Option.some.injEq, Prod.mk.injEq] at hf
  obtain ⟨rfl, rfl⟩ := hf
  obtain ⟨hσ, hco, hcap⟩ := S.clo i cv (cloS_of e0)
  obtain ⟨kk, fa, fd, ps, hps, G, hr, hm, hkp, hb⟩ := (C.tc k _ n F e2).ex
  refine (pe_call (E := fun _ _ _ => False) G hr hg hm hkp hb .nil pass0 (pa_cons hv ha (star_of rfl)) hd (star_of rfl) (pl_of hn)).run pins s σ H Q I ?_
  refine ⟨.ref cv.a, hσ, B, ρ, rs, e1, S, fun vs H1 z rl => ?_⟩
  refine ⟨cv, vs, rs.map (·.2), r, by rw [List.append_nil], e3, by rw [List.length_map]; exact hl, z.code hco, Rps.imp (fun _ _ _ _ => trivial) (hcap.ext z), rl.any, z.tabs S.tabs, fun v H2 z2 sep => q v H2 (z.trans z2) ?_⟩
  exact Sep.imp (fun a o _ n0 => S.new (z.back n0)) (fun a o _ t => z.back t) sep
/-- what the slots hold that are captured -/
theorem cap_ok {K : PySem.W.Frag} {B : Bs} {ρ : Rho} {σ : L2.St} {H : Hp} (S : StOk K B ρ σ H) : ∀ {cap : List Nat} {ds : List D}, capD ρ cap = some ds → ∃ ws : List V, cap.map (NdefX.slotAt σ) = ws.map some ∧ Rps K (Nsh B ρ σ) H ds ws
  | [], ds, h => by
    cases h
    exact ⟨[], rfl, Rps.nil⟩
  | i :: is, ds, h => by
    simp only [capD] at h
    split at h
    case h_2 => cases h
    rename_i d hd
    cases e : capD ρ is with
    | none => rw [e] at h; cases h
    | some ds' =>
    rw [e] at h
    cases h
    obtain ⟨ws, h1, h2⟩ := cap_ok S e
    obtain ⟨v, g1, g2⟩ := S.sh i d hd
    exact ⟨v :: ws, by rw [List.map_cons, List.map_cons, h1, NdefX.slotAt_of g1], Rps.cons g2 h2⟩
theorem capD_len {ρ : Rho} : ∀ {cap : List Nat} {ds : List D}, capD ρ cap = some ds → ds.length = cap.length
  | [], ds, h => by cases h; rfl
  | i :: is, ds, h => by
    simp only [capD] at h
    split at h
    case h_2 => cases h
    cases e : capD ρ is with
    | none => rw [e] at h; cases h
    | some ds' => rw [e] at h; cases h; simp [capD_len e]
/-- what is tracked, and the running frames, taken out of a heap -/
def baseOf (X : Cx) (H : Hp) (h : Heap) : Heap := PySem.W.hideAll h (trk h H ++ frs X.stack)
theorem baseOf_get {H : Hp} {h : Heap} {b : Addr} {o : Obj} (e : h.get? b = some o) (n : H b = none) (nf : b ∉ frs X.stack) : (baseOf X H h).get? b = some o :=
  PySem.W.hideAll_get _ e fun hm => by
    rcases List.mem_append.mp hm with z | z
    · have q : (H b).isSome = true := (List.mem_filter.mp z).2
      rw [n] at q; simp at q
    · exact nf z
theorem of_baseOf {H : Hp} {h : Heap} {b : Addr} {o : Obj} (e : (baseOf X H h).get? b = some o) : h.get? b = some o ∧ H b = none ∧ b ∉ frs X.stack := by
  have e' : h.get? b = some o := PySem.W.of_hideAll _ e
  refine ⟨e', ?_, fun z => ?_⟩
  · cases q : H b with
    | none => rfl
    | some x =>
      have z : (baseOf X H h).get? b = none := PySem.W.hideAll_none _ (List.mem_append.mpr (.inl (List.mem_filter.mpr ⟨List.mem_range.mpr (Heap.lt_size e'), by simp [q]⟩)))
      rw [z] at e; cases e
  · have z2 : (baseOf X H h).get? b = none := PySem.W.hideAll_none _ (List.mem_append.mpr (.inr z))
    rw [z2] at e; cases e
theorem base_nofr {pins : List (Addr × Obj)} {σ : L2.St} {H : Hp} {s : Shared} (I : Inv X pins σ H s) {b : Addr} {o : Obj} (e : X.base.get? b = some o) : b ∉ frs X.stack := fun z => by
  have := (I.stack.mem z).1
  rw [e] at this; cases this
theorem base_in {pins : List (Addr × Obj)} {σ : L2.St} {H : Hp} {s : Shared} (I : Inv X pins σ H s) {b : Addr} {o : Obj} (e : X.base.get? b = some o) : (baseOf X H s.heap).get? b = some o :=
  baseOf_get (I.bs b o e).1 (I.bs b o e).2 (base_nofr I e)
theorem base_mod {pins : List (Addr × Obj)} {σ : L2.St} {H : Hp} {s : Shared} (I : Inv X pins σ H s) : Mod X.K X.mg (baseOf X H s.heap) := by
  have k : ∀ b o, X.base.get? b = some o → (baseOf X H s.heap).get? b = some o := fun b o e => base_in I e
  obtain ⟨mb, h1, h2⟩ := I.mod.blt
  exact ⟨I.mod.kin.keeps k, I.mod.glob.keeps k, ⟨mb, h1.keeps k, h2⟩, I.mod.nolimit.keeps k⟩
theorem frames_base {h h' base : Heap} : ∀ {l : List Env}, h.FunFrames base l → (∀ b ∈ frs l, h'.get? b = none) → h.FunFrames h' l
  | [], _, _ => trivial
  | env :: rest, hl, hn => by
    obtain ⟨h1, ⟨L, o, e1, e2, e3, e4⟩, h2⟩ := hl
    refine ⟨h1, ⟨L, o, e1, hn L ?_, e3, e4⟩, frames_base h2 fun b hb => hn b ?_⟩
    · show L ∈ List.filterMap _ _
      rw [List.filterMap_cons, e1]; exact List.mem_cons_self
    · have : b ∈ List.filterMap (·.frame) (env :: rest) := by
        rw [List.filterMap_cons, e1]; exact List.mem_cons_of_mem _ hb
      exact this
theorem env0_base {pins : List (Addr × Obj)} {σ : L2.St} {H : Hp} {s : Shared} (I : Inv X pins σ H s) : Env0 X.prog X.w X.K X.mg (baseOf X H s.heap) X.A X.stack s H := by
  refine ⟨I.ok.frames, base_mod I, fun b o e => ⟨(of_baseOf e).1, (of_baseOf e).2.1⟩, ?_, frames_base I.stack fun b hb => ?_, I.stkFree, I.hok, I.bare⟩
  · exact Nat.le_of_eq (PySem.W.hideAll_size _ _)
  · exact PySem.W.hideAll_none _ (List.mem_append.mpr (.inr hb))
/-- a def called with a lambda made for it -/
theorem s_callL (C : Ctx lb X Γ) (hl : lb = true) {k l : Nat} {cap : List Nat} {g : Str} {params : Arguments} {body : Expr} {lsc : Scope} (hk : (Γ.ex.fc.map (·.nm))[k]? = some g) (hg : Gl X g) (hd : (g == ("__debug__" : Str)) = false)
    (hck : (match Γ.ex.lm[l]? with | some m => m.ck X.env.scope X.N cap params body lsc | none => false) = true) (hn : allNS es = true) (ha : PA X es (rdA X.K fs)) :
    PE X (.Call (.Name g p) (.Lambda params body lsc lpos :: es) [] pos) (rd X.K fun ρ => do let ds ← capD ρ cap; let rs ← fs ρ; let q ← Γ.ex.fc[k]?; let m ← Γ.ex.lm[l]?; if rs.length + 1 = q.n then ofD (callLR q m ds (rs.map (·.2))) else none) := by
  refine ⟨fun pins s σ H Q I hh => ?_⟩
  obtain ⟨B, ρ, fl, d, hf, S, q⟩ := hh
  simp only [Option.bind_eq_bind] at hf
  cases e0 : capD ρ cap with
  | none => rw [e0] at hf; cases hf
  | some ds =>
  rw [e0, Option.bind_some] at hf
  cases e1 : fs ρ with
  | none => rw [e1] at hf; cases hf
  | some rs =>
  rw [e1, Option.bind_some] at hf
  rw [List.getElem?_map] at hk
  cases e2 : Γ.ex.fc[k]? with
  | none => rw [e2] at hf; cases hf
  | some qf =>
  rw [e2, Option.bind_some] at hf
  rw [e2] at hk
  simp only [Option.map_some, Option.some.injEq] at hk
  subst hk
  cases e3 : Γ.ex.lm[l]? with
  | none => rw [e3] at hf; cases hf
  | some m =>
  rw [e3, Option.bind_some] at hf
  rw [e3] at hck
  dsimp only at hck
  split at hf
  case isFalse => cases hf
  rename_i hlen
  cases e4 : callLR qf m ds (rs.map (·.2)) with
  | none => rw [e4] at hf; cases hf
  | some r =>
  simp only [e4, ofD, Option.map_some, Option.some.injEq, Prod.mk.injEq] at hf
  obtain ⟨rfl, rfl⟩ := hf
  obtain ⟨kk, fa, fd, ps, hps, G, hr, hm, hkp, hb⟩ := (C.fc k qf e2).ex
  obtain ⟨hfree, hdef, fr, hjs, hfr, made⟩ := (C.lm l m e3).ok _ _ _ _ _ _ hck
  have hne : Γ.ex.lm ≠ [] := fun z => by rw [z] at e3; simp at e3
  obtain ⟨hfn, c, P, hcode, TB, hT, hu⟩ := C.tb hl hne
  refine wpAny_Call_Name_kw (ld_glob I hg hm ?_ hd)
  refine PySem.W.callWith_K (h₀ := X.base) I.ok.mod.kin hkp ?_ rfl (pl_of hn)
  show wpAny _ _ (spliced ((false, eval (.Lambda params body lsc lpos) X.env) :: backTo pos (starEach es X.env))) _ _ s
  refine Calls.spliced_cons (lam_mk I TB hcode rfl hT hu S.tabs (hdef X.env) (fun y hy e => (hfree y hy e).elim (fun z => I.ok.has _ (.inl z)) fun z => I.ok.has _ (.inr z)) fun f c' H1 s' I1 z M => ?_)
  obtain ⟨pm, ctv, ho⟩ := M.obj
  have hnl : f ≠ X.env.locals ∧ f ∉ X.fs := by
    rcases I1.ok.stk with e | ⟨e, e'⟩
    · have hfs : f ∉ X.fs := by
        show f ∉ frs X.outer
        rw [← e]; exact M.nofr
      refine ⟨fun w => ?_, hfs⟩
      obtain ⟨mm, ⟨o, es, ep, he, hdd, _⟩, _⟩ := I1.loc
      rw [← w, ho] at he
      cases he
      cases hdd
    · have h1 := M.nofr
      rw [e] at h1
      have h2 : f ∉ X.env.locals :: frs X.outer := by
        have : frs (X.env :: X.outer) = X.env.locals :: frs X.outer := by
          show List.filterMap _ _ = _
          rw [List.filterMap_cons, e'] <;> rfl
        rw [← this]; exact h1
      simp only [List.mem_cons, not_or] at h2
      exact h2
  have I1p : Inv X ((f, PySem.W.kla_obj "<lambda>" (X.env.qual ++ "<lambda>") params body lsc (cloFrom X.env.cells lsc.names []) pm c' ctv) :: pins) σ H1 s' := I1.pins_of fun p hp => by
    rcases List.mem_cons.mp hp with rfl | hp
    · exact ⟨ho, M.out, hnl.1, hnl.2, fun v w => by cases w⟩
    · exact I1.pin p (List.mem_append_right _ hp)
  refine thn (ha.run pos _ s' σ H1 (fun vs H2 => Ext H1 H2 ∧ ResL X.K B ρ σ H1 H2 rs vs) I1p ⟨B, ρ, rs, e1, S.ext z, fun vs H2 z2 rl => ⟨z2, rl⟩⟩) fun us s2 ⟨vs, H2, I2, rv, z2, rl⟩ => ⟨I2.kIn, ?_⟩
  show wpAny _ _ (call (.ref fa) (.ref f :: us)) _ _ _
  have zz := z.trans z2
  have atf := I2.pin (f, _) (List.mem_append_right _ List.mem_cons_self)
  obtain ⟨ws, hws, hcap⟩ := cap_ok S e0
  have cells := NdefX.cells_of I2 (NdefX.Caps.made (scope := lsc) I2.ok hfree hfr hjs)
  rw [hws] at cells
  have nofr : ∀ y c, X.env.cells.lookup y = some c → c ∉ frs X.stack := fun y c hc w => by
    have h1 := I2.stkSub _ w
    rcases List.mem_cons.mp h1 with e | e
    · exact I2.cne y c hc e
    · obtain ⟨_, o, hoo, _⟩ := I2.ok.funs.mem e
      exact absurd (Nat.lt_of_lt_of_le (Heap.lt_size hoo) (I2.ok.cab y c (hfn y) hc)) (Nat.lt_irrefl _)
  have subc : ∀ y c, (cloFrom X.env.cells lsc.names []).lookup y = some c → X.env.cells.lookup y = some c := fun y c e => NdefX.clo_cm (fun y hy e => (hfree y hy e).elim (fun z => I2.ok.has _ (.inl z)) fun z => I2.ok.has _ (.inr z)) e
  have cellB : ∀ {y : Str} {c : Addr} {v : Option Value}, (cloFrom X.env.cells lsc.names []).lookup y = some c → s2.heap.IsCell c v → (baseOf X H2 s2.heap).IsCell c v := fun {y c v} hc ⟨o, h1, h2⟩ => ⟨o, baseOf_get h1 (cells.all y c hc).1 (nofr y c (subc y c hc)), h2⟩
  have CB : CellsB (cloFrom X.env.cells lsc.names []) fr ws (baseOf X H2 s2.heap) := by
    refine ⟨by have := cells.len; simpa using this, fun y c hc => ?_, cells.inj, fun i y hy => ?_⟩
    · obtain ⟨v, hv⟩ := (cells.all y c hc).2
      exact ⟨v, cellB hc hv⟩
    · obtain ⟨c, hc, hv⟩ := cells.has i y hy
      exact ⟨c, hc, fun v e => by
        obtain ⟨u, h1, h2⟩ := hv v (by rw [List.getElem?_map, e]; rfl)
        exact ⟨u, h1, cellB hc h2⟩⟩
  have E2 := env0_base I2
  have at2 : ClAt X.prog X.w X.K X.mg (baseOf X H2 s2.heap) Γ.ex.kc ⟨f, c', X.env.qual ++ "<lambda>", ws, ds⟩ (m.φ ds) :=
    made (baseOf X H2 s2.heap) ⟨f, c', X.env.qual ++ "<lambda>", ws, ds⟩ _ pm ctv E2.mod (baseOf_get atf.1 atf.2.1 M.nofr) CB (capD_len e0)
  generalize hv0 : (⟨f, c', X.env.qual ++ "<lambda>", ws, ds⟩ : CV) = v0 at at2
  have va : v0.a = f := by rw [← hv0]
  have vc : v0.c = c' := by rw [← hv0]
  have vq : v0.q = X.env.qual ++ "<lambda>" := by rw [← hv0]
  have vw : v0.ws = ws := by rw [← hv0]
  have vd : v0.ds = ds := by rw [← hv0]
  let cl : ClM := fun v => open Classical in if v = v0 then some (m.φ ds) else none
  have clv : cl v0 = some (m.φ ds) := if_pos rfl
  have okc : ClOk X.prog X.w X.K X.mg (baseOf X H2 s2.heap) Γ.ex.kc cl := fun v φ e => by
    by_cases w : v = v0
    · subst w
      rw [clv] at e
      cases e
      exact at2
    · have : cl v = none := if_neg w
      rw [this] at e; cases e
  have hF := of_callLR e4 v0 cl vd clv
  have hz : (us.length + 1) = ps.length := by
    rw [hps, ← hlen, ← rv.length]
    have : rs.length = vs.length := by
      have := rl.any.length
      simpa using this
    omega
  refine wpAny_call (codeAny_mono ((G _ cl E2.mod okc).run X.A X.stack s2 H2 ⟨.ref f :: us, []⟩ (.ref f :: us) (.ref f :: vs) Q (fun _ _ _ => False) hr E2 (by
    have := hb s2 (.ref f :: us) I2.kIn (by simpa using hz)
    simpa using this) (.cons rfl rv) ?_) fun r' s' hq => ?_)
  · refine ⟨v0, vs, rs.map (·.2), r, by rw [va], hF, by rw [List.length_map]; exact hlen, ?_, ?_, rl.any, zz.tabs S.tabs, fun u H3 z3 sep => q u H3 (zz.trans z3) ?_⟩
    · rw [vc, vq]; exact z2.code M.code
    · rw [vd, vw]; exact Rps.imp (fun _ _ _ _ => trivial) (hcap.ext zz)
    · exact Sep.imp (fun a o _ n0 => S.new (zz.back n0)) (fun a o _ t => zz.back t) sep
  · cases r' with
    | error e => exact (show False from hq).elim
    | ok fl =>
      cases fl with
      | ret u =>
        obtain ⟨v, H', J, h1, h2⟩ := I2.after hq
        exact ⟨v, H', J.pins_of fun p hp => J.pin p (List.mem_append_right _ (List.mem_cons_of_mem _ hp)), h1, h2⟩
      | next => exact False.elim hq
      | brk => exact False.elim hq
      | cont => exact False.elim hq
theorem s_callL1 (C : Ctx lb X Γ) (hl : lb = true) {k l i : Nat} {x : Str} {cap : List Nat} {g : Str} {params : Arguments} {body : Expr} {lsc : Scope} (hk : (Γ.ex.fb.l.map (·.nm))[k]? = some g) (hg : Gl X g) (hd : (g == ("__debug__" : Str)) = false)
    (hck : (match Γ.ex.lm[l]? with | some m => m.ck X.env.scope X.N cap params body lsc | none => false) = true) (hv : PE X (.Name x p2) (tVar i)) (hn : allNS es = true) (ha : PA X es (rdA X.K fs)) :
    PE X (.Call (.Name g p) (.Name x p2 :: .Lambda params body lsc lpos :: es) [] pos) (rd X.K fun ρ => do let d0 ← shS ρ[i]?; let ds ← capD ρ cap; let rs ← fs ρ; let q ← Γ.ex.fb.l[k]?; let m ← Γ.ex.lm[l]?; if rs.length + 2 = q.n then ofD (callLR q m ds (d0 :: rs.map (·.2))) else none) := by
  refine ⟨fun pins s σ H Q I hh => ?_⟩
  obtain ⟨B, ρ, fl, d, hf, S, q⟩ := hh
  simp only [Option.bind_eq_bind] at hf
  cases ed : shS ρ[i]? with
  | none => rw [ed] at hf; cases hf
  | some d0 =>
  rw [ed, Option.bind_some] at hf
  have hsl : ρ[i]? = some (some (.sh d0)) := by
    unfold shS at ed
    split at ed
    · cases ed; assumption
    · cases ed
  obtain ⟨u0, hσ, hrp⟩ := S.sh i d0 hsl
  cases e0 : capD ρ cap with
  | none => rw [e0] at hf; cases hf
  | some ds =>
  rw [e0, Option.bind_some] at hf
  cases e1 : fs ρ with
  | none => rw [e1] at hf; cases hf
  | some rs =>
  rw [e1, Option.bind_some] at hf
  rw [List.getElem?_map] at hk
  cases e2 : Γ.ex.fb.l[k]? with
  | none => rw [e2] at hf; cases hf
  | some qf =>
  rw [e2, Option.bind_some] at hf
  rw [e2] at hk
  simp only [Option.map_some, Option.some.injEq] at hk
  subst hk
  cases e3 : Γ.ex.lm[l]? with
  | none => rw [e3] at hf; cases hf
  | some m =>
  rw [e3, Option.bind_some] at hf
  rw [e3] at hck
  dsimp only at hck
  split at hf
  case isFalse => cases hf
  rename_i hlen
  cases e4 : callLR qf m ds (d0 :: rs.map (·.2)) with
  | none => rw [e4] at hf; cases hf
  | some r =>
  simp only [e4, ofD, Option.map_some, Option.some.injEq, Prod.mk.injEq] at hf
  obtain ⟨rfl, rfl⟩ := hf
  obtain ⟨kk, fa, fd, ps, hps, G, hr, hm, hkp, hb⟩ := (C.fb k qf e2).ex
  obtain ⟨hfree, hdef, fr, hjs, hfr, made⟩ := (C.lm l m e3).ok _ _ _ _ _ _ hck
  have hne : Γ.ex.lm ≠ [] := fun z => by rw [z] at e3; simp at e3
  obtain ⟨hfn, c, P, hcode, TB, hT, hu⟩ := C.tb hl hne
  refine wpAny_Call_Name_kw (ld_glob I hg hm ?_ hd)
  refine PySem.W.callWith_K (h₀ := X.base) I.ok.mod.kin hkp ?_ rfl (pl_of (es := .Lambda params body lsc lpos :: es) hn)
  show wpAny _ _ (spliced ((false, eval (.Name x p2) X.env) :: (false, eval (.Lambda params body lsc lpos) X.env) :: backTo pos (starEach es X.env))) _ _ s
  refine Calls.spliced_cons (thn (hv.run pins s σ H (fun v H1 => v = u0 ∧ H1 = H) I ⟨u0, hσ, rfl, rfl⟩) fun uu s0 ⟨v, Hz, I0, r0, q0⟩ => ?_)
  obtain ⟨ev, eH⟩ := q0
  subst ev
  subst eH
  refine Calls.spliced_cons (lam_mk I0 TB hcode rfl hT hu S.tabs (hdef X.env) (fun y hy e => (hfree y hy e).elim (fun z => I0.ok.has _ (.inl z)) fun z => I0.ok.has _ (.inr z)) fun f c' H1 s' I1 z M => ?_)
  obtain ⟨pm, ctv, ho⟩ := M.obj
  have hnl : f ≠ X.env.locals ∧ f ∉ X.fs := by
    rcases I1.ok.stk with e | ⟨e, e'⟩
    · have hfs : f ∉ X.fs := by
        show f ∉ frs X.outer
        rw [← e]; exact M.nofr
      refine ⟨fun w => ?_, hfs⟩
      obtain ⟨mm, ⟨o, es, ep, he, hdd, _⟩, _⟩ := I1.loc
      rw [← w, ho] at he
      cases he
      cases hdd
    · have h1 := M.nofr
      rw [e] at h1
      have h2 : f ∉ X.env.locals :: frs X.outer := by
        have : frs (X.env :: X.outer) = X.env.locals :: frs X.outer := by
          show List.filterMap _ _ = _
          rw [List.filterMap_cons, e'] <;> rfl
        rw [← this]; exact h1
      simp only [List.mem_cons, not_or] at h2
      exact h2
  have I1p : Inv X ((f, PySem.W.kla_obj "<lambda>" (X.env.qual ++ "<lambda>") params body lsc (cloFrom X.env.cells lsc.names []) pm c' ctv) :: pins) σ H1 s' := I1.pins_of fun p hp => by
    rcases List.mem_cons.mp hp with rfl | hp
    · exact ⟨ho, M.out, hnl.1, hnl.2, fun v w => by cases w⟩
    · exact I1.pin p (List.mem_append_right _ hp)
  refine thn (ha.run pos _ s' σ H1 (fun vs H2 => Ext H1 H2 ∧ ResL X.K B ρ σ H1 H2 rs vs) I1p ⟨B, ρ, rs, e1, S.ext z, fun vs H2 z2 rl => ⟨z2, rl⟩⟩) fun us s2 ⟨vs, H2, I2, rv, z2, rl⟩ => ⟨I2.kIn, ?_⟩
  show wpAny _ _ (call (.ref fa) (uu :: .ref f :: us)) _ _ _
  have zz := z.trans z2
  have atf := I2.pin (f, _) (List.mem_append_right _ List.mem_cons_self)
  obtain ⟨ws, hws, hcap⟩ := cap_ok S e0
  have cells := NdefX.cells_of I2 (NdefX.Caps.made (scope := lsc) I2.ok hfree hfr hjs)
  rw [hws] at cells
  have nofr : ∀ y c, X.env.cells.lookup y = some c → c ∉ frs X.stack := fun y c hc w => by
    have h1 := I2.stkSub _ w
    rcases List.mem_cons.mp h1 with e | e
    · exact I2.cne y c hc e
    · obtain ⟨_, o, hoo, _⟩ := I2.ok.funs.mem e
      exact absurd (Nat.lt_of_lt_of_le (Heap.lt_size hoo) (I2.ok.cab y c (hfn y) hc)) (Nat.lt_irrefl _)
  have subc : ∀ y c, (cloFrom X.env.cells lsc.names []).lookup y = some c → X.env.cells.lookup y = some c := fun y c e => NdefX.clo_cm (fun y hy e => (hfree y hy e).elim (fun z => I2.ok.has _ (.inl z)) fun z => I2.ok.has _ (.inr z)) e
  have cellB : ∀ {y : Str} {c : Addr} {v : Option Value}, (cloFrom X.env.cells lsc.names []).lookup y = some c → s2.heap.IsCell c v → (baseOf X H2 s2.heap).IsCell c v := fun {y c v} hc ⟨o, h1, h2⟩ => ⟨o, baseOf_get h1 (cells.all y c hc).1 (nofr y c (subc y c hc)), h2⟩
  have CB : CellsB (cloFrom X.env.cells lsc.names []) fr ws (baseOf X H2 s2.heap) := by
    refine ⟨by have := cells.len; simpa using this, fun y c hc => ?_, cells.inj, fun i y hy => ?_⟩
    · obtain ⟨v, hv⟩ := (cells.all y c hc).2
      exact ⟨v, cellB hc hv⟩
    · obtain ⟨c, hc, hv⟩ := cells.has i y hy
      exact ⟨c, hc, fun v e => by
        obtain ⟨u, h1, h2⟩ := hv v (by rw [List.getElem?_map, e]; rfl)
        exact ⟨u, h1, cellB hc h2⟩⟩
  have E2 := env0_base I2
  have at2 : ClAt X.prog X.w X.K X.mg (baseOf X H2 s2.heap) Γ.ex.kc ⟨f, c', X.env.qual ++ "<lambda>", ws, ds⟩ (m.φ ds) :=
    made (baseOf X H2 s2.heap) ⟨f, c', X.env.qual ++ "<lambda>", ws, ds⟩ _ pm ctv E2.mod (baseOf_get atf.1 atf.2.1 M.nofr) CB (capD_len e0)
  generalize hv0 : (⟨f, c', X.env.qual ++ "<lambda>", ws, ds⟩ : CV) = v0 at at2
  have va : v0.a = f := by rw [← hv0]
  have vc : v0.c = c' := by rw [← hv0]
  have vq : v0.q = X.env.qual ++ "<lambda>" := by rw [← hv0]
  have vw : v0.ws = ws := by rw [← hv0]
  have vd : v0.ds = ds := by rw [← hv0]
  let cl : ClM := fun v => open Classical in if v = v0 then some (m.φ ds) else none
  have clv : cl v0 = some (m.φ ds) := if_pos rfl
  have okc : ClOk X.prog X.w X.K X.mg (baseOf X H2 s2.heap) Γ.ex.kc cl := fun v φ e => by
    by_cases w : v = v0
    · subst w
      rw [clv] at e
      cases e
      exact at2
    · have : cl v = none := if_neg w
      rw [this] at e; cases e
  have hF := of_callLR e4 v0 cl vd clv
  have hz : (us.length + 1 + 1) = ps.length := by
    rw [hps, ← hlen, ← rv.length]
    have : rs.length = vs.length := by
      have := rl.any.length
      simpa using this
    omega
  refine wpAny_call (codeAny_mono ((G _ cl E2.mod okc).run X.A X.stack s2 H2 ⟨uu :: .ref f :: us, []⟩ (uu :: .ref f :: us) (v :: .ref f :: vs) Q (fun _ _ _ => False) hr E2 (by
    have := hb s2 (uu :: .ref f :: us) I2.kIn (by simpa using hz)
    simpa using this) (.cons r0 (.cons rfl rv)) ?_) fun r' s' hq => ?_)
  · refine ⟨v0, v, vs, d0, rs.map (·.2), r, by rw [va], hF, by rw [List.length_map]; exact hlen, ?_, ?_, .cons (Rp.imp (fun _ _ _ _ => trivial) (hrp.ext zz)) rl.any, zz.tabs S.tabs, fun u H3 z3 sep => q u H3 (zz.trans z3) ?_⟩
    · rw [vc, vq]; exact z2.code M.code
    · rw [vd, vw]; exact Rps.imp (fun _ _ _ _ => trivial) (hcap.ext zz)
    · exact Sep.imp (fun a o _ n0 => S.new (zz.back n0)) (fun a o _ t => zz.back t) sep
  · cases r' with
    | error e => exact (show False from hq).elim
    | ok fl =>
      cases fl with
      | ret u =>
        obtain ⟨v, H', J, h1, h2⟩ := I2.after hq
        exact ⟨v, H', J.pins_of fun p hp => J.pin p (List.mem_append_right _ (List.mem_cons_of_mem _ hp)), h1, h2⟩
      | next => exact False.elim hq
      | brk => exact False.elim hq
      | cont => exact False.elim hq
end
end DD
set_option Elab.async false
set_option linter.all false
set_option maxRecDepth 100000
set_option maxHeartbeats 4000000
namespace DD
open PySem L2 PyProof.Rows RZ
variable [Tb : Tbl] {lb : Bool}
section
variable {Γ : Gam}
theorem both {X : Cx} {c : CE} {e : Expr} (h : PE X e (rd X.K (ev Γ c))) (hw : ∀ whole, isTrue e X.env whole = (do let v ← whole; standAt e.pos; holding [v] (truthy v))) :
    PE X e (rd X.K (ev Γ c)) ∧ PT X e (rdT X.K (evT Γ c)) := ⟨h, pt_of h hw⟩
theorem pw_of_pt {X : Cx} {op : BoolOp} {es : List Expr} {p : Pos} {t : TT} (h : PT X (.BoolOp op es p) t) : PW X (.BoolOp op es p) t :=
  ⟨fun wh pins s σ H Q I hh => h.run pins s σ H Q I hh⟩
theorem evs_init {Γ : Gam} : ∀ (as : CAs), lastNew as = true → ∀ ρ, evs Γ as ρ = (evs Γ (initAs as) ρ).map fun rs => rs ++ [(.fr, .dic [] [])]
  | .nil, h, _ => by cases h
  | .cons c .nil, h, ρ => by
    cases c <;> simp only [lastNew, Bool.false_eq_true] at h
    simp [initAs, evs, ev]
  | .cons c (.cons c2 cs), h, ρ => by
    have e1 : initAs (.cons c (.cons c2 cs)) = .cons c (initAs (.cons c2 cs)) := by cases c <;> rfl
    have e2 : lastNew (.cons c2 cs) = true := by cases c <;> exact h
    have ih := evs_init (Γ := Γ) (.cons c2 cs) e2 ρ
    have h1 : evs Γ (.cons c (.cons c2 cs)) ρ = (do let x ← ev Γ c ρ; let xs ← evs Γ (.cons c2 cs) ρ; some (x :: xs)) := congrFun evs_cons ρ
    have h2 : evs Γ (.cons c (initAs (.cons c2 cs))) ρ = (do let x ← ev Γ c ρ; let xs ← evs Γ (initAs (.cons c2 cs)) ρ; some (x :: xs)) := congrFun evs_cons ρ
    rw [e1, h1, h2, ih]
    cases ev Γ c ρ <;> cases evs Γ (initAs (.cons c2 cs)) ρ <;> rfl
noncomputable def evL (Γ : Gam) : CAs → List (Rho → Option (Fl × D))
  | .nil => []
  | .cons c cs => ev Γ c :: evL Γ cs
theorem evs_seq : ∀ (as : CAs), evs Γ as = seqF (evL Γ as)
  | .nil => by rw [evs_nil]; rfl
  | .cons c cs => by
    rw [evs_cons, evs_seq cs]; rfl
theorem C_op {X : Cx} (C : Ctx lb X Γ) : OpCx X := ⟨C.calm, C.units, C.blt⟩
mutual
theorem se : ∀ (c : CE) (lb : Bool) (X : Cx), Ctx lb X Γ → ∀ (e : Expr), chk lb Γ X.env.scope X.N c e = true → PE X e (rd X.K (ev Γ c)) ∧ PT X e (rdT X.K (evT Γ c))
  | .var i, lb, X, C, e, h => by
    simp only [chk] at h
    split at h
    case h_2 => cases h
    simp only [Bool.and_eq_true, Bool.not_eq_true'] at h
    obtain ⟨⟨⟨h1, h2⟩, h3⟩, h4⟩ := h
    refine both ?_ (by intro _; rfl)
    have ee : ev Γ (.var i) = (fun ρ => varS ρ[i]?) := by funext ρ; simp only [ev]
    rw [ee]
    exact s_var (pe_var (nameAt_of h1) (visB_of h2) h3 h4)
  | .glob x, lb, X, C, e, h => by
    simp only [chk] at h
    split at h
    case h_2 => cases h
    simp only [Bool.and_eq_true] at h
    have g := gl_of (X := X) rfl h.2
    have ee : ev Γ (.glob x) = (fun _ => ofD (Γ.gl[x]?.map (·.2))) := by funext ρ; simp only [ev]
    refine both ?_ (by intro _; rfl)
    rw [ee]
    exact s_glob C (nameAt_of h.1) g.1 g.2
  | .non, lb, X, C, e, h => by
    simp only [chk] at h
    split at h
    case h_2 => cases h
    exact both (s_const pe_non fun _ _ _ _ => fin_non) (by intro _; rfl)
  | .bl b, lb, X, C, e, h => by
    simp only [chk] at h
    split at h
    case h_2 => cases h
    simp only [beq_iff_eq] at h
    subst h
    exact both (s_const pe_bl fun _ _ _ _ => fin_bl) (by intro _; rfl)
  | .int i, lb, X, C, e, h => by
    simp only [chk] at h
    split at h
    case h_2 => cases h
    simp only [beq_iff_eq] at h
    subst h
    exact both (s_const pe_int fun _ _ _ _ => fin_int) (by intro _; rfl)
  | .str x, lb, X, C, e, h => by
    simp only [chk] at h
    split at h
    case h_2 => cases h
    simp only [decide_eq_true_eq] at h
    subst h
    exact both (s_const pe_str fun _ _ _ _ => fin_str) (by intro _; rfl)
  | .bin k a b, lb, X, C, e, h => by
    simp only [chk] at h
    split at h
    case h_2 => cases h
    simp only [Bool.and_eq_true] at h
    obtain ⟨⟨h1, h2⟩, h3⟩ := h
    refine both ?_ (by intro _; rfl)
    rw [ev_bin]
    exact s_bin h1 (se a lb X C _ h2).1 (se b lb X C _ h3).1
  | .neg a, lb, X, C, e, h => by
    simp only [chk] at h
    split at h
    case h_2 => cases h
    refine both ?_ (by intro _; rfl)
    rw [ev_neg]
    exact s_neg (se a lb X C _ h).1
  | .not a, lb, X, C, e, h => by
    simp only [chk] at h
    split at h
    case h_2 => cases h
    have q := se a lb X C _ h
    exact s_not ev_not q.1 q.2
  | .cmp k a b, lb, X, C, e, h => by
    simp only [chk] at h
    split at h
    case h_2 => cases h
    simp only [Bool.and_eq_true, Bool.not_eq_true'] at h
    obtain ⟨⟨⟨h1, h2⟩, h3⟩, h4⟩ := h
    have q := s_pc C h1 (se a lb X C _ h3).1 (se b lb X C _ h4).1
    rw [← ev_cmp] at q
    exact ⟨pe_cmp q h2, pt_weak (pt_cmp q h2)⟩
  | .cmp2 k k' a b c, lb, X, C, e, h => by
    simp only [chk] at h
    split at h
    case h_2 => cases h
    simp only [Bool.and_eq_true, Bool.not_eq_true'] at h
    obtain ⟨⟨⟨⟨⟨⟨⟨h1, h2⟩, h3⟩, h4⟩, h5⟩, h6⟩, h7⟩, h8⟩ := h
    have o : ∀ {k : CmpK}, ordK k = true → k ≠ .isin ∧ k ≠ .notin := by intro k; cases k <;> simp [ordK]
    rename_i l o1 o2 m r p
    have q := s_cmp2 (pos := p) C h1 h2 (o h3) (o h4) h5 (se a lb X C _ h6).1 (se b lb X C _ h7).1 (se c lb X C _ h8).1 (ev_cmp2 (Γ := Γ))
    exact ⟨q.1, pt_weak q.2⟩
  | .isN n a, lb, X, C, e, h => by
    simp only [chk] at h
    split at h
    case h_2 => cases h
    simp only [Bool.and_eq_true] at h
    rename_i l op k0 p0 p1
    have q : PC X op (l) (.Constant .none k0 p0) (rd X.K (ev Γ (.isN n a))) := by
      rw [ev_isN]; exact s_isN h.1 (se a lb X C _ h.2).1
    exact ⟨pe_cmp q (by unfold behindInMarks; rfl), pt_weak (pt_cmp q (by unfold behindInMarks; rfl))⟩
  | .isB n b a, lb, X, C, e, h => by
    simp only [chk] at h
    split at h
    case h_2 => cases h
    rename_i l op c0 k0 p0 p1
    simp only [Bool.and_eq_true, beq_iff_eq] at h
    obtain ⟨⟨h1, h2⟩, h3⟩ := h
    subst h2
    have q := s_isB (pos := p1) (k := k0) (p := p0) h1 (se a lb X C _ h3).1 (ev_isB (Γ := Γ) (n := n) (b := b) (a := a))
    exact ⟨q.1, pt_weak q.2⟩
  | .and a b, lb, X, C, e, h => by
    simp only [chk] at h
    split at h
    · simp only [Bool.and_eq_true] at h
      have q1 := se a lb X C _ h.1
      have q2 := se b lb X C _ h.2
      have ee := ev_and (Γ := Γ) (a := a) (b := b)
      refine ⟨?_, ?_⟩
      · rw [ee]; exact s_and q1.1 (pe_one q2.1)
      · rw [evT_eq, ee]; exact (t_and q1.2 (pw_and1 q2.2)).pt
    · simp only [Bool.and_eq_true] at h
      have q1 := se a lb X C _ h.1
      have q2 := se b lb X C _ h.2
      have ee := ev_and (Γ := Γ) (a := a) (b := b)
      refine ⟨?_, ?_⟩
      · rw [ee]; exact s_and q1.1 q2.1
      · rw [evT_eq, ee]; exact (t_and q1.2 (pw_of_pt q2.2)).pt
    · cases h
  | .or a b, lb, X, C, e, h => by
    simp only [chk] at h
    split at h
    · simp only [Bool.and_eq_true] at h
      have q1 := se a lb X C _ h.1
      have q2 := se b lb X C _ h.2
      have ee := ev_or (Γ := Γ) (a := a) (b := b)
      refine ⟨?_, ?_⟩
      · rw [ee]; exact s_or q1.1 (pe_one q2.1)
      · rw [evT_eq, ee]; exact (t_or q1.2 (pw_or1 q2.2)).pt
    · simp only [Bool.and_eq_true] at h
      have q1 := se a lb X C _ h.1
      have q2 := se b lb X C _ h.2
      have ee := ev_or (Γ := Γ) (a := a) (b := b)
      refine ⟨?_, ?_⟩
      · rw [ee]; exact s_or q1.1 q2.1
      · rw [evT_eq, ee]; exact (t_or q1.2 (pw_of_pt q2.2)).pt
    · cases h
  | .tup as, lb, X, C, e, h => by
    simp only [chk] at h
    split at h
    case h_2 => cases h
    refine both ?_ (by intro _; rfl)
    rw [ev_tup]
    exact s_tup (sas as lb X C _ h)
  | .lst as, lb, X, C, e, h => by
    simp only [chk] at h
    split at h
    case h_2 => cases h
    refine both ?_ (by intro _; rfl)
    rw [ev_lst]
    exact s_lst (sas as lb X C _ h)
  | .dnil, lb, X, C, e, h => by
    simp only [chk] at h
    split at h
    case h_2 => cases h
    exact both s_dnil (by intro _; rfl)
  | .ix a b, lb, X, C, e, h => by
    simp only [chk] at h
    split at h
    case h_2 => cases h
    simp only [Bool.and_eq_true] at h
    refine both ?_ (by intro _; rfl)
    rw [ev_ix]
    exact s_ix C h.1.1 (se a lb X C _ h.1.2).1 (se b lb X C _ h.2).1
  | .sl a lo hi, lb, X, C, e, h => by
    simp only [chk] at h
    split at h
    case h_2 => cases h
    simp only [Bool.and_eq_true] at h
    refine both ?_ (by intro _; rfl)
    rw [ev_sl]
    exact s_sl (se a lb X C _ h.1.1).1 (so lo lb X C _ h.1.2) (so hi lb X C _ h.2)
  | .bi b as, lb, X, C, e, h => by
    simp only [chk] at h
    split at h
    case h_2 => cases h
    simp only [Bool.and_eq_true, decide_eq_true_eq] at h
    obtain ⟨⟨rfl, h2⟩, h3⟩ := h
    refine both ?_ (by intro _; rfl)
    rw [ev_bi]
    exact s_bi C (gl_of rfl h2).1 (chks_ns h3) (sas as lb X C _ h3)
  | .isi T a, lb, X, C, e, h => by
    simp only [chk] at h
    split at h
    case h_2 => cases h
    simp only [Bool.and_eq_true, decide_eq_true_eq] at h
    obtain ⟨⟨⟨⟨⟨⟨rfl, h2⟩, h3⟩, rfl⟩, h5⟩, h6⟩, h7⟩ := h
    refine both ?_ (by intro _; rfl)
    rw [ev_isi]
    exact s_isi C h6 (gl_of rfl h2).1 (gl_of rfl h5).1 h3 (se a lb X C _ h7).1
  | .isi2 T U a, lb, X, C, e, h => by
    simp only [chk] at h
    split at h
    case h_2 => cases h
    simp only [Bool.and_eq_true, decide_eq_true_eq] at h
    obtain ⟨⟨⟨⟨⟨⟨⟨⟨⟨rfl, h2⟩, h3⟩, rfl⟩, h5⟩, h6⟩, rfl⟩, h8⟩, h9⟩, h10⟩ := h
    refine both ?_ (by intro _; rfl)
    rw [ev_isi2]
    exact s_isi2 C h6 h9 (gl_of rfl h2).1 (gl_of rfl h5).1 (gl_of rfl h8).1 h3 (se a lb X C _ h10).1
  | .call f as, lb, X, C, e, h => by
    simp only [chk] at h
    split at h
    case h_2 => cases h
    simp only [Bool.and_eq_true] at h
    obtain ⟨⟨h1, h2⟩, h3⟩ := h
    refine both ?_ (by intro _; rfl)
    rw [ev_call]
    have g := gl_of (X := X) rfl h2
    exact s_call C (nameAt_of h1) g.1 g.2 (chks_ns h3) (sas as lb X C _ h3)
  | .mcl f as, lb, X, C, e, h => by
    simp only [chk] at h
    split at h
    case h_2 => cases h
    simp only [Bool.and_eq_true] at h
    obtain ⟨⟨⟨h1, h2⟩, h3⟩, h4⟩ := h
    refine both ?_ (by intro _; rfl)
    rw [ev_mcl]
    have g := gl_of (X := X) rfl h2
    exact s_mcl C (evs_init as h4) (nameAt_of h1) g.1 g.2 (chks_ns h3) (sasN as lb X C _ h3 h4)
  | .lrev a, lb, X, C, e, h => by
    simp only [chk] at h
    split at h
    case h_2 => cases h
    refine both ?_ (by intro _; rfl)
    exact s_lrev ev_lrev (se a lb X C _ h).1
  | .lrv a, lb, X, C, e, h => by
    simp only [chk] at h
    split at h
    case h_2 => cases h
    simp only [Bool.and_eq_true, decide_eq_true_eq] at h
    obtain ⟨⟨⟨⟨⟨rfl, h2⟩, rfl⟩, h4⟩, h5⟩, h6⟩ := h
    refine both ?_ (by intro _; rfl)
    exact s_lrv C ev_lrv (gl_of rfl h2).1 (gl_of rfl h4).1 h5 (se a lb X C _ h6).1
  | .srt a, lb, X, C, e, h => by
    simp only [chk] at h
    split at h
    case h_2 => cases h
    simp only [Bool.and_eq_true, decide_eq_true_eq] at h
    obtain ⟨⟨⟨⟨rfl, h2⟩, rfl⟩, h4⟩, h5⟩ := h
    refine both ?_ (by intro _; rfl)
    rw [ev_srt]
    exact s_srt C (gl_of rfl h2).1 (se a lb X C _ h5).1 h4 rfl
  | .dget1 a k, lb, X, C, e, h => by
    simp only [chk] at h
    split at h
    case h_2 => cases h
    simp only [Bool.and_eq_true, decide_eq_true_eq] at h
    obtain ⟨⟨⟨⟨rfl, h2⟩, h3⟩, h4⟩, h5⟩ := h
    refine both ?_ (by intro _; rfl)
    rw [ev_dget1]
    exact s_dget1 C (se a lb X C _ h4).1 (se k lb X C _ h5).1 h3 h2 rfl
  | .dget2 a k d, lb, X, C, e, h => by
    simp only [chk] at h
    split at h
    case h_2 => cases h
    simp only [Bool.and_eq_true, decide_eq_true_eq] at h
    obtain ⟨⟨⟨⟨⟨⟨rfl, h2⟩, h3⟩, h3'⟩, h4⟩, h5⟩, h6⟩ := h
    refine both ?_ (by intro _; rfl)
    rw [ev_dget2]
    exact s_dget2 C (se a lb X C _ h4).1 (se k lb X C _ h5).1 (se d lb X C _ h6).1 h3 h3' h2 rfl
  | .lc own t it c x, lb, X, C, e, h => by
    simp only [chk] at h
    split at h
    case h_2 => cases h
    rename_i elt tg iter ifs aa scope pos
    simp only [Bool.and_eq_true, beq_iff_eq] at h
    obtain ⟨⟨⟨⟨⟨⟨⟨rfl, h2⟩, h3⟩, h4⟩, h5⟩, h6⟩, h7⟩, h8⟩ := h
    refine both ?_ (by intro _; rfl)
    rw [ev_lc]
    refine s_lc (fc := fun ρ1 => toB (ev Γ c ρ1)) (fe := fun ρ1 => ev Γ x ρ1) C.calm C.nd (si it lb X C tg iter h5) (blkOk_by h2) h3 (fun s H Cc cl fp => pg_of (b := false) C.calm C.nd (fun z => Bool.noConfusion z) rfl h4) (fun s H Cc cl fp => ?_) (fun s H Cc cl fp => ?_) ?_
    · revert h7
      cases ifs with
      | nil =>
        intro h7
        cases c <;> simp only [chkYes, reduceCtorEq] at h7
        rename_i b
        cases b <;> simp only [reduceCtorEq] at h7
        exact s_yes
      | cons q rest =>
        cases rest with
        | nil =>
          intro h7
          exact pts_one (se c false _ C.blk q h7).2
        | cons q2 r2 => intro h7; simp at h7
    · exact (se x false _ C.blk elt h8).1
    · intro v
      cases iter <;> first | rfl | (simp [notSet] at h6)
  | .lcd own t i c x, lb, X, C, e, h => by
    simp only [chk] at h
    split at h
    case h_2 => cases h
    rename_i elt tg iter ifs aa scope pos
    simp only [Bool.and_eq_true, beq_iff_eq] at h
    obtain ⟨⟨⟨⟨⟨⟨rfl, h2⟩, h3⟩, h4⟩, h5⟩, h7⟩, h8⟩ := h
    refine both ?_ (by intro _; rfl)
    rw [ev_lcd]
    cases iter <;> simp only [chkNm, Bool.false_eq_true] at h5
    rename_i x0 p0
    simp only [Bool.and_eq_true, Bool.not_eq_true'] at h5
    obtain ⟨⟨⟨k1, k2⟩, k3⟩, k4⟩ := h5
    refine s_lcd (fc := fun ρ1 => toB (ev Γ c ρ1)) (fe := fun ρ1 => ev Γ x ρ1) C.calm C.nd (pe_var (nameAt_of k1) (visB_of k2) k3 k4) (blkOk_by h2) h3 (fun s H Cc cl fp => pg_of (b := false) C.calm C.nd (fun z => Bool.noConfusion z) rfl h4) (fun s H Cc cl fp => ?_) (fun s H Cc cl fp => ?_) ?_
    · revert h7
      cases ifs with
      | nil =>
        intro h7
        cases c <;> simp only [chkYes, reduceCtorEq] at h7
        rename_i b
        cases b <;> simp only [reduceCtorEq] at h7
        exact s_yes
      | cons q rest =>
        cases rest with
        | nil =>
          intro h7
          exact pts_one (se c false _ C.blk q h7).2
        | cons q2 r2 => intro h7; simp at h7
    · exact (se x false _ C.blk elt h8).1
    · intro v; rfl
  | .app i as, lb, X, C, e, h => by
    simp only [chk] at h
    split at h
    case h_2 => cases h
    simp only [Bool.and_eq_true, Bool.not_eq_true'] at h
    obtain ⟨⟨⟨⟨h1, h2⟩, h3⟩, h4⟩, h5⟩ := h
    refine both ?_ (by intro _; rfl)
    have ee : ev Γ (.app i as) = (fun ρ => do let v ← cloS ρ[i]?; let rs ← evs Γ as ρ; let φ ← Γ.ex.cl v; ofD (φ (rs.map (·.2)))) := by funext ρ; simp only [ev]
    rw [ee]
    exact s_app C (nameAt_of h1) (visB_of h2) h3 h4 (chks_ns h5) (sas as lb X C _ h5)
  | .callC k i as, lb, X, C, e, h => by
    simp only [chk] at h
    split at h
    case h_2 => cases h
    simp only [Bool.and_eq_true, Bool.not_eq_true'] at h
    obtain ⟨⟨⟨⟨⟨⟨h1, h2⟩, h3⟩, h4⟩, h5⟩, h6⟩, h7⟩ := h
    refine both ?_ (by intro _; rfl)
    have ee : ev Γ (.callC k i as) = (fun ρ => do let v ← cloS ρ[i]?; let rs ← evs Γ as ρ; let q ← Γ.ex.tc[k]?; if rs.length + 1 = q.2.1 then ofD (q.2.2 v (rs.map (·.2))) else none) := by funext ρ; simp only [ev]
    rw [ee]
    have g := gl_of (X := X) rfl h2
    exact s_callC C (nameAt_of h1) g.1 g.2 (pe_var (nameAt_of h3) (visB_of h4) h5 h6) (chks_ns h7) (sas as lb X C _ h7)
  | .callL k l cap as, lb, X, C, e, h => by
    simp only [chk] at h
    split at h
    case h_2 => cases h
    simp only [Bool.and_eq_true] at h
    obtain ⟨⟨⟨⟨h0, h1⟩, h2⟩, h3⟩, h4⟩ := h
    refine both ?_ (by intro _; rfl)
    have ee : ev Γ (.callL k l cap as) = (fun ρ => do let ds ← capD ρ cap; let rs ← evs Γ as ρ; let q ← Γ.ex.fc[k]?; let m ← Γ.ex.lm[l]?; if rs.length + 1 = q.n then ofD (callLR q m ds (rs.map (·.2))) else none) := by funext ρ; simp only [ev]
    rw [ee]
    have g := gl_of (X := X) rfl h2
    exact s_callL C h0 (nameAt_of h1) g.1 g.2 h3 (chks_ns h4) (sas as lb X C _ h4)
  | .callL1 k l cap i as, lb, X, C, e, h => by
    simp only [chk] at h
    split at h
    case h_2 => cases h
    simp only [Bool.and_eq_true, Bool.not_eq_true'] at h
    obtain ⟨⟨⟨⟨⟨⟨⟨⟨h0, h1⟩, h2⟩, h3⟩, h4⟩, h5⟩, h6⟩, h7⟩, h8⟩ := h
    refine both ?_ (by intro _; rfl)
    have ee : ev Γ (.callL1 k l cap i as) = (fun ρ => do let d0 ← shS ρ[i]?; let ds ← capD ρ cap; let rs ← evs Γ as ρ; let q ← Γ.ex.fb.l[k]?; let m ← Γ.ex.lm[l]?; if rs.length + 2 = q.n then ofD (callLR q m ds (d0 :: rs.map (·.2))) else none) := by funext ρ; simp only [ev]
    rw [ee]
    have g := gl_of (X := X) rfl h2
    exact s_callL1 C h0 (nameAt_of h1) g.1 g.2 h3 (pe_var (nameAt_of h4) (visB_of h5) h6 h7) (chks_ns h8) (sas as lb X C _ h8)
  | .op k as, lb, X, C, e, h => by
    simp only [chk] at h
    split at h
    case h_2 => cases h
    rename_i q hq
    split at h
    case h_2 => cases h
    rename_i es hes
    have r := q.ok X (C_op C) e es _ hes (spes as lb X C es h)
    have ee : ev Γ (.op k as) = fun ρ => (seqF (evL Γ as) ρ).bind q.F := by
      funext ρ
      simp only [ev, hq, evs_seq]
      cases seqF (evL Γ as) ρ <;> rfl
    refine ⟨?_, ?_⟩
    · rw [ee]; exact r.1
    · rw [evT_eq, ee]; exact r.2
  | .meth k i as, lb, X, C, e, h => by
    simp only [chk] at h
    split at h
    case h_2 => cases h
    simp only [Bool.and_eq_true, Bool.not_eq_true', decide_eq_true_eq] at h
    obtain ⟨⟨⟨⟨⟨⟨⟨⟨h0, h1⟩, h2⟩, h3⟩, h4⟩, h5⟩, h6⟩, h7⟩, h8⟩ := h
    refine both ?_ (by intro _; rfl)
    have ee : ev Γ (.meth k i as) = (fun ρ => do let d0 ← shS ρ[i]?; let rs ← evs Γ as ρ; let q ← Γ.ex.ops.mf[k]?; methR q d0 rs) := by funext ρ; simp only [ev]
    rw [ee]
    split at h0
    case h_2 => cases h0
    rename_i q hq
    simp only [Bool.and_eq_true, decide_eq_true_eq] at h0
    obtain ⟨rfl, h0⟩ := h0
    exact s_meth C hq h0 h1 h2 h3 (pe_var (nameAt_of h4) (visB_of h5) h6 h7) (chks_ns h8) (sas as lb X C _ h8)
theorem spes : ∀ (as : CAs) (lb : Bool) (X : Cx), Ctx lb X Γ → ∀ (es : List Expr), chks lb Γ X.env.scope X.N as es = true → PEs X es (evL Γ as)
  | .nil, lb, X, C, [], _ => .nil
  | .cons c cs, lb, X, C, e :: es, h => by
    simp only [chks, Bool.and_eq_true] at h
    exact .cons h.1.1 (se c lb X C e h.1.2) (spes cs lb X C es h.2)
  | .nil, _, _, _, _ :: _, h => by simp [chks] at h
  | .cons _ _, _, _, _, [], h => by simp [chks] at h
theorem sas : ∀ (as : CAs) (lb : Bool) (X : Cx), Ctx lb X Γ → ∀ (es : List Expr), chks lb Γ X.env.scope X.N as es = true → PA X es (rdA X.K (evs Γ as))
  | .nil, lb, X, C, [], _ => by rw [evs_nil]; exact sa_nil
  | .cons c cs, lb, X, C, e :: es, h => by
    simp only [chks, Bool.and_eq_true] at h
    rw [evs_cons]
    exact sa_cons h.1.1 (se c lb X C e h.1.2).1 (sas cs lb X C es h.2)
  | .nil, _, _, _, _ :: _, h => by simp [chks] at h
  | .cons _ _, _, _, _, [], h => by simp [chks] at h
theorem sasN : ∀ (as : CAs) (lb : Bool) (X : Cx), Ctx lb X Γ → ∀ (es : List Expr), chks lb Γ X.env.scope X.N as es = true → lastNew as = true → PA X es (rdN X.K (evs Γ (initAs as)))
  | .nil, _, _, _, _, _, h => by cases h
  | .cons _ _, _, _, _, [], h, _ => by simp [chks] at h
  | .cons c .nil, lb, X, C, e :: es, h, h2 => by
    cases c <;> simp only [lastNew, Bool.false_eq_true] at h2
    simp only [chks, Bool.and_eq_true] at h
    cases es with
    | cons _ _ => simp [chks] at h
    | nil =>
      have h3 := h.1.2
      simp only [chk] at h3
      split at h3
      case h_2 => cases h3
      have : evs Γ (initAs (.cons .dnil .nil)) = fun _ => some [] := by rw [initAs, evs_nil]
      rw [this]
      exact sa_lastD
  | .cons c (.cons c2 cs), lb, X, C, e :: es, h, h2 => by
    simp only [chks, Bool.and_eq_true] at h
    have e1 : initAs (.cons c (.cons c2 cs)) = .cons c (initAs (.cons c2 cs)) := by cases c <;> rfl
    have e2 : lastNew (.cons c2 cs) = true := by cases c <;> exact h2
    rw [e1, evs_cons]
    exact sa_consN h.1.1 (se c lb X C e h.1.2).1 (sasN (.cons c2 cs) lb X C es (by exact h.2) e2)
theorem so : ∀ (o : CO) (lb : Bool) (X : Cx), Ctx lb X Γ → ∀ (e : Option Expr), chko lb Γ X.env.scope X.N o e = true → PO X e (rdO X.K (evo Γ o))
  | .none, lb, X, C, none, _ => by rw [evo_none]; exact so_none
  | .some c, lb, X, C, some e, h => by
    simp only [chko] at h
    rw [evo_some]
    exact so_some (se c lb X C e h).1
  | .none, _, _, _, some _, h => by simp [chko] at h
  | .some _, _, _, _, none, h => by simp [chko] at h
theorem si : ∀ (it : CI) (lb : Bool) (X : Cx), Ctx lb X Γ → ∀ (tg e : Expr), chki lb Γ X.env.scope X.N it tg e = true → PI X tg e (rdI X.K (evi Γ it))
  | .val c, lb, X, C, tg, e, h => by
    simp only [chki] at h
    have := si_val (X := X) (tg := tg) (se c lb X C e h).1
    have ee : evi Γ (.val c) = (fun ρ => do let x ← ev Γ c ρ; itemsOf x) := by funext ρ; simp only [evi]
    rw [ee]; exact this
  | .rng1 a, lb, X, C, tg, e, h => by
    simp only [chki] at h
    split at h
    case h_2 => cases h
    simp only [Bool.and_eq_true, decide_eq_true_eq] at h
    obtain ⟨⟨⟨rfl, h2⟩, h3⟩, h4⟩ := h
    have ee : evi Γ (.rng1 a) = (fun ρ => do let x ← ev Γ a ρ; (rng1Of x.2).map fun ds => (false, ds)) := by funext ρ; simp only [evi]
    rw [ee]
    exact si_rng1 C (gl_of rfl h2).1 h3 (se a lb X C _ h4).1
  | .rng2 a b, lb, X, C, tg, e, h => by
    simp only [chki] at h
    split at h
    case h_2 => cases h
    simp only [Bool.and_eq_true, decide_eq_true_eq] at h
    obtain ⟨⟨⟨⟨⟨rfl, h2⟩, h3⟩, h4⟩, h5⟩, h6⟩ := h
    have ee : evi Γ (.rng2 a b) = (fun ρ => do let x ← ev Γ a ρ; let y ← ev Γ b ρ; (rng2Of x.2 y.2).map fun ds => (false, ds)) := by funext ρ; simp only [evi]
    rw [ee]
    exact si_rng2 C (gl_of rfl h2).1 h3 h4 (se a lb X C _ h5).1 (se b lb X C _ h6).1
  | .rng3 a b c, lb, X, C, tg, e, h => by
    simp only [chki] at h
    split at h
    case h_2 => cases h
    simp only [Bool.and_eq_true, decide_eq_true_eq] at h
    obtain ⟨⟨⟨⟨⟨⟨⟨rfl, h2⟩, h3⟩, h4⟩, h5⟩, h6⟩, h7⟩, h8⟩ := h
    have ee : evi Γ (.rng3 a b c) = (fun ρ => do let x ← ev Γ a ρ; let y ← ev Γ b ρ; let z ← ev Γ c ρ; (rng3Of x.2 y.2 z.2).map fun ds => (false, ds)) := by funext ρ; simp only [evi]
    rw [ee]
    exact si_rng3 C (gl_of rfl h2).1 h3 h4 h5 (se a lb X C _ h6).1 (se b lb X C _ h7).1 (se c lb X C _ h8).1
  | .rrng2 a b, lb, X, C, tg, e, h => by
    simp only [chki] at h
    split at h
    case h_2 => cases h
    simp only [Bool.and_eq_true, decide_eq_true_eq] at h
    obtain ⟨⟨⟨⟨⟨⟨⟨rfl, h2⟩, rfl⟩, h3⟩, h4⟩, h5⟩, h6⟩, h7⟩ := h
    have ee : evi Γ (.rrng2 a b) = (fun ρ => do let x ← ev Γ a ρ; let y ← ev Γ b ρ; (rrng2Of x.2 y.2).map fun ds => (false, ds)) := by funext ρ; simp only [evi]
    rw [ee]
    exact si_rrng2 C (gl_of rfl h2).1 (gl_of rfl h3).1 h4 h5 (se a lb X C _ h6).1 (se b lb X C _ h7).1
  | .enum c, lb, X, C, tg, e, h => by
    simp only [chki] at h
    split at h
    case h_2 => cases h
    split at h
    case h_2 => cases h
    simp only [Bool.and_eq_true, decide_eq_true_eq] at h
    obtain ⟨⟨⟨rfl, h2⟩, h3⟩, h4⟩ := h
    have ee : evi Γ (.enum c) = (fun ρ => do let x ← ev Γ c ρ; enumOf x) := by funext ρ; simp only [evi]
    rw [ee]
    exact si_enum C (gl_of rfl h2).1 h3 (se c lb X C _ h4).1
  | .zip a b, lb, X, C, tg, e, h => by
    simp only [chki] at h
    split at h
    case h_2 => cases h
    split at h
    case h_2 => cases h
    simp only [Bool.and_eq_true, decide_eq_true_eq] at h
    obtain ⟨⟨⟨⟨⟨rfl, h2⟩, h3⟩, h4⟩, h5⟩, h6⟩ := h
    have ee : evi Γ (.zip a b) = (fun ρ => do let x ← ev Γ a ρ; let y ← ev Γ b ρ; zipOf x y) := by funext ρ; simp only [evi]
    rw [ee]
    exact si_zip C (gl_of rfl h2).1 h3 h4 (se a lb X C _ h5).1 (se b lb X C _ h6).1
  | .op k c, lb, X, C, tg, e, h => by
    simp only [chki] at h
    split at h
    case h_2 => cases h
    rename_i q hq
    split at h
    case h_2 => cases h
    rename_i e' he
    have r := q.ok X (C_op C) tg e e' _ he (se c lb X C e' h).1
    have ee : evi Γ (.op k c) = fun ρ => (ev Γ c ρ).bind q.F := by
      funext ρ
      simp only [evi, hq]
      cases ev Γ c ρ <;> rfl
    rw [ee]; exact r
end
end
end DD
set_option Elab.async false
set_option linter.all false
set_option maxRecDepth 100000
set_option maxHeartbeats 4000000
namespace DD
open PySem L2 PyProof.Rows RZ
variable [Tb : Tbl]
mutual
inductive CS
  | set (i : Nat) (e : CE)
  | unp (is : List Nat) (e : CE)
  | mv (i j : Nat)
  | app (i : Nat) (e : CE) | ext (i : Nat) (e : CE) | pop (t i : Nat) | clr (i : Nat)
  | sto (i : Nat) (k e : CE)
  | drop (e : CE)
  | ite (c : CE) (a b : CSs)
  | fors (t : Tg) (it : CI) (b : CSs)
  | whl (n : Nat) (c : CE) (b : CSs)
  | ret (e : CE) | retN
  | retP (i : Nat)
  | mc (i f : Nat) (as : CAs)
  | rais (x : Str)
  /-- an operation of its own: it changes the slots is in their place, gives ws other values -/
  | op (k : Nat) (is ws : List Nat) (as : CAs)
  /-- t = f(..), a def that changes its arguments in the slots is -/
  | mcs (t : Nat) (is : List Nat) (f : Nat) (as : CAs)
  /-- what cannot change is told, the slots stay -/
  | retQ (e : CE)
inductive CSs
  | nil | cons (s : CS) (ss : CSs) | frz (i : Nat) (ss : CSs)
end
def assignR (ρ : Rho) (i : Nat) (r : Fl × D) : Option Rho :=
  if isMut r.2 then (match r.1 with | .fr => some (setS ρ i (.ow r.2)) | .sh => some (setS ρ i (.sh r.2)) | .bo => none) else some (setS ρ i (.sh r.2))
def immE : D → Bool
  | .lst ds => immL ds | .dic _ ds => immL ds | .dit _ ds => immL ds | _ => false
def retOk (m : Bool) (r : Fl × D) : Bool := if isMut r.2 then ((r.1 != .sh) && (m || immE r.2)) || (m && immE r.2) else m || imm r.2
def frzR (ρ : Rho) (i : Nat) : Rho := match ρ[i]? with | some (some (.ow d)) => setS ρ i (.sh d) | _ => ρ
def owned (ρ : Rho) (i : Nat) : Option D := match ρ[i]? with | some (some (.ow d)) => some d | _ => none
def putD (ks : List Key) (ds : List D) (q : Key) (e : D) : List Key × List D :=
  if hasK q ks then (ks, ks.zipWith (fun k d => if k = q then e else d) ds) else (ks ++ [q], ds ++ [e])
def dSto (d k e : D) : Option D :=
  match d, k with
  | .lst ds, .int i => (ixN ds.length i).map fun j => .lst (ds.set j e)
  | .dic ks ds, k => if ks.length < lim then (keyD k).map fun q => .dic (putD ks ds q e).1 (putD ks ds q e).2 else none
  | _, _ => none
def forGo (t : Tg) (body : Rho → Option Out) : List D → Rho → Option Out
  | [], ρ => some (.nx ρ)
  | d :: ds, ρ => do
    let ρ1 ← bindT t d ρ
    let o ← body ρ1
    match o with
    | .nx ρ2 => forGo t body ds ρ2
    | .rt r => some (.rt r)
    | .rp r i => some (.rp r i)
    | .rq r d => some (.rq r d)
def whlGo (c : Rho → Option Bool) (body : Rho → Option Out) : Nat → Rho → Option Out
  | 0, _ => none
  | n + 1, ρ => do
    let b ← c ρ
    if b then do
      let o ← body ρ
      match o with
      | .nx ρ2 => whlGo c body n ρ2
      | .rt r => some (.rt r)
      | .rp r i => some (.rp r i)
      | .rq r d => some (.rq r d)
    else some (.nx ρ)
def retR (m : Bool) (r : Fl × D) : Option Out := if retOk m r then some (.rt r.2) else none
def appR (ρ : Rho) (i : Nat) (r : Fl × D) : Option Out :=
  match owned ρ i with
  | some (.lst ds) => if shb r.1 r.2 && decide (ds.length < lim) then some (.nx (setS ρ i (.ow (.lst (ds ++ [r.2]))))) else none
  | _ => none
def extR (ρ : Rho) (i : Nat) (r : Fl × D) : Option Out :=
  match owned ρ i, r.2 with
  | some (.lst ds), .lst es => if decide (ds.length + es.length ≤ lim) then some (.nx (setS ρ i (.ow (.lst (ds ++ es))))) else none
  | _, _ => none
def popR (ρ : Rho) (t i : Nat) : Option Out :=
  match owned ρ i with
  | some (.lst ds) => (ds[ds.length - 1]?).bind fun d => if t ≠ i then some (.nx (setS (setS ρ i (.ow (.lst ds.dropLast))) t (.sh d))) else none
  | _ => none
def clrR (ρ : Rho) (i : Nat) : Option Out :=
  match owned ρ i with
  | some (.lst ds) => some (.nx (setS ρ i (.ow (.lst []))))
  | _ => none
def stoR (ρ : Rho) (i : Nat) (k r : Fl × D) : Option Out :=
  match owned ρ i with
  | some d => if shb r.1 r.2 then (dSto d k.2 r.2).map fun d' => .nx (setS ρ i (.ow d')) else none
  | none => none
def mvR (ρ : Rho) (i j : Nat) : Option Out :=
  match ρ[j]? with
  | some (some (.ow d)) => if i ≠ j then some (.nx (setS (ρ.set j none) i (.ow d))) else none
  | some (some (.sh d)) => some (.nx (setS ρ i (.sh d)))
  | _ => none
def retPR (ρ : Rho) (i : Nat) : Option Out := (owned ρ i).map fun _ => .rp ρ i
/-- all but the p-th argument may be kept -/
def mcOk (p : Nat) (rs : List (Fl × D)) : Bool := (rs.set p (.fr, .non)).all fun r => shb r.1 r.2
def mcR (ρ : Rho) (i : Nat) (q : MF) (rs : List (Fl × D)) : Option Out :=
  match owned ρ i with
  | some _ => if mcOk q.p rs && decide (rs.length = q.n) && decide (q.p < q.n) then (q.F (rs.map (·.2))).map fun d => .nx (setS ρ i (.ow d)) else none
  | none => none
def setOws (ρ : Rho) : List Nat → List D → Rho
  | i :: is, d :: ds => setS (setOws ρ is ds) i (.ow d)
  | _, _ => ρ
/-- all but the arguments ps may be kept -/
def mcOks (ps : List Nat) (k : Nat) : List (Fl × D) → Bool
  | [] => true
  | r :: rs => (ps.contains k || shb r.1 r.2) && mcOks ps (k + 1) rs
def mcsR (ρ : Rho) (t : Nat) (is : List Nat) (q : MF2) (rs : List (Fl × D)) : Option Out :=
  if is.all (fun i => (owned ρ i).isSome) && decide is.Nodup && decide (is.length = q.ps.length) && decide (rs.length = q.n) && mcOks q.ps 0 rs && q.ps.all (fun p => decide (p < q.n)) && !is.contains t then
    (q.F (rs.map (·.2))).bind fun r => if imm r.2 && decide (r.1.length = is.length) then some (.nx (setS (setOws ρ is r.1) t (.sh r.2))) else none
  else none
def retQR (ρ : Rho) (r : Fl × D) : Option Out := if imm r.2 then some (.rq ρ r.2) else none
mutual
noncomputable def ex (Γ : Gam) (m : Bool) : CS → Rho → Option Out
  | .set i e, ρ => do
    let r ← ev Γ e ρ
    (assignR ρ i r).map .nx
  | .unp is e, ρ => do
    let r ← ev Γ e ρ
    if shb r.1 r.2 then (bindT (.tp is) r.2 ρ).map .nx else none
  | .mv i j, ρ => mvR ρ i j
  | .app i e, ρ => do
    let r ← ev Γ e ρ
    appR ρ i r
  | .ext i e, ρ => do
    let r ← ev Γ e ρ
    extR ρ i r
  | .pop t i, ρ => popR ρ t i
  | .clr i, ρ => clrR ρ i
  | .sto i k e, ρ => do
    let r ← ev Γ e ρ
    let q ← ev Γ k ρ
    stoR ρ i q r
  | .drop e, ρ => do
    let _ ← ev Γ e ρ
    some (.nx ρ)
  | .ite c a b, ρ => do
    let x ← toB (ev Γ c ρ)
    if x then exs Γ m a ρ else exs Γ m b ρ
  | .fors t it b, ρ => do
    let ds ← evi Γ it ρ
    if ds.1 then none else forGo t (fun ρ1 => exs Γ m b ρ1) ds.2 ρ
  | .whl n c b, ρ => whlGo (fun ρ1 => toB (ev Γ c ρ1)) (fun ρ1 => exs Γ m b ρ1) n ρ
  | .ret e, ρ => do
    let r ← ev Γ e ρ
    retR m r
  | .retN, _ => some (.rt .non)
  | .retP i, ρ => retPR ρ i
  | .mc i f as, ρ => do
    let rs ← evs Γ as ρ
    let q ← Γ.mf[f]?
    mcR ρ i q rs
  | .rais _, _ => none
  | .op k is ws as, ρ => do
    let q ← Γ.ex.ops.st[k]?
    (q.F is ws (evL Γ as) ρ).map .nx
  | .mcs t is f as, ρ => do
    let rs ← evs Γ as ρ
    let q ← Γ.ex.ops.mf[f]?
    mcsR ρ t is q rs
  | .retQ e, ρ => do
    let r ← ev Γ e ρ
    retQR ρ r
noncomputable def exs (Γ : Gam) (m : Bool) : CSs → Rho → Option Out
  | .nil, ρ => some (.nx ρ)
  | .cons s ss, ρ => do
    let o ← ex Γ m s ρ
    match o with
    | .nx ρ2 => exs Γ m ss ρ2
    | .rt r => some (.rt r)
    | .rp r i => some (.rp r i)
    | .rq r d => some (.rq r d)
  | .frz i ss, ρ => exs Γ m ss (frzR ρ i)
end
/-- a def: its slots, its body -/
noncomputable def runF (Γ : Gam) (m : Bool) (n : Nat) (b : CSs) (ds : List D) : Option D :=
  if m && !immL ds then none else
  match exs Γ m b (ds.map (fun d => some (.sh d)) ++ List.replicate (n - ds.length) none) with
  | some (.nx _) => some .non
  | some (.rt d) => some d
  | _ => none
/-- a def that changes its argument p -/
def ownI (ρ : Rho) (p : Nat) : Option D := match owned ρ p with | some d => if immE d then some d else none | none => none
noncomputable def runM (Γ : Gam) (p : Nat) (rp : Bool) (n : Nat) (b : CSs) (ds : List D) : Option D :=
  match ds[p]? with
  | some dp => if !isMut dp then none else
    match exs Γ false b (setS (ds.map (fun d => some (.sh d)) ++ List.replicate (n - ds.length) none) p (.ow dp)) with
    | some (.nx ρ) => if rp then none else ownI ρ p
    | some (.rp ρ i) => if i = p then ownI ρ p else none
    | _ => none
  | none => none
/-- what the slots ps hold -/
def ownIs (ρ : Rho) : List Nat → Option (List D)
  | [] => some []
  | p :: ps => (ownI ρ p).bind fun d => (ownIs ρ ps).map (d :: ·)
section
variable {X : Cx} {Γ : Gam} {m : Bool} {st : Stmt} {sts : List Stmt}
theorem ps_le {t u : TS} (hp : PS X st u) (hle : ∀ D σ H, t D σ H → u D σ H) : PS X st t := ⟨fun pins s σ H D I hh => hp.run pins s σ H D I (hle D σ H hh)⟩
theorem pss_le {t u : TS} (hp : PSs X sts u) (hle : ∀ D σ H, t D σ H → u D σ H) : PSs X sts t := ⟨fun pins s σ H D I hh => hp.run pins s σ H D I (hle D σ H hh)⟩
end
section
variable {K : PySem.W.Frag} {B : Bs} {ρ ρ' : Rho} {σ σ' : L2.St} {H H1 H2 H' : Hp} {fl : Fl} {d : D} {v : V}
theorem ret_ok {m : Bool} (S : StOk K B ρ σ H) (e : Ext H H') (hm : m = true → ∀ a, B.S a → B.N0 a) (hr : retOk m (fl, d) = true) (r : Res K B ρ σ H H' fl d v) : RetK K B H' d v := by
  refine ⟨S.keep.trans e, ?_⟩
  unfold retOk at hr
  by_cases hmu : isMut d = true
  · rw [if_pos hmu, Bool.or_eq_true, Bool.and_eq_true, Bool.and_eq_true] at hr
    have shc : m = true → immE d = true → ∀ fl, Res K B ρ σ H H' fl d v → Sep K B.N0 B.N0 H' d v := by
      intro hm1 hi fl r
      have rp : Rp K B.N0 H' d v := by
        cases fl with
        | sh => exact Rp.imp (fun a _ _ n => hm hm1 a n.1) r
        | fr => exact Rp.imp (fun a _ _ n => n.elim (fun n => hm hm1 a n.1) (fun t => (S.fresh a t).2)) (Sep.rp r)
        | bo => exact Rp.imp (fun a _ _ n => n.elim (fun n => hm hm1 a n.1) (fun t => by obtain ⟨_, _, _, _, n, _⟩ := S.own t; exact n)) (Sep.rp r)
      cases d <;> simp [isMut] at hmu <;> simp only [immE] at hi <;> simp only [Rp] at rp <;> simp only [Sep]
      · obtain ⟨a, vs, ea, t, s, r⟩ := rp
        exact ⟨a, vs, ea, t, s, r.any hi⟩
      · obtain ⟨a, vs, ea, t, s, k, r⟩ := rp
        exact ⟨a, vs, ea, t, s, k, r.any hi⟩
      · obtain ⟨a, vs, ea, t, s, k, r⟩ := rp
        exact ⟨a, vs, ea, t, s, k, r.any hi⟩
    rcases hr with hr | hr
    case inr => exact shc hr.1 hr.2 fl r
    obtain ⟨h1, h2⟩ := hr
    have gen : ∀ T : Addr → Prop, (∀ a o, H' a = some o → T a → B.N0 a) → Sep K (Nsh B ρ σ) T H' d v → Sep K B.N0 B.N0 H' d v := by
      intro T hT sep
      rw [Bool.or_eq_true] at h2
      rcases h2 with h2 | h2
      · exact Sep.imp (fun a _ _ n => hm h2 a n.1) hT sep
      · cases d <;> simp [isMut] at hmu <;> simp only [immE] at h2 <;> simp only [Sep] at sep ⊢
        · obtain ⟨a, vs, ea, t, s, r⟩ := sep
          exact ⟨a, vs, ea, hT a _ s t, s, r.any h2⟩
        · obtain ⟨a, vs, ea, t, s, k, r⟩ := sep
          exact ⟨a, vs, ea, hT a _ s t, s, k, r.any h2⟩
        · obtain ⟨a, vs, ea, t, s, k, r⟩ := sep
          exact ⟨a, vs, ea, hT a _ s t, s, k, r.any h2⟩
    cases fl with
    | sh => simp at h1
    | fr => exact gen _ (fun a o _ t => (S.fresh a t).2) r
    | bo => exact gen _ (fun a o _ t => by obtain ⟨_, _, _, _, n, _⟩ := S.own t; exact n) r
  · rw [if_neg hmu, Bool.or_eq_true] at hr
    have hmf : isMut d = false := by simpa using hmu
    have rp := r.rp hmf
    refine Sep.of_rp hmf ?_
    rcases hr with hr | hr
    · exact Rp.imp (fun a _ _ n => hm hr a n.1) rp
    · exact rp.any hr
theorem StOk.assign {i : Nat} (S : StOk K B ρ σ H) (hP : ∀ a, (i, a) ∉ B.P) (e : Ext H H') (ha : assignR ρ i (fl, d) = some ρ') (r : Res K B ρ σ H H' fl d v) : StOk K B ρ' (σ.set i (some v)) H' := by
  unfold assignR at ha
  by_cases hm : isMut d = true
  · rw [if_pos hm] at ha
    cases fl with
    | fr => cases ha; exact S.setOw e i hP hm r
    | sh => cases ha; exact (S.ext e).set i hP r
    | bo => cases ha
  · rw [if_neg hm] at ha
    cases ha
    exact (S.ext e).set i hP (r.rp (by simpa using hm))
/-- an owned cell is rewritten -/
theorem StOk.mut {i : Nat} {d0 d1 : D} {a : Addr} {o o' : HO} (S : StOk K B ρ σ H) (h1 : ρ[i]? = some (some (.ow d0))) (h2 : σ[i]? = some (some (.ref a))) (hm : isMut d1 = true)
    (ho : H a = some o) (hn : Sep K (Nsh B ρ σ) (fun _ => True) (upd H a o') d1 (.ref a)) : StOk K B (setS ρ i (.ow d1)) σ (upd H a o') := by
  have hi : i < ρ.length := (List.getElem?_eq_some_iff.mp h1).1
  have own : Own ρ σ a := ⟨i, d0, h1, h2⟩
  obtain ⟨o2, q1, q2, q3, q4, q5⟩ := S.own own
  rw [ho] at q1; cases q1
  have same : ∀ b, Own (setS ρ i (.ow d1)) σ b ↔ Own ρ σ b := by
    intro b
    constructor
    · rintro ⟨j, e, g1, g2⟩
      by_cases hj : i = j
      · subst hj; exact ⟨i, d0, h1, g2⟩
      · unfold setS at g1; rw [List.getElem?_set_ne hj] at g1; exact ⟨j, e, g1, g2⟩
    · rintro ⟨j, e, g1, g2⟩
      by_cases hj : i = j
      · subst hj; exact ⟨i, d1, List.getElem?_set_self hi, g2⟩
      · exact ⟨j, e, by unfold setS; rw [List.getElem?_set_ne hj]; exact g1, g2⟩
  have nsh : ∀ b, Nsh B ρ σ b → Nsh B (setS ρ i (.ow d1)) σ b := fun b n => ⟨n.1, fun z => n.2 ((same b).mp z)⟩
  have na : ∀ b o, H b = some o → Nsh B ρ σ b → b ≠ a := fun b _ _ n z => n.2 (z ▸ own)
  refine ⟨by simp [setS, S.len], S.keep.mut q5 ho q2, fun b g => ?_, fun j e g => ?_, fun j e g => ?_, fun j k e e' b g1 g2 g3 g4 => ?_, S.pin, fun p hp => tbl_mut ho q2 (S.tabs p hp), fun j w g => ?_⟩
  · have : b ≠ a := fun z => by subst z; rw [upd_same] at g; cases g
    rw [upd_ne this] at g; exact S.fresh b g
  · by_cases hj : i = j
    · subst hj; unfold setS at g; rw [List.getElem?_set_self hi] at g; cases g
    · unfold setS at g; rw [List.getElem?_set_ne hj] at g
      obtain ⟨w, w1, w2⟩ := S.sh j e g
      exact ⟨w, w1, Rp.imp (fun b _ _ n => nsh b n) (Rp.mut ho q2 na w2)⟩
  · by_cases hj : i = j
    · subst hj; unfold setS at g; rw [List.getElem?_set_self hi] at g; cases g
      refine ⟨.ref a, h2, hm, ?_⟩
      revert hn
      cases d1 <;> simp [isMut] at hm <;> intro hn <;> simp only [Sep] at hn ⊢
      · obtain ⟨p, vs, ep, _, t, r⟩ := hn; cases ep
        exact ⟨a, vs, rfl, ⟨q3, q4, q5⟩, t, Rps.imp (fun b _ _ n => ⟨nsh b n.1, n.2⟩) r⟩
      · obtain ⟨p, vs, ep, _, t, k, r⟩ := hn; cases ep
        exact ⟨a, vs, rfl, ⟨q3, q4, q5⟩, t, k, Rps.imp (fun b _ _ n => ⟨nsh b n.1, n.2⟩) r⟩
      · obtain ⟨p, vs, ep, _, t, k, r⟩ := hn; cases ep
        exact ⟨a, vs, rfl, ⟨q3, q4, q5⟩, t, k, Rps.imp (fun b _ _ n => ⟨nsh b n.1, n.2⟩) r⟩
    · unfold setS at g; rw [List.getElem?_set_ne hj] at g
      obtain ⟨w, w1, w2, w3⟩ := S.ow j e g
      refine ⟨w, w1, w2, ?_⟩
      have wa : w ≠ .ref a := fun z => hj (S.dis i j d0 e a h1 g h2 (z ▸ w1))
      revert w3
      cases e <;> simp [isMut] at w2 <;> intro w3 <;> simp only [Sep] at w3 ⊢
      · obtain ⟨p, vs, ep, tt, t, r⟩ := w3
        have pa : p ≠ a := fun z => wa (by rw [ep, z])
        exact ⟨p, vs, ep, tt, by rw [upd_ne pa]; exact t, Rps.imp (fun b _ _ n => ⟨nsh b n.1, n.2⟩) (Rps.mut ho q2 (fun b o z n => na b o z n.1) r)⟩
      · obtain ⟨p, vs, ep, tt, t, k, r⟩ := w3
        have pa : p ≠ a := fun z => wa (by rw [ep, z])
        exact ⟨p, vs, ep, tt, by rw [upd_ne pa]; exact t, k, Rps.imp (fun b _ _ n => ⟨nsh b n.1, n.2⟩) (Rps.mut ho q2 (fun b o z n => na b o z n.1) r)⟩
      · obtain ⟨p, vs, ep, tt, t, k, r⟩ := w3
        have pa : p ≠ a := fun z => wa (by rw [ep, z])
        exact ⟨p, vs, ep, tt, by rw [upd_ne pa]; exact t, k, Rps.imp (fun b _ _ n => ⟨nsh b n.1, n.2⟩) (Rps.mut ho q2 (fun b o z n => na b o z n.1) r)⟩
  · have at_ : ∀ {j : Nat} {e : D}, (setS ρ i (.ow d1))[j]? = some (some (.ow e)) → ∃ e', ρ[j]? = some (some (.ow e')) := by
      intro j e g
      by_cases hj : i = j
      · subst hj; exact ⟨d0, h1⟩
      · unfold setS at g; rw [List.getElem?_set_ne hj] at g; exact ⟨e, g⟩
    obtain ⟨_, g1'⟩ := at_ g1
    obtain ⟨_, g2'⟩ := at_ g2
    exact S.dis j k _ _ b g1' g2' g3 g4
  · obtain ⟨_, g'⟩ := clo_set (by intro v z; cases z) g
    obtain ⟨a1, a2, a3⟩ := S.clo j w g'
    refine ⟨a1, ?_, Rps.imp (fun b _ _ n => nsh b n) (Rps.mut ho q2 na a3)⟩
    rw [upd_ne (fun z => by rw [z, ho] at a2; cases a2; exact q2)]; exact a2
theorem owned_of {i : Nat} (h : owned ρ i = some d) : ρ[i]? = some (some (.ow d)) := by
  unfold owned at h
  split at h
  · rename_i e; cases h; exact e
  · cases h
/-- the cell of an owned slot -/
theorem StOk.cellL {i : Nat} {ds : List D} (S : StOk K B ρ σ H) (h : ρ[i]? = some (some (.ow (.lst ds)))) : ∃ a vs, σ[i]? = some (some (.ref a)) ∧ H a = some (.lst vs) ∧ Rps K (fun b => Nsh B ρ σ b ∧ b ≠ a) H ds vs := by
  obtain ⟨v, h1, _, h3⟩ := S.ow i _ h
  simp only [Sep] at h3
  obtain ⟨a, vs, rfl, _, t, r⟩ := h3
  exact ⟨a, vs, h1, t, r⟩
theorem StOk.cellD {i : Nat} {ks : List Key} {ds : List D} (S : StOk K B ρ σ H) (h : ρ[i]? = some (some (.ow (.dic ks ds)))) :
    ∃ a kvs, σ[i]? = some (some (.ref a)) ∧ H a = some (.dK kvs) ∧ kvs.map (·.1) = ks ∧ Rps K (fun b => Nsh B ρ σ b ∧ b ≠ a) H ds (kvs.map (·.2)) := by
  obtain ⟨v, h1, _, h3⟩ := S.ow i _ h
  simp only [Sep] at h3
  obtain ⟨a, vs, rfl, _, t, k, r⟩ := h3
  exact ⟨a, vs, h1, t, k, r⟩
/-- a slot frozen -/
theorem StOk.frz (S : StOk K B ρ σ H) (i : Nat) (hP : ∀ a, (i, a) ∉ B.P) : StOk K B (frzR ρ i) σ H := by
  unfold frzR
  split
  · rename_i d h
    obtain ⟨v, h1, h2, h3⟩ := S.ow i d h
    have hi : i < σ.length := (List.getElem?_eq_some_iff.mp h1).1
    have eσ : σ.set i (some v) = σ := by
      apply List.ext_getElem?
      intro j
      by_cases hj : i = j
      · subst hj; rw [List.getElem?_set_self hi, h1]
      · rw [List.getElem?_set_ne hj]
    -- forget the slot first
    have S0 : StOk K B (ρ.set i none) σ H := S.sub (by simp [S.len]) (fun _ _ _ => rfl) fun j sl g => by
      by_cases hj : i = j
      · subst hj
        by_cases hi2 : i < ρ.length
        · rw [List.getElem?_set_self hi2] at g; cases g
        · rw [List.getElem?_eq_none (by simpa using hi2)] at g; cases g
      · rw [List.getElem?_set_ne hj] at g; exact ⟨g, rfl⟩
    have h3' : Sep K (Nsh B ρ σ) (fun a => B.S a ∧ v = .ref a) H d v := by
      cases d <;> simp [isMut] at h2 <;> simp only [Sep] at h3 ⊢ <;> obtain ⟨p, vs, ep, tt, r⟩ := h3 <;> exact ⟨p, vs, ep, ⟨tt.1, ep⟩, r⟩
    have r : Rp K (Nsh B (ρ.set i none) σ) H d v := by
      refine Rp.imp (fun a o q n => ?_) h3'.rp
      have nown : (Nsh B ρ σ a ∨ (v = .ref a)) → ¬ Own (ρ.set i none) σ a := by
        rintro hh ⟨j, e, g1, g2⟩
        by_cases hj : i = j
        · subst hj
          by_cases hi2 : i < ρ.length
          · rw [List.getElem?_set_self hi2] at g1; cases g1
          · rw [List.getElem?_eq_none (by simpa using hi2)] at g1; cases g1
        · rw [List.getElem?_set_ne hj] at g1
          rcases hh with hh | hh
          · exact hh.2 ⟨j, e, g1, g2⟩
          · subst hh; exact hj (S.dis i j d e a h g1 h1 g2)
      rcases n with n | n
      · exact ⟨n.1, nown (.inl n)⟩
      · exact ⟨n.1, nown (.inr n.2)⟩
    have S1 := S0.set i hP r
    rw [eσ] at S1
    have eρ : setS (ρ.set i none) i (.sh d) = setS ρ i (.sh d) := by unfold setS; rw [List.set_set]
    rw [eρ] at S1
    exact S1
  · exact S
end
end DD
set_option Elab.async false
set_option linter.all false
set_option maxRecDepth 100000
set_option maxHeartbeats 4000000
namespace DD
open PySem L2 PyProof.Rows RZ
variable [Tb : Tbl]
def notComp : Expr → Bool
  | .ListComp _ _ _ _ => false | .SetComp _ _ _ _ => false | .DictComp _ _ _ _ _ => false | _ => true
def notTup : Expr → Bool
  | .Tuple _ _ _ => false | _ => true
section
variable {X : Cx} {Γ : Gam} {m : Bool} {pn : List Nat} {f g : Rho → Option (Fl × D)} {fc : Rho → Option Bool} {pos p : Pos} {a b c e tg : Expr} {x : Str}
theorem sw_of {t : Option Expr} {l : Nat} (h : notComp e = true) : swapsWith e t l X.env = pure false := by
  cases e <;> first | rfl | (simp [notComp] at h)
theorem sole_of {t : Expr} {l : Nat} (h : notComp e = true) : swapsWithSole [t] e l X.env = pure false := by
  show swapsWith e (some t) l X.env = pure false
  exact sw_of h
theorem sw_cell {t : Expr} {l : Nat} {x : Str} {p : Pos} (ht : t = .Name x p) (hx : X.env.scope.names.lookup x = some .cell) : swapsWith e (some t) l X.env = pure false := by
  subst ht
  have hk : X.env.kindOf x = some .cell := hx
  cases e <;> first
    | rfl
    | (unfold swapsWith
       simp only [hk]
       have : (some NameKind.cell == some NameKind.local) = false := rfl
       simp only [this, Bool.and_false, Bool.false_and]
       first | done | rfl)
/-- x = e -/
theorem set_le {i : Nat} {te : TE} (hpn : i ∉ pn) (hle : ∀ σ H Q, rd X.K f σ H Q → te σ H Q) {D : Ends} {σ : L2.St} {H : Hp} (hh : rdS X.K pn m (fun ρ => do let r ← f ρ; (assignR ρ i r).map .nx) D σ H) : tAsg te (gName i) D σ H := by
  obtain ⟨B, ρ, out, hf, S, hm, q⟩ := hh
  refine hle σ H _ ?_
  cases e1 : f ρ with
  | none => simp [e1] at hf
  | some r =>
  obtain ⟨fl, d⟩ := r
  simp only [e1, Option.bind_eq_bind, Option.bind_some] at hf
  cases e2 : assignR ρ i (fl, d) with
  | none => simp [e2] at hf
  | some ρ' =>
  simp only [e2, Option.map_some, Option.some.injEq] at hf
  subst hf
  exact ⟨B, ρ, fl, d, e1, S, fun v H' z r => q _ H' (S.assign (hm.ne hpn) z e2 r)⟩
theorem ss_set {i : Nat} (hpn : i ∉ pn) (hN : X.N.Nodup) (hi : X.N[i]? = some x) (hx : Loc X.env.scope x) (hfn : X.fn x = true) (he : PE X e (rd X.K f)) (hc : ∀ t l, swapsWith e (some t) l X.env = pure false ∨ t ≠ .Name x p) :
    PS X (.Assign [.Name x p] e pos) (rdS X.K pn m fun ρ => do let r ← f ρ; (assignR ρ i r).map .nx) :=
  ps_le (ps_set hN hi hx he ((hc (.Name x p) pos.line).elim id fun z => absurd rfl z) (.inl hfn)) fun _ _ _ => set_le hpn fun _ _ _ z => z
theorem ss_unp {is : List Nat} (hpn : ∀ i ∈ is, i ∉ pn) (C : Ctx true X Γ) (hfn : ∀ x, X.fn x = true) (hg : chkTg true X.env.scope X.N (.tp is) tg = true) (he : PE X e (rd X.K f)) (hc : notComp e = true) (ht : notTup e = true) :
    PS X (.Assign [tg] e pos) (rdS X.K pn m fun ρ => do let r ← f ρ; if shb r.1 r.2 then (bindT (.tp is) r.2 ρ).map .nx else none) := by
  have hg' := pg_of C.calm C.nd (fun _ => hfn) rfl hg
  obtain ⟨es, k, p0, rfl⟩ : ∃ es k p0, tg = .Tuple es k p0 := by
    cases tg <;> simp [chkTg] at hg
    exact ⟨_, _, _, rfl⟩
  refine ps_le (ps_asg he hg' (sole_of hc) ?_ rfl) fun D σ H hh => ?_
  · cases e <;> first | rfl | (simp [notTup] at ht)
  · obtain ⟨B, ρ, out, hf, S, hm, q⟩ := hh
    cases e1 : f ρ with
    | none => simp [e1] at hf
    | some r =>
    obtain ⟨fl, d⟩ := r
    simp only [e1, Option.bind_eq_bind, Option.bind_some] at hf
    split at hf
    case isFalse => cases hf
    rename_i hs
    cases e2 : bindT (.tp is) d ρ with
    | none => simp [e2] at hf
    | some ρ' =>
    simp only [e2, Option.map_some, Option.some.injEq] at hf
    subst hf
    refine ⟨B, ρ, fl, d, e1, S, fun v H' z r => ?_⟩
    obtain ⟨σ', S', q', _⟩ := bind_ok (t := .tp is) (fun i hi => hm.ne (hpn i hi)) (S.ext z) (r.shb S hs) e2
    exact q' _ (q σ' H' S')
theorem ss_mv {i j : Nat} {y : Str} {p2 : Pos} (hpn : i ∉ pn) (hN : X.N.Nodup) (hi : X.N[i]? = some x) (hx : Loc X.env.scope x) (hfn : X.fn x = true) (he : PE X (.Name y p2) (tVar j)) :
    PS X (.Assign [.Name x p] (.Name y p2) pos) (rdS X.K pn m fun ρ => mvR ρ i j) := by
  refine ps_le (ps_set hN hi hx he (sw_of rfl) (.inl hfn)) fun D σ H hh => ?_
  obtain ⟨B, ρ, out, hf, S, hm, q⟩ := hh
  dsimp only [mvR] at hf
  split at hf
  · rename_i d h
    split at hf
    case isFalse => cases hf
    rename_i hij
    cases hf
    obtain ⟨v, h1, h2, h3⟩ := S.ow j d h
    refine ⟨v, h1, q _ H ?_⟩
    have hj : j < σ.length := (List.getElem?_eq_some_iff.mp h1).1
    have hjr : j < ρ.length := (List.getElem?_eq_some_iff.mp h).1
    obtain ⟨a, ea⟩ : ∃ a, v = .ref a := by
      cases d <;> simp [isMut] at h2 <;> simp only [Sep] at h3 <;> obtain ⟨a, _, e, _⟩ := h3 <;> exact ⟨a, e⟩
    subst ea
    -- the slot moved
    have look : ∀ {k : Nat} {sl : Sl}, (setS (ρ.set j none) i (.ow d))[k]? = some (some sl) → (k = i ∧ sl = .ow d) ∨ (k ≠ i ∧ k ≠ j ∧ ρ[k]? = some (some sl)) := by
      intro k sl g
      unfold setS at g
      by_cases hk : i = k
      · subst hk
        by_cases hi2 : i < (ρ.set j none).length
        · rw [List.getElem?_set_self hi2] at g; cases g; exact .inl ⟨rfl, rfl⟩
        · rw [List.getElem?_eq_none (by simpa using hi2)] at g; cases g
      · rw [List.getElem?_set_ne hk] at g
        by_cases hk2 : j = k
        · subst hk2
          rw [List.getElem?_set_self hjr] at g; cases g
        · rw [List.getElem?_set_ne hk2] at g
          exact .inr ⟨fun z => hk z.symm, fun z => hk2 z.symm, g⟩
    have own : ∀ b, Own (setS (ρ.set j none) i (.ow d)) (σ.set i (some (.ref a))) b → Own ρ σ b := by
      rintro b ⟨k, e', g1, g2⟩
      rcases look g1 with ⟨rfl, _⟩ | ⟨k1, k2, g⟩
      · by_cases hi2 : k < σ.length
        · rw [List.getElem?_set_self hi2] at g2; cases g2; exact ⟨j, d, h, h1⟩
        · rw [List.getElem?_eq_none (by simpa using hi2)] at g2; cases g2
      · rw [List.getElem?_set_ne (fun z => k1 z.symm)] at g2
        exact ⟨k, e', g, g2⟩
    have mono : ∀ b o, H b = some o → Nsh B ρ σ b → Nsh B (setS (ρ.set j none) i (.ow d)) (σ.set i (some (.ref a))) b := fun b o _ n => ⟨n.1, fun z => n.2 (own b z)⟩
    refine ⟨by simp [setS, S.len], S.keep, S.fresh, fun k e' g => ?_, fun k e' g => ?_, fun k l e1 e2 b g1 g2 g3 g4 => ?_, pin_set (hm.ne hpn) S.pin, S.tabs, fun k w g => ?_⟩
    · rcases look g with ⟨_, z⟩ | ⟨k1, k2, g⟩
      · cases z
      · obtain ⟨w, w1, w2⟩ := S.sh k e' g
        exact ⟨w, by rw [List.getElem?_set_ne (fun z => k1 z.symm)]; exact w1, Rp.imp mono w2⟩
    · rcases look g with ⟨rfl, z⟩ | ⟨k1, k2, g⟩
      · cases z
        have hk : k < σ.length := by
          have := (List.getElem?_eq_some_iff.mp g).1
          simpa [setS, S.len] using this
        exact ⟨.ref a, List.getElem?_set_self hk, h2, Sep.imp mono (fun _ _ _ t => t) h3⟩
      · obtain ⟨w, w1, w2, w3⟩ := S.ow k e' g
        exact ⟨w, by rw [List.getElem?_set_ne (fun z => k1 z.symm)]; exact w1, w2, Sep.imp mono (fun _ _ _ t => t) w3⟩
    · have ref_i : ∀ {k : Nat}, k = i → (σ.set i (some (.ref a)))[k]? = some (some (.ref b)) → b = a := by
        rintro k rfl g
        by_cases hi2 : k < σ.length
        · rw [List.getElem?_set_self hi2] at g; cases g; rfl
        · rw [List.getElem?_eq_none (by simpa using hi2)] at g; cases g
      rcases look g1 with ⟨z1, _⟩ | ⟨k1, k2, g1'⟩ <;> rcases look g2 with ⟨z2, _⟩ | ⟨l1, l2, g2'⟩
      · rw [z1, z2]
      · have eb := ref_i z1 g3
        subst eb
        rw [List.getElem?_set_ne (fun z => l1 z.symm)] at g4
        exact absurd (S.dis l j e2 d b g2' h g4 h1) l2
      · have eb := ref_i z2 g4
        subst eb
        rw [List.getElem?_set_ne (fun z => k1 z.symm)] at g3
        exact absurd (S.dis k j e1 d b g1' h g3 h1) k2
      · rw [List.getElem?_set_ne (fun z => k1 z.symm)] at g3
        rw [List.getElem?_set_ne (fun z => l1 z.symm)] at g4
        exact S.dis k l e1 e2 b g1' g2' g3 g4
    · obtain ⟨n1, g1⟩ := clo_set (ρ := List.set ρ j none) (by intro v z; cases z) g
      obtain ⟨n2, g2⟩ := clo_set (ρ := ρ) (by intro v z; cases z) g1
      obtain ⟨a1, a2, a3⟩ := S.clo k w g2
      exact ⟨by rw [List.getElem?_set_ne n1]; exact a1, a2, Rps.imp mono a3⟩
  · rename_i d h
    cases hf
    obtain ⟨v, h1, h2⟩ := S.sh j d h
    exact ⟨v, h1, q _ H (S.set i (hm.ne hpn) h2)⟩
  · cases hf
section
variable {K : PySem.W.Frag} {B : Bs} {ρ : Rho} {σ : L2.St} {H H1 : Hp}
theorem new_sep {ds es : List D} {vs ws : List V} {a : Addr} (S : StOk K B ρ σ H) (ho : H a = some (.lst vs)) (own : Own ρ σ a) (r1 : Rps K (Nsh B ρ σ) H (ds ++ es) (vs ++ ws)) :
    Sep K (Nsh B ρ σ) (fun _ => True) (upd H a (.lst (vs ++ ws))) (.lst (ds ++ es)) (.ref a) := by
  have na : ∀ b o, H b = some o → Nsh B ρ σ b → b ≠ a := fun b _ _ n z => n.2 (z ▸ own)
  simp only [Sep]
  refine ⟨a, _, rfl, trivial, upd_same, ?_⟩
  exact Rps.imp (fun b o q n => n) (Rps.mut (N := fun b => Nsh B ρ σ b ∧ b ≠ a) ho trivial (fun b o q n => n.2) (Rps.imp (fun b o q n => ⟨n, na b o q n⟩) r1))
end
theorem ss_app {i : Nat} {xs : Expr} {ap cp : Pos} (C : Ctx true X Γ) (hx : PE X xs (tVar i)) (ha : PE X a (rd X.K f)) (hs : notStar a = true) (hl : (ap.endLine == cp.line) = true) (hb : attributeBase xs "append" X.env (eval xs X.env) = eval xs X.env) :
    PS X (.Expr (.Call (.Attribute xs "append" ap) [a] [] cp) pos) (rdS X.K pn m fun ρ => do let r ← f ρ; appR ρ i r) := by
  have hst := star_of (X := X) (es := []) hs
  refine ps_le (ps_expr (pe_bm PySem.F.plainAttrs_list PySem.F.slot_list_append PySem.F.type_list_append mt_append hx (pa_cons ha pa_nil hst) hb (by rw [hst]; rfl) hl hst rfl)) fun D σ H hh => ?_
  obtain ⟨B, ρ, out, hf, S, hm, q⟩ := hh
  cases e1 : f ρ with
  | none => simp [e1] at hf
  | some r =>
  obtain ⟨fl, d⟩ := r
  simp only [e1, Option.bind_eq_bind, Option.bind_some, appR] at hf
  cases e2 : owned ρ i with
  | none => simp [e2] at hf
  | some d0 =>
  rw [e2] at hf
  cases d0 <;> simp only [reduceCtorEq] at hf
  rename_i ds
  split at hf
  case isFalse => cases hf
  rename_i hz
  rw [Bool.and_eq_true, decide_eq_true_eq] at hz
  cases hf
  have hro := owned_of e2
  obtain ⟨p0, vs, h1, h2, h3⟩ := S.cellL hro
  refine ⟨_, h1, .inl ⟨rfl, _, SqL.of h2⟩, B, ρ, fl, d, e1, S, fun v H' z r => ?_⟩
  have S' := S.ext z
  refine ⟨p0, vs, v, rfl, rfl, z.lst h2, by rw [← h3.length]; exact sz_lt hz.2, q σ _ ?_⟩
  exact S'.mut hro h1 rfl (z.lst h2) (new_sep S' (z.lst h2) ⟨i, _, hro, h1⟩ (Rps.append (Rps.ext z (Rps.imp (fun _ _ _ n => n.1) h3)) (Rps.one (r.shb S hz.1))))
theorem ss_ext {i : Nat} {xs : Expr} {ap cp : Pos} (C : Ctx true X Γ) (hx : PE X xs (tVar i)) (ha : PE X a (rd X.K f)) (hs : notStar a = true) (hl : (ap.endLine == cp.line) = true) (hb : attributeBase xs "extend" X.env (eval xs X.env) = eval xs X.env) :
    PS X (.Expr (.Call (.Attribute xs "extend" ap) [a] [] cp) pos) (rdS X.K pn m fun ρ => do let r ← f ρ; extR ρ i r) := by
  have hst := star_of (X := X) (es := []) hs
  refine ps_le (ps_expr (pe_bm PySem.F.plainAttrs_list PySem.F.slot_list_extend PySem.F.type_list_extend mt_extend hx (pa_cons ha pa_nil hst) hb (by rw [hst]; rfl) hl hst rfl)) fun D σ H hh => ?_
  obtain ⟨B, ρ, out, hf, S, hm, q⟩ := hh
  cases e1 : f ρ with
  | none => simp [e1] at hf
  | some r =>
  obtain ⟨fl, d⟩ := r
  simp only [e1, Option.bind_eq_bind, Option.bind_some, extR] at hf
  cases e2 : owned ρ i with
  | none => simp [e2] at hf
  | some d0 =>
  rw [e2] at hf
  cases d0 <;> cases d <;> simp only [reduceCtorEq] at hf
  rename_i ds es
  split at hf
  case isFalse => cases hf
  rename_i hz
  rw [decide_eq_true_eq] at hz
  cases hf
  have hro := owned_of e2
  obtain ⟨p0, vs, h1, h2, h3⟩ := S.cellL hro
  refine ⟨_, h1, .inl ⟨rfl, _, SqL.of h2⟩, B, ρ, fl, _, e1, S, fun v H' z r => ?_⟩
  have S' := S.ext z
  obtain ⟨pb, ws, rfl, t, rr⟩ := r.lst S
  refine ⟨p0, pb, vs, ws, rfl, rfl, z.lst h2, t, sz_of (by rw [← h3.length, ← rr.length]; exact hz), q σ _ ?_⟩
  exact S'.mut hro h1 rfl (z.lst h2) (new_sep S' (z.lst h2) ⟨i, _, hro, h1⟩ (Rps.append (Rps.ext z (Rps.imp (fun _ _ _ n => n.1) h3)) rr))
theorem last_rps {K : PySem.W.Frag} {N : Addr → Prop} {H : Hp} {ds : List D} {vs : List V} {d : D} (r : Rps K N H ds vs) (h : ds[ds.length - 1]? = some d) : ∃ v, vs[vs.length - 1]? = some v ∧ Rp K N H d v := by
  rw [r.length] at h
  exact r.get h
theorem ss_pop {t i : Nat} {xs : Expr} {ap cp : Pos} (hpn : t ∉ pn) (C : Ctx true X Γ) (hi : X.N[t]? = some x) (hxl : Loc X.env.scope x) (hfn : X.fn x = true) (hx : PE X xs (tVar i)) (hl : (ap.endLine == cp.line) = true)
    (hb : attributeBase xs "pop" X.env (eval xs X.env) = eval xs X.env) :
    PS X (.Assign [.Name x p] (.Call (.Attribute xs "pop" ap) [] [] cp) pos) (rdS X.K pn m fun ρ => popR ρ t i) := by
  refine ps_le (ps_set C.nd hi hxl (pe_bm0 PySem.F.plainAttrs_list PySem.F.slot_list_pop PySem.F.type_list_pop mt_pop hx hb hl) (sw_of rfl) (.inl hfn)) fun D σ H hh => ?_
  obtain ⟨B, ρ, out, hf, S, hm, q⟩ := hh
  dsimp only [popR] at hf
  cases e2 : owned ρ i with
  | none => simp [e2] at hf
  | some d0 =>
  rw [e2] at hf
  cases d0 <;> simp only [reduceCtorEq] at hf
  rename_i ds
  cases e3 : ds[ds.length - 1]? with
  | none => simp [e3] at hf
  | some d =>
  rw [e3, Option.bind_some] at hf
  split at hf
  case isFalse => cases hf
  rename_i hti
  cases hf
  have hro := owned_of e2
  obtain ⟨p0, vs, h1, h2, h3⟩ := S.cellL hro
  have own : Own ρ σ p0 := ⟨i, _, hro, h1⟩
  obtain ⟨v, hv, rv⟩ := last_rps h3 e3
  refine ⟨_, h1, .inl ⟨rfl, _, SqL.of h2⟩, p0, vs, v, rfl, rfl, h2, hv, q _ _ ?_⟩
  have r' : Rps X.K (fun b => Nsh B ρ σ b ∧ b ≠ p0) (upd H p0 (.lst vs.dropLast)) ds.dropLast vs.dropLast := Rps.mut h2 trivial (fun b o _ n => n.2) h3.dropLast
  have S1 := S.mut (d1 := .lst ds.dropLast) (o' := .lst vs.dropLast) hro h1 rfl h2 (by simp only [Sep]; exact ⟨p0, _, rfl, trivial, upd_same, r'⟩)
  refine S1.set t (hm.ne hpn) ?_
  have rv' := Rp.mut (o' := .lst vs.dropLast) h2 trivial (fun b o _ n => n.2) rv
  refine Rp.imp (fun b o _ n => ⟨n.1.1, ?_⟩) rv'
  rintro ⟨j, e', g1, g2⟩
  by_cases hj : i = j
  · subst hj
    rw [h1] at g2; cases g2
    exact n.2 rfl
  · unfold setS at g1
    rw [List.getElem?_set_ne hj] at g1
    exact n.1.2 ⟨j, e', g1, g2⟩
theorem ss_clr {i : Nat} {xs : Expr} {ap cp : Pos} (C : Ctx true X Γ) (hx : PE X xs (tVar i)) (hl : (ap.endLine == cp.line) = true) (hb : attributeBase xs "clear" X.env (eval xs X.env) = eval xs X.env) :
    PS X (.Expr (.Call (.Attribute xs "clear" ap) [] [] cp) pos) (rdS X.K pn m fun ρ => clrR ρ i) := by
  refine ps_le (ps_expr (pe_bm0 PySem.F.plainAttrs_list PySem.F.slot_list_clear PySem.F.type_list_clear mt_clear hx hb hl)) fun D σ H hh => ?_
  obtain ⟨B, ρ, out, hf, S, hm, q⟩ := hh
  dsimp only [clrR] at hf
  cases e2 : owned ρ i with
  | none => simp [e2] at hf
  | some d0 =>
  rw [e2] at hf
  cases d0 <;> simp only [reduceCtorEq] at hf
  cases hf
  have hro := owned_of e2
  obtain ⟨p0, vs, h1, h2, h3⟩ := S.cellL hro
  refine ⟨_, h1, .inl ⟨rfl, _, SqL.of h2⟩, p0, vs, rfl, rfl, h2, q σ _ ?_⟩
  exact S.mut hro h1 rfl h2 (by simp only [Sep]; exact ⟨p0, _, rfl, trivial, upd_same, Rps.nil⟩)
end
end DD
set_option Elab.async false
set_option linter.all false
set_option maxRecDepth 100000
set_option maxHeartbeats 4000000
namespace DD
open PySem L2 PyProof.Rows RZ
variable [Tb : Tbl]
section
variable {X : Cx} {Γ : Gam} {m : Bool} {pn : List Nat} {f g : Rho → Option (Fl × D)} {fc : Rho → Option Bool} {pos p : Pos} {a b c e tg : Expr} {x : Str} {fb fb2 : Rho → Option Out} {sa sb : List Stmt} {st : Stmt}
theorem putD_rps {K : PySem.W.Frag} {N : Addr → Prop} {H : Hp} {q : Key} {d : D} {v : V} (rv : Rp K N H d v) : ∀ {kvs : List (Key × V)} {ds : List D}, Rps K N H ds (kvs.map (·.2)) →
    (putK kvs q v).map (·.1) = (putD (kvs.map (·.1)) ds q d).1 ∧ Rps K N H (putD (kvs.map (·.1)) ds q d).2 ((putK kvs q v).map (·.2)) := by
  intro kvs ds r
  have eh : (kvs.any fun kv => decide (kv.1 = q)) = hasK q (kvs.map (·.1)) := by
    unfold hasK; rw [List.any_map]; rfl
  unfold putK putD
  rw [eh]
  split
  · constructor
    · simp only [List.map_map]
      apply List.map_congr_left
      intro kv _
      simp only [Function.comp]
      split <;> rfl
    · clear eh
      rename_i hk0
      clear hk0
      simp only [List.map_map]
      induction kvs generalizing ds with
      | nil =>
        have : ds = [] := by
          have := r.length
          simpa using this
        subst this
        simp only [List.map_nil, List.zipWith_nil_left]
        exact Rps.nil
      | cons kv kvs ih =>
        cases ds with
        | nil => simp only [Rps, List.map_cons, reduceCtorEq] at r
        | cons d' ds =>
          simp only [List.map_cons, Rps] at r
          obtain ⟨w, ws, e0, r1, r2⟩ := r
          obtain ⟨rfl, rfl⟩ := List.cons.inj e0
          simp only [List.map_cons, List.zipWith_cons_cons, Function.comp]
          refine Rps.cons ?_ (ih r2)
          split
          · exact rv
          · exact r1
  · constructor
    · simp
    · simp only [List.map_append, List.map_cons, List.map_nil]
      exact Rps.append r (Rps.one rv)
theorem ss_sto {i : Nat} {xs k : Expr} {p2 : Pos} (C : Ctx true X Γ) (hx : PE X xs (tVar i)) (hk : PE X k (rd X.K g)) (he : PE X e (rd X.K f)) (hc : notComp e = true) (hpx : plainIx k = true) :
    PS X (.Assign [.Subscript xs k p2] e pos) (rdS X.K pn m fun ρ => do let r ← f ρ; let q ← g ρ; stoR ρ i q r) := by
  refine ⟨fun pins s σ H D I hh => ?_⟩
  obtain ⟨B, ρ, out, hf, S, hm, q⟩ := hh
  cases e1 : f ρ with
  | none => simp [e1] at hf
  | some r =>
  cases e2 : g ρ with
  | none => simp [e1, e2] at hf
  | some rk =>
  obtain ⟨fl, d⟩ := r
  obtain ⟨fk, dk⟩ := rk
  simp only [e1, e2, Option.bind_eq_bind, Option.bind_some, stoR] at hf
  cases e3 : owned ρ i with
  | none => simp [e3] at hf
  | some d0 =>
  simp only [e3] at hf
  split at hf
  case isFalse => cases hf
  rename_i hz
  cases e4 : dSto d0 dk d with
  | none => simp [e4] at hf
  | some d1 =>
  simp only [e4, Option.map_some, Option.some.injEq] at hf
  subst hf
  have hro := owned_of e3
  have swz : swappedStores [.Subscript xs k p2] e X.env = pure none := by
    cases e <;> rfl
  cases d0 <;> simp only [dSto, reduceCtorEq] at e4
  · rename_i ds
    cases dk <;> simp only [reduceCtorEq] at e4
    rename_i ik
    cases e5 : ixN ds.length ik with
    | none => simp [e5] at e4
    | some j =>
    simp only [e5, Option.map_some, Option.some.injEq] at e4
    subst e4
    obtain ⟨p0, vs, h1, h2, h3⟩ := S.cellL hro
    have own : Own ρ σ p0 := ⟨i, _, hro, h1⟩
    refine (ps_asg he (pg_sub hx hk set_list (by intro v; cases k <;> first | rfl | (simp [plainIx] at hpx))) (sole_of hc) swz rfl).run pins s σ H D I ?_
    refine ⟨B, ρ, fl, d, e1, S, fun v H' z r => ?_⟩
    refine ⟨_, h1, B, ρ, fk, _, e2, S.ext z, fun kv H2 z2 r2 => ?_⟩
    have S2 := (S.ext z).ext z2
    have t2 := z2.lst (z.lst h2)
    refine ⟨p0, vs, ik, j, rfl, r2.int, t2, by rw [← h3.length]; exact e5, q σ _ ?_⟩
    refine S2.mut hro h1 rfl t2 ?_
    have na : ∀ b o, H2 b = some o → Nsh B ρ σ b → b ≠ p0 := fun b _ _ n z => n.2 (z ▸ own)
    simp only [Sep]
    refine ⟨p0, _, rfl, trivial, upd_same, Rps.mut t2 trivial (fun b o _ n => n.2) (Rps.set j (Rps.ext (z.trans z2) h3) ?_)⟩
    exact Rp.imp (fun b o w n => ⟨n, na b o w n⟩) ((r.ext z2).shb S hz)
  · rename_i ks ds
    split at e4
    case isFalse => cases e4
    rename_i hlen
    cases e5 : keyD dk with
    | none => simp [e5] at e4
    | some qk =>
    simp only [e5, Option.map_some, Option.some.injEq] at e4
    subst e4
    obtain ⟨p0, kvs, h1, h2, hks, h3⟩ := S.cellD hro
    have own : Own ρ σ p0 := ⟨i, _, hro, h1⟩
    have hu : X.A.units + 1 < cLine := by have := C.units; omega
    have hq : ∀ {B ρ σ H H2 fa x}, Res X.K B ρ σ H H2 fa dk x → x = kV qk := by
      intro B ρ σ H H2 fa x r
      cases dk <;> simp only [keyD, reduceCtorEq, Option.some.injEq] at e5
      · subst e5; exact r.int
      · subst e5; exact r.str
    refine (ps_dput hu hx hk he (sw_of hc)).run pins s σ H D I ?_
    refine ⟨B, ρ, fl, d, e1, S, fun v H' z r => ?_⟩
    refine ⟨_, h1, B, ρ, fk, _, e2, S.ext z, fun kv H2 z2 r2 => ?_⟩
    have S2 := (S.ext z).ext z2
    have t2 := z2.dK (z.dK h2)
    have na : ∀ b o, H2 b = some o → Nsh B ρ σ b → b ≠ p0 := fun b _ _ n z => n.2 (z ▸ own)
    have rr := Rp.imp (N' := fun b => Nsh B ρ σ b ∧ b ≠ p0) (fun b o w n => ⟨n, na b o w n⟩) ((r.ext z2).shb S hz)
    have pr := putD_rps (q := qk) rr (Rps.ext (z.trans z2) h3)
    rw [hks] at pr
    refine ⟨p0, upd H2 p0 (.dK (putK kvs qk v)), rfl, by rw [hq r2]; exact DPut.k t2 (sz_lt (by rw [← hks] at hlen; simpa using hlen)), q σ _ ?_⟩
    refine S2.mut hro h1 rfl t2 ?_
    simp only [Sep]
    exact ⟨p0, _, rfl, trivial, upd_same, pr.1, Rps.mut t2 trivial (fun b o _ n => n.2) pr.2⟩
theorem ss_drop (he : PE X e (rd X.K f)) (hc : notComp e = true) : PS X (.Expr e pos) (rdS X.K pn m fun ρ => do let _ ← f ρ; some (.nx ρ)) := by
  refine ps_le (ps_expr he (sw_of hc)) fun D σ H hh => ?_
  obtain ⟨B, ρ, out, hf, S, hm, q⟩ := hh
  cases e1 : f ρ with
  | none => simp [e1] at hf
  | some r =>
  obtain ⟨fl, d⟩ := r
  simp only [e1, Option.bind_eq_bind, Option.bind_some, Option.some.injEq] at hf
  subst hf
  exact ⟨B, ρ, fl, d, e1, S, fun v H' z r => q σ H' (S.ext z)⟩
theorem ss_ret (he : PE X e (rd X.K f)) : PS X (.Return (some e) pos) (rdS X.K pn m fun ρ => do let r ← f ρ; retR m r) := by
  refine ps_le (ps_ret he) fun D σ H hh => ?_
  obtain ⟨B, ρ, out, hf, S, hm, q⟩ := hh
  cases e1 : f ρ with
  | none => simp [e1] at hf
  | some r =>
  obtain ⟨fl, d⟩ := r
  simp only [e1, Option.bind_eq_bind, Option.bind_some, retR] at hf
  split at hf
  case isFalse => cases hf
  rename_i hr
  cases hf
  exact ⟨B, ρ, fl, d, e1, S, fun v H' z r => q v H' (ret_ok S z hm.m hr r)⟩
theorem ss_retN : PS X (.Return none pos) (rdS X.K pn m fun _ => some (.rt .non)) := by
  refine ps_le ps_retN fun D σ H hh => ?_
  obtain ⟨B, ρ, out, hf, S, hm, q⟩ := hh
  cases hf
  exact q .non H ⟨S.keep, by simp only [Sep, Rp]⟩
theorem ss_nil : PSs X [] (rdS X.K pn m fun ρ => some (.nx ρ)) := by
  refine pss_le pss_nil fun D σ H hh => ?_
  obtain ⟨B, ρ, out, hf, S, hm, q⟩ := hh
  cases hf
  exact q σ H S
def seqO (f : Rho → Option Out) (g : Rho → Option Out) : Rho → Option Out := fun ρ => do
  let o ← f ρ
  match o with
  | .nx ρ2 => g ρ2
  | .rt r => some (.rt r)
  | .rp r i => some (.rp r i)
  | .rq r d => some (.rq r d)
theorem ss_cons (h1 : PS X st (rdS X.K pn m fb)) (h2 : PSs X sa (rdS X.K pn m fb2)) : PSs X (st :: sa) (rdS X.K pn m (seqO fb fb2)) := by
  refine pss_le (pss_cons h1 h2) fun D σ H hh => ?_
  obtain ⟨B, ρ, out, hf, S, hm, q⟩ := hh
  unfold seqO at hf
  cases e1 : fb ρ with
  | none => simp [e1] at hf
  | some o =>
  simp only [e1, Option.bind_eq_bind, Option.bind_some] at hf
  refine ⟨B, ρ, o, e1, S, hm, ?_⟩
  cases o with
  | nx ρ2 => exact fun σ' H' S' => ⟨B, ρ2, out, hf, S', hm, q⟩
  | rt r => cases hf; exact q
  | rp r i => cases hf; exact q
  | rq r d => cases hf; exact q
theorem ss_frz {i : Nat} (hpn : i ∉ pn) (h : PSs X sa (rdS X.K pn m fb)) : PSs X sa (rdS X.K pn m fun ρ => fb (frzR ρ i)) := by
  refine pss_le h fun D σ H hh => ?_
  obtain ⟨B, ρ, out, hf, S, hm, q⟩ := hh
  exact ⟨B, _, out, hf, S.frz i (hm.ne hpn), hm, q⟩
theorem ss_ite (hc : PT X c (rdT X.K fc)) (h1 : PSs X sa (rdS X.K pn m fb)) (h2 : PSs X sb (rdS X.K pn m fb2)) :
    PS X (.If c sa sb pos) (rdS X.K pn m fun ρ => do let x ← fc ρ; if x then fb ρ else fb2 ρ) := by
  refine ps_le (ps_if hc h1 h2) fun D σ H hh => ?_
  obtain ⟨B, ρ, out, hf, S, hm, q⟩ := hh
  cases e1 : fc ρ with
  | none => simp [e1] at hf
  | some x =>
  simp only [e1, Option.bind_eq_bind, Option.bind_some] at hf
  refine ⟨B, ρ, x, e1, S, fun H' z => ?_⟩
  cases x with
  | true => rw [if_pos rfl] at hf ⊢; exact ⟨B, ρ, out, hf, S.ext z, hm, q⟩
  | false => rw [if_neg Bool.false_ne_true] at hf ⊢; exact ⟨B, ρ, out, hf, S.ext z, hm, q⟩
section
variable {K : PySem.W.Frag} {B : Bs} {ρ : Rho} {σ : L2.St} {H : Hp}
/-- more is to stay -/
theorem StOk.guard (S : StOk K B ρ σ H) : StOk K { B with G := Gd ρ σ false H } ρ σ H :=
  ⟨S.len, (show Ext (Gd ρ σ false H) H from gd_le), S.fresh, S.sh, fun i d h => let ⟨v, h1, h2, h3⟩ := S.ow i d h; ⟨v, h1, h2, by
    have key : ∀ a, v = .ref a → Gd ρ σ false H a = none := fun a e => by
      subst e
      unfold Gd
      rw [if_neg Bool.false_ne_true, if_pos ⟨i, d, h, h1⟩]
    cases d <;> simp [isMut] at h2 <;> simp only [Sep] at h3 ⊢ <;> obtain ⟨p, vs, e, t, r⟩ := h3 <;> exact ⟨p, vs, e, ⟨t.1, t.2.1, key p e⟩, r⟩⟩, S.dis, S.pin, S.tabs, S.clo⟩
theorem StOk.unguard {B' : Bs} (S : StOk K B' ρ σ H) (hs : ∀ a, B'.S a ↔ B.S a) (hn : ∀ a, B'.N0 a ↔ B.N0 a) (hg : Ext B.G B'.G) (hp : B'.P = B.P) : StOk K B ρ σ H := by
  have nsh : ∀ a, Nsh B' ρ σ a → Nsh B ρ σ a := fun a n => ⟨(hs a).mp n.1, n.2⟩
  refine ⟨S.len, hg.trans S.keep, fun a h => ⟨(hs a).mp (S.fresh a h).1, (hn a).mp (S.fresh a h).2⟩, fun i d h => let ⟨v, h1, h2⟩ := S.sh i d h; ⟨v, h1, Rp.imp (fun a _ _ n => nsh a n) h2⟩,
    fun i d h => let ⟨v, h1, h2, h3⟩ := S.ow i d h; ⟨v, h1, h2, Sep.imp (fun a _ _ n => nsh a n) (fun a _ _ t => ⟨(hs a).mp t.1, (hn a).mp t.2.1, ?_⟩) h3⟩, S.dis, (fun i a e => S.pin i a (by rw [hp]; exact e)), S.tabs, fun i v h => let ⟨h1, h2, h3⟩ := S.clo i v h; ⟨h1, h2, Rps.imp (fun a _ _ n => nsh a n) h3⟩⟩
  cases q : B.G a with
  | none => rfl
  | some o => rw [hg.dom a t.2.2] at q; cases q
end
theorem ss_for {fi : Rho → Option (Bool × List D)} {t : Tg} {it : Expr} (hpn : ∀ i ∈ tgS t, i ∉ pn) (C : Ctx true X Γ) (hfn : ∀ x, X.fn x = true) (hp : PassesOwn (model X.prog X.w) X.A X.env X.xe) (hi : PI X tg it (rdI X.K fi)) (hg : chkTg true X.env.scope X.N t tg = true)
    (hb : PSs X sa (rdS X.K pn m fb)) (hset : notSet it = true) :
    PS X (.For tg it sa [] pos) (rdS X.K pn m fun ρ => do let ds ← fi ρ; if ds.1 then none else forGo t fb ds.2 ρ) := by
  have hs : ∀ x, foldedSetIterable it X.env x = pure x := by
    intro v
    cases it <;> first | rfl | (simp [notSet] at hset)
  refine ps_le (ps_for hp C.calm hi (pg_of C.calm C.nd (fun _ => hfn) rfl hg) hb hs) fun D σ H hh => ?_
  obtain ⟨B, ρ, out, hf, S, hm, q⟩ := hh
  cases e1 : fi ρ with
  | none => simp [e1] at hf
  | some x =>
  obtain ⟨bb, ds⟩ := x
  simp only [e1, Option.bind_eq_bind, Option.bind_some] at hf
  cases bb with
  | true => simp at hf
  | false =>
  simp only [Bool.false_eq_true, if_false] at hf
  refine ⟨B, ρ, false, ds, e1, S, fun J H1 z1 src => ?_⟩
  have S1 := (S.ext z1)
  have hGG : Ext B.G (Gd ρ σ false H1) := by
    refine ⟨fun a o h nt => ?_, fun _ => gd_tabs S1, fun a h => ?_⟩
    · unfold Gd
      rw [if_neg Bool.false_ne_true]
      split
      · rename_i ho
        obtain ⟨_, _, _, _, _, hn⟩ := S1.own ho
        rw [hn] at h; cases h
      · exact S1.keep.to a o h nt
    · unfold Gd at h
      rw [if_neg Bool.false_ne_true] at h
      split at h
      · rename_i ho
        exact (S1.own ho).choose_spec.2.2.2.2
      · exact S1.keep.dom a h
  refine for_it (src_walk src) (fun i σ2 H2 => ∃ ρ2, forGo t fb (ds.drop i) ρ2 = some out ∧ StOk X.K { B with G := Gd ρ σ false H1 } ρ2 σ2 H2) ⟨ρ, by simpa using hf, S1.guard⟩
    (fun i σ2 H2 _ ⟨ρ2, _, S2⟩ => S2.keep) ?_ ?_
  · rintro i x σ2 H2 H3 hlt ⟨ρ2, g1, S2⟩ ⟨ex3, d, hd, rx⟩
    have eD : ds.drop i = d :: ds.drop (i + 1) := by
      obtain ⟨h1, h2⟩ := List.getElem?_eq_some_iff.mp hd
      rw [← h2]; exact List.drop_eq_getElem_cons h1
    rw [eD] at g1
    simp only [forGo, Option.bind_eq_bind] at g1
    cases hbt : bindT t d ρ2 with
    | none => simp [hbt] at g1
    | some ρ3 =>
    rw [hbt, Option.bind_some] at g1
    cases hfb : fb ρ3 with
    | none => simp [hfb] at g1
    | some o =>
    rw [hfb, Option.bind_some] at g1
    have S3 := S2.ext ex3
    have rx' : Rp X.K (Nsh { B with G := Gd ρ σ false H1 } ρ2 σ2) H3 d x := by
      refine Rp.imp (fun a o _ n => ⟨n.1.1, fun w => ?_⟩) rx
      obtain ⟨_, _, _, _, _, hn⟩ := S2.own w
      obtain ⟨⟨_, nown⟩, o', ho'⟩ := n
      have : Gd ρ σ false H1 a = some o' := by
        unfold Gd
        rw [if_neg Bool.false_ne_true, if_neg nown]; exact ho'
      have hn' : Gd ρ σ false H1 a = none := hn
      rw [this] at hn'; cases hn'
    obtain ⟨σ4, S4, q4, _⟩ := bind_ok (B := { B with G := Gd ρ σ false H1 }) (fun i hi => hm.ne (hpn i hi)) S3 rx' hbt
    refine q4 _ ?_
    refine ⟨_, ρ3, o, hfb, S4, ⟨hm.m, hm.p⟩, ?_⟩
    cases o with
    | nx ρ5 => exact fun σ5 H5 S5 => ⟨ρ5, g1, S5⟩
    | rt r =>
      cases g1
      exact fun v H5 k => q v H5 ⟨hGG.trans k.keep, k.val⟩
    | rp r i =>
      cases g1
      exact fun σ5 H5 v S5 e => q σ5 H5 v (S5.unguard (fun _ => Iff.rfl) (fun _ => Iff.rfl) hGG rfl) e
    | rq r d =>
      cases g1
      exact fun σ5 H5 v S5 e => q σ5 H5 v (S5.unguard (fun _ => Iff.rfl) (fun _ => Iff.rfl) hGG rfl) e
  · rintro σ2 H2 ⟨ρ2, g1, S2⟩
    rw [List.drop_length] at g1
    simp only [forGo, Option.some.injEq] at g1
    subst g1
    exact q σ2 H2 (S2.unguard (fun _ => Iff.rfl) (fun _ => Iff.rfl) hGG rfl)
theorem ss_whl {n : Nat} (hp : PassesOwn (model X.prog X.w) X.A X.env X.xe) (hc : PT X c (rdT X.K fc)) (hb : PSs X sa (rdS X.K pn m fb)) :
    PS X (.While c sa [] pos) (rdS X.K pn m fun ρ => whlGo fc fb n ρ) := by
  refine ps_le (ps_while hp hc hb) fun D σ H hh => ?_
  obtain ⟨B, ρ, out, hf, S, hm, q⟩ := hh
  refine ⟨fun k σ2 H2 => ∃ ρ2, whlGo fc fb k ρ2 = some out ∧ StOk X.K B ρ2 σ2 H2, ⟨n, ρ, hf, S⟩, ?_⟩
  rintro k σ2 H2 ⟨ρ2, g1, S2⟩
  cases k with
  | zero => simp [whlGo] at g1
  | succ k =>
  simp only [whlGo, Option.bind_eq_bind] at g1
  cases e1 : fc ρ2 with
  | none => simp [e1] at g1
  | some x =>
  rw [e1, Option.bind_some] at g1
  refine ⟨B, ρ2, x, e1, S2, fun H3 z => ?_⟩
  cases x with
  | false =>
    rw [if_neg Bool.false_ne_true] at g1 ⊢
    cases g1
    exact q σ2 H3 (S2.ext z)
  | true =>
    rw [if_pos rfl] at g1 ⊢
    cases e2 : fb ρ2 with
    | none => simp [e2] at g1
    | some o =>
    rw [e2, Option.bind_some] at g1
    refine ⟨fun σ4 H4 => ∃ ρ4, whlGo fc fb k ρ4 = some out ∧ StOk X.K B ρ4 σ4 H4, fun σ4 H4 w => ⟨k, Nat.lt_succ_self k, w⟩, B, ρ2, o, e2, S2.ext z, hm, ?_⟩
    cases o with
    | nx ρ5 => exact fun σ5 H5 S5 => ⟨ρ5, g1, S5⟩
    | rt r => cases g1; exact q
    | rp r i => cases g1; exact q
    | rq r d => cases g1; exact q
theorem ss_rais : PS X st (rdS X.K pn m fun _ => none) := ⟨fun pins s σ H D I hh => by obtain ⟨B, ρ, out, hf, _⟩ := hh; cases hf⟩
theorem ss_retP {i : Nat} (hx : PE X e (tVar i)) : PS X (.Return (some e) pos) (rdS X.K pn m fun ρ => retPR ρ i) := by
  refine ps_le (ps_ret hx) fun D σ H hh => ?_
  obtain ⟨B, ρ, out, hf, S, hm, q⟩ := hh
  dsimp only [retPR] at hf
  cases e1 : owned ρ i with
  | none => simp [e1] at hf
  | some d =>
  simp only [e1, Option.map_some, Option.some.injEq] at hf
  subst hf
  obtain ⟨v, h1, _, _⟩ := S.ow i d (owned_of e1)
  exact ⟨v, h1, q σ H v S h1⟩
theorem sep_self {K : PySem.W.Frag} {N T : Addr → Prop} {H : Hp} {d : D} {a : Addr} (hm : isMut d = true) (h : Sep K N T H d (.ref a)) : Sep K N (fun b => b = a) H d (.ref a) := by
  revert h
  cases d <;> simp [isMut] at hm <;> intro h <;> simp only [Sep] at h ⊢
  · obtain ⟨p, vs, ea, _, t, r⟩ := h; cases ea
    exact ⟨a, vs, rfl, rfl, t, r⟩
  · obtain ⟨p, vs, ea, _, t, k, r⟩ := h; cases ea
    exact ⟨a, vs, rfl, rfl, t, k, r⟩
  · obtain ⟨p, vs, ea, _, t, k, r⟩ := h; cases ea
    exact ⟨a, vs, rfl, rfl, t, k, r⟩
/-- arguments read, the p-th one the slot i -/
def rdP (K : PySem.W.Frag) (p i : Nat) (f : Rho → Option (List (Fl × D))) : TA := fun σ H Q => ∃ B ρ rs, f ρ = some rs ∧ StOk K B ρ σ H ∧ ∀ vs H', Ext H H' → ResL K B ρ σ H H' rs vs → (∀ v, σ[i]? = some (some v) → vs[p]? = some v) → rs[p]? = varS ρ[i]? → Q vs H'
theorem sp_zero {i : Nat} {es : List Expr} {fs : Rho → Option (List (Fl × D))} (hs : notStar e = true) (hx : PE X e (tVar i)) (hr : PA X es (rdA X.K fs)) : PA X (e :: es) (rdP X.K 0 i fun ρ => do let x ← varS ρ[i]?; let xs ← fs ρ; some (x :: xs)) := by
  refine pa_le (pa_cons hx hr (star_of hs)) fun σ H Q hh => ?_
  obtain ⟨B, ρ, rs, hf, S, q⟩ := hh
  cases e1 : varS ρ[i]? with
  | none => simp [e1] at hf
  | some x =>
  cases e2 : fs ρ with
  | none => simp [e1, e2] at hf
  | some xs =>
  simp only [e1, e2, Option.bind_eq_bind, Option.bind_some, Option.some.injEq] at hf
  subst hf
  have hv : ∃ v, σ[i]? = some (some v) ∧ Res X.K B ρ σ H H x.1 x.2 v := by
    unfold varS at e1
    split at e1
    · rename_i d h
      cases e1
      obtain ⟨v, h1, h2⟩ := S.sh i d h
      exact ⟨v, h1, h2⟩
    · rename_i d h
      cases e1
      obtain ⟨v, h1, h2, h3⟩ := S.ow i d h
      refine ⟨v, h1, ?_⟩
      obtain ⟨a, rfl⟩ : ∃ a, v = .ref a := by
        cases d <;> simp [isMut] at h2 <;> simp only [Sep] at h3 <;> obtain ⟨a, _, e, _⟩ := h3 <;> exact ⟨a, e⟩
      show Sep _ _ _ _ _ _
      revert h3
      cases d <;> simp [isMut] at h2 <;> intro h3 <;> simp only [Sep] at h3 ⊢
      · obtain ⟨p, vs, ea, _, t, r⟩ := h3; cases ea
        exact ⟨a, vs, rfl, ⟨i, _, h, h1⟩, t, r⟩
      · obtain ⟨p, vs, ea, _, t, k, r⟩ := h3; cases ea
        exact ⟨a, vs, rfl, ⟨i, _, h, h1⟩, t, k, r⟩
      · obtain ⟨p, vs, ea, _, t, k, r⟩ := h3; cases ea
        exact ⟨a, vs, rfl, ⟨i, _, h, h1⟩, t, k, r⟩
    · cases e1
  obtain ⟨v, h1, rv⟩ := hv
  exact ⟨v, h1, B, ρ, xs, e2, S, fun vs H1 z rl => q (v :: vs) H1 z (.cons (rv.ext z) rl) (fun w hw => by rw [h1] at hw; cases hw; rfl) (by rw [e1]; rfl)⟩
theorem sp_succ {i p : Nat} {es : List Expr} {fs : Rho → Option (List (Fl × D))} (hs : notStar e = true) (ha : PE X e (rd X.K f)) (hr : PA X es (rdP X.K p i fs)) : PA X (e :: es) (rdP X.K (p + 1) i fun ρ => do let x ← f ρ; let xs ← fs ρ; some (x :: xs)) := by
  refine pa_le (pa_cons ha hr (star_of hs)) fun σ H Q hh => ?_
  obtain ⟨B, ρ, rs, hf, S, q⟩ := hh
  cases e1 : f ρ with
  | none => simp [e1] at hf
  | some x =>
  cases e2 : fs ρ with
  | none => simp [e1, e2] at hf
  | some xs =>
  obtain ⟨fa, da⟩ := x
  simp only [e1, e2, Option.bind_eq_bind, Option.bind_some, Option.some.injEq] at hf
  subst hf
  refine ⟨B, ρ, fa, da, e1, S, fun v H1 z r1 => ⟨B, ρ, xs, e2, S.ext z, fun vs H2 z2 rl hp hq => q (v :: vs) H2 (z.trans z2) (.cons (r1.ext z2) (rl.back z)) (fun w hw => ?_) ?_⟩⟩
  · simpa using hp w hw
  · simpa using hq
theorem ss_mc {i kf p : Nat} {q0 : MF} {p1 p2 : Pos} {es : List Expr} {fs : Rho → Option (List (Fl × D))} (C : Ctx true X Γ) (hkf : Γ.mf[kf]? = some q0) (hp : q0.p = p) (hg : Gl X q0.nm) (hd : (q0.nm == ("__debug__" : Str)) = false) (hn : allNS (e :: es) = true)
    (ha : PA X (e :: es) (rdP X.K p i fs)) :
    PS X (.Expr (.Call (.Name q0.nm p1) (e :: es) [] p2) pos) (rdS X.K pn m fun ρ => do let rs ← fs ρ; let q ← Γ.mf[kf]?; mcR ρ i q rs) := by
  subst hp
  obtain ⟨k, fa, fd, ps, hps, G, hr, hmg, hk, hb⟩ := (C.mf kf _ hkf).ex
  simp only [allNS, Bool.and_eq_true] at hn
  refine ps_le (ps_expr (pe_call (E := fun _ _ _ => False) G hr hg hmg hk hb .nil pass0 ha hd (star_of hn.1) (pl_of hn.2)) rfl) fun D σ H hh => ?_
  obtain ⟨B, ρ, out, hf, S, hm, q⟩ := hh
  cases e1 : fs ρ with
  | none => simp [e1] at hf
  | some rs =>
  simp only [e1, hkf, Option.bind_eq_bind, Option.bind_some, mcR] at hf
  cases e2 : owned ρ i with
  | none => simp [e2] at hf
  | some d0 =>
  simp only [e2] at hf
  split at hf
  case isFalse => cases hf
  rename_i hz
  simp only [Bool.and_eq_true, decide_eq_true_eq] at hz
  obtain ⟨⟨hz1, hz2⟩, hz3⟩ := hz
  cases e3 : q0.F (rs.map (·.2)) with
  | none => simp [e3] at hf
  | some d' =>
  simp only [e3, Option.map_some, Option.some.injEq] at hf
  subst hf
  have hro := owned_of e2
  obtain ⟨v0, h1, h2, h3⟩ := S.ow i d0 hro
  obtain ⟨a, rfl⟩ : ∃ a, v0 = .ref a := by
    cases d0 <;> simp [isMut] at h2 <;> simp only [Sep] at h3 <;> obtain ⟨a, _, e, _⟩ := h3 <;> exact ⟨a, e⟩
  have own : Own ρ σ a := ⟨i, d0, hro, h1⟩
  obtain ⟨o0, ho0, _⟩ := S.own own
  refine ⟨B, ρ, rs, e1, S, fun vs H1 z rl hpv hpq => ?_⟩
  have S1 := S.ext z
  have hva := hpv _ h1
  have hvar : varS ρ[i]? = some (.bo, d0) := by rw [hro]; rfl
  rw [hvar] at hpq
  have lv : vs.length = q0.n := by rw [← rl.length]; exact hz2
  obtain ⟨w1, k1, k2, k3⟩ := S1.ow i d0 hro
  rw [h1] at k1; cases k1
  have na : ∀ b o, H1 b = some o → Nsh B ρ σ b → b ≠ a := fun b _ _ n z => n.2 (z ▸ own)
  refine ⟨rs.map (·.2), d', d0, a, e3, by rw [List.length_map]; exact hz2, by rw [List.append_nil]; exact lv, by rw [List.append_nil]; exact hva, by rw [List.getElem?_map, hpq]; rfl, k2, sep_self k2 (Sep.imp na (fun _ _ _ t => t) k3), fun j dj vj hj g1 g2 => ?_, S1.tabs, fun v H2 kp hm' sp _ => ?_⟩
  · rw [List.append_nil] at g2
    rw [List.getElem?_map] at g1
    cases g3 : rs[j]? with
    | none => rw [g3] at g1; cases g1
    | some r =>
    rw [g3] at g1
    cases g1
    have hb' : shb r.1 r.2 = true := by
      have := List.all_eq_true.mp hz1 r (by
        apply List.mem_of_getElem? (i := j)
        rw [List.getElem?_set_ne (fun z => hj z.symm)]; exact g3)
      exact this
    exact Rp.imp na ((resl_get rl g3 g2).shb S hb')
  · obtain ⟨o1, ho1, mo1, _⟩ := S1.own own
    obtain ⟨o2, ho2, mo2, _⟩ := sp.tracked hm'
    have E1 : Ext H1 (upd H2 a o1) := by
      refine ⟨fun b o hb nt => ?_, fun h => fun r hr => tbl_mut ho2 mo2 (kp.tab h r hr), fun b h => kp.dom b (upd_none h)⟩
      by_cases hba : b = a
      · subst hba; rw [ho1] at hb; cases hb; exact upd_same
      · rw [upd_ne hba]; exact kp.to b o hba hb nt
    have E2 : upd (upd H2 a o1) a o2 = H2 := by
      funext b
      by_cases hba : b = a
      · subst hba; rw [upd_same]; exact ho2.symm
      · rw [upd_ne hba, upd_ne hba]
    have R := (S1.ext E1).mut (d1 := d') (o' := o2) hro h1 hm' upd_same (by rw [E2]; exact Sep.imp (fun _ _ _ n => n.elim) (fun _ _ _ _ => trivial) sp)
    rw [E2] at R
    exact q σ H2 R
theorem ss_retQ (he : PE X e (rd X.K f)) : PS X (.Return (some e) pos) (rdS X.K pn m fun ρ => do let r ← f ρ; retQR ρ r) := by
  refine ps_le (ps_ret he) fun D σ H hh => ?_
  obtain ⟨B, ρ, out, hf, S, hm, q⟩ := hh
  cases e1 : f ρ with
  | none => simp [e1] at hf
  | some r =>
  obtain ⟨fl, d⟩ := r
  simp only [e1, Option.bind_eq_bind, Option.bind_some, retQR] at hf
  split at hf
  case isFalse => cases hf
  rename_i hr
  cases hf
  exact ⟨B, ρ, fl, d, e1, S, fun v H' z r => q σ H' v (S.ext z) hr (Rp.any hr r.any)⟩
/-- arguments read, those at the places pis the slots told there -/
def rdPs (K : PySem.W.Frag) (pis : List (Nat × Nat)) (k : Nat) (f : Rho → Option (List (Fl × D))) : TA := fun σ H Q => ∃ B ρ rs, f ρ = some rs ∧ StOk K B ρ σ H ∧ ∀ vs H', Ext H H' → ResL K B ρ σ H H' rs vs →
  (∀ p i, (k + p, i) ∈ pis → p < rs.length → (∀ v, σ[i]? = some (some v) → vs[p]? = some v) ∧ rs[p]? = varS ρ[i]?) → Q vs H'
theorem sps_nil {pis : List (Nat × Nat)} {k : Nat} : PA X [] (rdPs X.K pis k fun _ => some []) := by
  refine pa_le pa_nil fun σ H Q hh => ?_
  obtain ⟨B, ρ, rs, hf, S, q⟩ := hh
  cases hf
  exact q [] H (Ext.refl H) .nil (fun p i _ h => by simp at h)
theorem sps_cons {pis : List (Nat × Nat)} {k : Nat} {es : List Expr} {fs : Rho → Option (List (Fl × D))} (hs : notStar e = true) (ha : PE X e (rd X.K f)) (hn : ∀ i, (k, i) ∉ pis) (hr : PA X es (rdPs X.K pis (k + 1) fs)) : PA X (e :: es) (rdPs X.K pis k fun ρ => do let x ← f ρ; let xs ← fs ρ; some (x :: xs)) := by
  refine pa_le (pa_cons ha hr (star_of hs)) fun σ H Q hh => ?_
  obtain ⟨B, ρ, rs, hf, S, q⟩ := hh
  cases e1 : f ρ with
  | none => simp [e1] at hf
  | some x =>
  cases e2 : fs ρ with
  | none => simp [e1, e2] at hf
  | some xs =>
  obtain ⟨fa, da⟩ := x
  simp only [e1, e2, Option.bind_eq_bind, Option.bind_some, Option.some.injEq] at hf
  subst hf
  refine ⟨B, ρ, fa, da, e1, S, fun v H1 z r1 => ⟨B, ρ, xs, e2, S.ext z, fun vs H2 z2 rl hp => q (v :: vs) H2 (z.trans z2) (.cons (r1.ext z2) (rl.back z)) (fun p i hpi hl => ?_)⟩⟩
  cases p with
  | zero => exact absurd hpi (hn i)
  | succ p =>
    have := hp p i (by rw [show k + 1 + p = k + (p + 1) by omega]; exact hpi) (by simpa using hl)
    exact ⟨fun w hw => by simpa using this.1 w hw, by simpa using this.2⟩
theorem sps_var {pis : List (Nat × Nat)} {k i : Nat} {es : List Expr} {fs : Rho → Option (List (Fl × D))} (hs : notStar e = true) (hx : PE X e (tVar i)) (hu : ∀ j, (k, j) ∈ pis → j = i) (hr : PA X es (rdPs X.K pis (k + 1) fs)) : PA X (e :: es) (rdPs X.K pis k fun ρ => do let x ← varS ρ[i]?; let xs ← fs ρ; some (x :: xs)) := by
  refine pa_le (pa_cons hx hr (star_of hs)) fun σ H Q hh => ?_
  obtain ⟨B, ρ, rs, hf, S, q⟩ := hh
  cases e1 : varS ρ[i]? with
  | none => simp [e1] at hf
  | some x =>
  cases e2 : fs ρ with
  | none => simp [e1, e2] at hf
  | some xs =>
  simp only [e1, e2, Option.bind_eq_bind, Option.bind_some, Option.some.injEq] at hf
  subst hf
  have hv : ∃ v, σ[i]? = some (some v) ∧ Res X.K B ρ σ H H x.1 x.2 v := by
    unfold varS at e1
    split at e1
    · rename_i d h
      cases e1
      obtain ⟨v, h1, h2⟩ := S.sh i d h
      exact ⟨v, h1, h2⟩
    · rename_i d h
      cases e1
      obtain ⟨v, h1, h2, h3⟩ := S.ow i d h
      refine ⟨v, h1, ?_⟩
      obtain ⟨a, rfl⟩ : ∃ a, v = .ref a := by
        cases d <;> simp [isMut] at h2 <;> simp only [Sep] at h3 <;> obtain ⟨a, _, e, _⟩ := h3 <;> exact ⟨a, e⟩
      show Sep _ _ _ _ _ _
      revert h3
      cases d <;> simp [isMut] at h2 <;> intro h3 <;> simp only [Sep] at h3 ⊢
      · obtain ⟨p, vs, ea, _, t, r⟩ := h3; cases ea
        exact ⟨a, vs, rfl, ⟨i, _, h, h1⟩, t, r⟩
      · obtain ⟨p, vs, ea, _, t, k, r⟩ := h3; cases ea
        exact ⟨a, vs, rfl, ⟨i, _, h, h1⟩, t, k, r⟩
      · obtain ⟨p, vs, ea, _, t, k, r⟩ := h3; cases ea
        exact ⟨a, vs, rfl, ⟨i, _, h, h1⟩, t, k, r⟩
    · cases e1
  obtain ⟨v, h1, rv⟩ := hv
  refine ⟨v, h1, B, ρ, xs, e2, S, fun vs H1 z rl hp => q (v :: vs) H1 z (.cons (rv.ext z) rl) (fun p j hpi hl => ?_)⟩
  cases p with
  | zero =>
    obtain rfl := hu j hpi
    exact ⟨fun w hw => by rw [h1] at hw; cases hw; rfl, by rw [e1]; rfl⟩
  | succ p =>
    have := hp p j (by rw [show k + 1 + p = k + (p + 1) by omega]; exact hpi) (by simpa using hl)
    exact ⟨fun w hw => by simpa using this.1 w hw, by simpa using this.2⟩
/-- items that lean on nothing that may change, with another cell rewritten -/
theorem sep_upd {K : PySem.W.Frag} {T : Addr → Prop} {H : Hp} {d : D} {a b : Addr} {o o' : HO} (hm : isMut d = true) (h : Sep K (fun _ => False) T H d (.ref a)) (hb : H b = some o) (mo : MutO o) (ne : a ≠ b) : Sep K (fun _ => False) T (upd H b o') d (.ref a) := by
  revert h
  cases d <;> simp [isMut] at hm <;> intro h <;> simp only [Sep] at h ⊢
  · obtain ⟨p, vs, ea, t, hp, r⟩ := h; cases ea
    exact ⟨a, vs, rfl, t, by rw [upd_ne ne]; exact hp, Rps.mut hb mo (fun _ _ _ n => n.1.elim) r⟩
  · obtain ⟨p, vs, ea, t, hp, k, r⟩ := h; cases ea
    exact ⟨a, vs, rfl, t, by rw [upd_ne ne]; exact hp, k, Rps.mut hb mo (fun _ _ _ n => n.1.elim) r⟩
  · obtain ⟨p, vs, ea, t, hp, k, r⟩ := h; cases ea
    exact ⟨a, vs, rfl, t, by rw [upd_ne ne]; exact hp, k, Rps.mut hb mo (fun _ _ _ n => n.1.elim) r⟩
theorem sepL_upd {K : PySem.W.Frag} {H : Hp} {b : Addr} {o o' : HO} (hb : H b = some o) (mo : MutO o) : ∀ {ds : List D} {as : List Addr}, b ∉ as → SepL K (fun _ => False) H ds as → SepL K (fun _ => False) (upd H b o') ds as
  | [], [], _, _ => trivial
  | d :: ds, a :: as, hn, h => by
    simp only [SepL] at h ⊢
    exact ⟨⟨h.1.1, sep_upd h.1.1 h.1.2 hb mo (fun z => hn (by simp [z]))⟩, sepL_upd hb mo (fun z => hn (by simp [z])) h.2⟩
  | [], _ :: _, _, h => h.elim
  | _ :: _, [], _, h => h.elim
def updL (H : Hp) : List Addr → List HO → Hp
  | a :: as, o :: os => updL (upd H a o) as os
  | _, _ => H
theorem setOws_ne {ρ : Rho} : ∀ {is : List Nat} {ds : List D} {i : Nat}, i ∉ is → (setOws ρ is ds)[i]? = ρ[i]?
  | [], _, _, _ => rfl
  | _ :: _, [], _, _ => rfl
  | j :: is, d :: ds, i, h => by
    unfold setOws setS
    rw [List.getElem?_set_ne (fun z => h (by simp [z]))]
    exact setOws_ne (fun z => h (by simp [z]))
/-- owned cells are rewritten -/
theorem StOk.muts {K : PySem.W.Frag} {B : Bs} {ρ : Rho} {σ : L2.St} : ∀ {is : List Nat} {as : List Addr} {ds : List D} {os : List HO} {H2 : Hp}, is.Nodup → as.Nodup → is.length = as.length → os.length = as.length →
    (∀ o ∈ os, MutO o) → (∀ (j : Nat) i a, is[j]? = some i → as[j]? = some a → (∃ d, ρ[i]? = some (some (.ow d))) ∧ σ[i]? = some (some (.ref a))) → SepL K (fun _ => False) H2 ds as → StOk K B ρ σ (updL H2 as os) → StOk K B (setOws ρ is ds) σ H2
  | [], [], ds, os, H2, _, _, _, _, _, _, hs, S => by
    cases ds with
    | nil => exact S
    | cons d ds => exact hs.elim
  | i :: is, a :: as, ds, os, H2, ni, na, hl, ho, hm, ha, hs, S => by
    cases ds with
    | nil => exact hs.elim
    | cons d ds =>
    cases os with
    | nil => simp at ho
    | cons o os =>
    simp only [SepL] at hs
    obtain ⟨⟨hmd, hsd⟩, hs2⟩ := hs
    obtain ⟨o2, h2, m2, _⟩ := hsd.tracked hmd
    have na1 : a ∉ as := (List.nodup_cons.mp na).1
    have ni1 : i ∉ is := (List.nodup_cons.mp ni).1
    have S' : StOk K B ρ σ (updL (upd H2 a o) as os) := S
    have S1 := StOk.muts (List.nodup_cons.mp ni).2 (List.nodup_cons.mp na).2 (by simpa using hl) (by simpa using ho) (fun x hx => hm x (by simp [hx])) (fun j i' a' h1 h2 => ha (j + 1) i' a' (by simpa using h1) (by simpa using h2)) (sepL_upd h2 m2 na1 hs2) S'
    obtain ⟨⟨d0, hd0⟩, hσ⟩ := ha 0 i a rfl rfl
    have e2 : upd (upd H2 a o) a o2 = H2 := by
      funext b
      by_cases hb : b = a
      · subst hb; rw [upd_same]; exact h2.symm
      · rw [upd_ne hb, upd_ne hb]
    have R := S1.mut (d1 := d) (o' := o2) (by rw [setOws_ne ni1]; exact hd0) hσ hmd upd_same (by rw [e2]; exact Sep.imp (fun _ _ _ n => n.elim) (fun _ _ _ _ => trivial) hsd)
    rw [e2] at R
    exact R
  | [], _ :: _, _, _, _, _, _, hl, _, _, _, _, _ => by simp at hl
  | _ :: _, [], _, _, _, _, _, hl, _, _, _, _, _ => by simp at hl
end
end DD
set_option Elab.async false
set_option linter.all false
set_option maxRecDepth 100000
set_option maxHeartbeats 4000000
namespace DD
open PySem L2 PyProof.Rows RZ
variable [Tb : Tbl]
def varB (sc : Scope) (N : List Str) (i : Nat) (x : Str) : Bool := nameAt N i x && visB sc x && !(x == ("__debug__" : Str)) && !(x == ("__classdict__" : Str))
def dstB (sc : Scope) (N : List Str) (i : Nat) (x : Str) : Bool := nameAt N i x && dstK true sc x
def noLcd : CE → Expr → Bool
  | .lcd _ _ _ _ _, _ => false
  | .op _ _, v => notComp v
  | _, _ => true
def chkLcS (sc : Scope) (N : List Str) (x : Str) (py : Pos) (v : Expr) : Bool :=
  !locB sc x || match v with
  | .ListComp _ _ scope pos => (py.line == pos.line) && !(scope.names.any fun (n, k) => n == x && (k == .local || k == .cell))
  | _ => notComp v
/-- the slot i, told by its name -/
def chkV (sc : Scope) (N : List Str) (i : Nat) (c : CE) (e : Expr) : Bool :=
  match c with
  | .var j => match e with
    | .Name x _ => decide (j = i) && varB sc N i x
    | _ => false
  | _ => false
theorem chkV_of {sc : Scope} {N : List Str} {i : Nat} {c : CE} {e : Expr} (h : chkV sc N i c e = true) : ∃ x p, c = .var i ∧ e = .Name x p ∧ varB sc N i x = true := by
  unfold chkV at h
  split at h
  · split at h
    · simp only [Bool.and_eq_true, decide_eq_true_eq] at h
      obtain ⟨rfl, h⟩ := h
      exact ⟨_, _, rfl, rfl, h⟩
    · cases h
  · cases h
/-- the arguments of a call that changes the p-th one, the slot i -/
def chkP (Γ : Gam) (sc : Scope) (N : List Str) : Nat → Nat → CAs → List Expr → Bool
  | 0, i, .cons c cs, e :: es => chkV sc N i c e && chks true Γ sc N cs es
  | p + 1, i, .cons c cs, e :: es => notStar e && chk true Γ sc N c e && chkP Γ sc N p i cs es
  | _, _, .nil, _ => false
  | _, _, .cons _ _, [] => false
/-- the slot of a place -/
def slotOf : List (Nat × Nat) → Nat → Option Nat
  | [], _ => none
  | (p, i) :: pis, k => if p = k then some i else slotOf pis k
/-- the arguments of a call that changes those at the places pis -/
def chkPs (Γ : Gam) (sc : Scope) (N : List Str) (pis : List (Nat × Nat)) (k : Nat) (as : CAs) (es : List Expr) : Bool := match as with
  | .nil => es.isEmpty
  | .cons c cs => match es with
    | [] => false
    | e :: es => (match slotOf pis k with
      | some i => chkV sc N i c e
      | none => notStar e && chk true Γ sc N c e) && chkPs Γ sc N pis (k + 1) cs es
mutual
/-- the pinned slot is given no other value -/
def pinS (pn : List Nat) : CS → Bool
  | .set i _ => decide (i ∉ pn)
  | .unp is _ => is.all fun i => decide (i ∉ pn)
  | .mv i _ => decide (i ∉ pn)
  | .pop t _ => decide (t ∉ pn)
  | .ite _ a b => pinSs pn a && pinSs pn b
  | .fors t _ b => ((tgS t).all fun i => decide (i ∉ pn)) && pinSs pn b
  | .whl _ _ b => pinSs pn b
  | .app _ _ => true | .ext _ _ => true | .clr _ => true | .sto _ _ _ => true | .drop _ => true | .ret _ => true | .retN => true | .retP _ => true | .mc _ _ _ => true | .rais _ => true
  | .op _ _ ws _ => ws.all fun i => decide (i ∉ pn)
  | .mcs t _ _ _ => decide (t ∉ pn)
  | .retQ _ => true
def pinSs (pn : List Nat) : CSs → Bool
  | .nil => true
  | .cons s ss => pinS pn s && pinSs pn ss
  | .frz i ss => decide (i ∉ pn) && pinSs pn ss
end
mutual
theorem pinS_none : ∀ c : CS, pinS [] c = true
  | .set i _ => by simp [pinS]
  | .unp is _ => by simp [pinS]
  | .mv i _ => by simp [pinS]
  | .pop t _ => by simp [pinS]
  | .ite _ a b => by simp [pinS, pinSs_none a, pinSs_none b]
  | .fors t _ b => by simp [pinS, pinSs_none b]
  | .whl _ _ b => by simp [pinS, pinSs_none b]
  | .app _ _ => rfl | .ext _ _ => rfl | .clr _ => rfl | .sto _ _ _ => rfl | .drop _ => rfl | .ret _ => rfl | .retN => rfl | .retP _ => rfl | .mc _ _ _ => rfl | .rais _ => rfl
  | .op _ _ _ _ => by simp [pinS] | .mcs _ _ _ _ => by simp [pinS] | .retQ _ => rfl
theorem pinSs_none : ∀ c : CSs, pinSs [] c = true
  | .nil => rfl
  | .cons s ss => by simp [pinSs, pinS_none s, pinSs_none ss]
  | .frz i ss => by simp [pinSs, pinSs_none ss]
end
mutual
def chkS (Γ : Gam) (sc : Scope) (N : List Str) : CS → Stmt → Bool
  | .set i e, s => match s with | .Assign [.Name x p] v _ => dstB sc N i x && chkLcS sc N x p v && noLcd e v && chk true Γ sc N e v | _ => false
  | .unp is e, s => match s with | .Assign [tg] v _ => chkTg true sc N (.tp is) tg && notComp v && notTup v && chk true Γ sc N e v | _ => false
  | .mv i j, s => match s with | .Assign [.Name x _] (.Name y _) _ => dstB sc N i x && varB sc N j y | _ => false
  | .app i e, s => match s with | .Expr (.Call (.Attribute (.Name x _) nm ap) [a] [] cp) _ => decide (nm = "append") && varB sc N i x && notStar a && (ap.endLine == cp.line) && chk true Γ sc N e a | _ => false
  | .ext i e, s => match s with | .Expr (.Call (.Attribute (.Name x _) nm ap) [a] [] cp) _ => decide (nm = "extend") && varB sc N i x && notStar a && (ap.endLine == cp.line) && chk true Γ sc N e a | _ => false
  | .pop t i, s => match s with | .Assign [.Name x _] (.Call (.Attribute (.Name y _) nm ap) [] [] cp) _ => decide (nm = "pop") && dstB sc N t x && varB sc N i y && (ap.endLine == cp.line) | _ => false
  | .clr i, s => match s with | .Expr (.Call (.Attribute (.Name x _) nm ap) [] [] cp) _ => decide (nm = "clear") && varB sc N i x && (ap.endLine == cp.line) | _ => false
  | .sto i k e, s => match s with | .Assign [.Subscript (.Name x _) kx _] v _ => varB sc N i x && plainIx kx && notComp v && chk true Γ sc N k kx && chk true Γ sc N e v | _ => false
  | .drop e, s => match s with | .Expr v _ => notComp v && chk true Γ sc N e v | _ => false
  | .ite c a b, s => match s with | .If x sa sb _ => chk true Γ sc N c x && chkSs Γ sc N a sa && chkSs Γ sc N b sb | _ => false
  | .fors t it b, s => match s with | .For tg iter sb [] _ => chkTg true sc N t tg && chki true Γ sc N it tg iter && notSet iter && chkSs Γ sc N b sb | _ => false
  | .whl _ c b, s => match s with | .While x sb [] _ => chk true Γ sc N c x && chkSs Γ sc N b sb | _ => false
  | .ret e, s => match s with | .Return (some v) _ => chk true Γ sc N e v | _ => false
  | .retN, s => match s with | .Return none _ => true | _ => false
  | .retP i, s => match s with | .Return (some (.Name x _)) _ => varB sc N i x | _ => false
  | .mc i f as, s => match s with | .Expr (.Call (.Name x _) es [] _) _ => (match Γ.mf[f]? with | some q => decide (q.nm = x) && chkP Γ sc N q.p i as es | none => false) && gloB sc x | _ => false
  | .op k is ws as, s => match Γ.ex.ops.st[k]? with
    | some q => (match q.mt sc N is ws s with | some es => chks true Γ sc N as es | none => false)
    | none => false
  | .mcs t is f as, s => match s with | .Assign [.Name y _] (.Call (.Name x _) es [] _) _ => (match Γ.ex.ops.mf[f]? with | some q => decide (q.nm = x) && q.me.C.isNone && decide (is.length = q.ps.length) && decide q.ps.Nodup && chkPs Γ sc N (q.ps.zip is) 0 as es && !es.isEmpty | none => false) && gloB sc x && dstB sc N t y | _ => false
  | .retQ e, s => match s with | .Return (some v) _ => chk true Γ sc N e v | _ => false
  | .rais x, s => match s with | .Raise (some (.Call (.Name y _) [.Constant (.str _) _ _] [] _)) none _ => decide (y = x) && gloB sc y | _ => false
def chkSs (Γ : Gam) (sc : Scope) (N : List Str) : CSs → List Stmt → Bool
  | .nil, ss => ss.isEmpty
  | .cons c cs, ss => match ss with | s :: rest => chkS Γ sc N c s && chkSs Γ sc N cs rest | [] => false
  | .frz _ cs, ss => chkSs Γ sc N cs ss
end
section
variable {Γ : Gam} {m : Bool} {pn : List Nat}
theorem ex_ite {c a b} : ex Γ m (.ite c a b) = fun ρ => (do let x ← evT Γ c ρ; if x then exs Γ m a ρ else exs Γ m b ρ) := by funext ρ; simp only [ex, evT]
theorem ex_for {t it b} : ex Γ m (.fors t it b) = fun ρ => (do let ds ← evi Γ it ρ; if ds.1 then none else forGo t (exs Γ m b) ds.2 ρ) := by funext ρ; simp only [ex]
theorem ex_whl {n c b} : ex Γ m (.whl n c b) = fun ρ => whlGo (evT Γ c) (exs Γ m b) n ρ := by funext ρ; simp only [ex] <;> rfl
theorem exs_cons {s ss} : exs Γ m (.cons s ss) = seqO (ex Γ m s) (exs Γ m ss) := by funext ρ; simp only [exs, seqO] <;> rfl
theorem exs_frz {i ss} : exs Γ m (.frz i ss) = fun ρ => exs Γ m ss (frzR ρ i) := by funext ρ; simp only [exs]
theorem exs_nil : exs Γ m .nil = fun ρ => some (.nx ρ) := by funext ρ; simp only [exs]
theorem pv_of {X : Cx} {i : Nat} {x : Str} {p : Pos} (h : varB X.env.scope X.N i x = true) : PE X (.Name x p) (tVar i) := by
  simp only [varB, Bool.and_eq_true, Bool.not_eq_true'] at h
  exact pe_var (nameAt_of h.1.1.1) (visB_of h.1.1.2) h.1.2 h.2
theorem ss_setLc {X : Cx} {i : Nat} (hpn : i ∉ pn) {x : Str} {p pos spos : Pos} {own : List (Str × Nat)} {t : Tg} {it : CI} {c e : CE} {elt : Expr} {gs : List Comprehension} {scope : Scope} (C : Ctx true X Γ) (hk : X.env.scope.kind = .function) (hi : X.N[i]? = some x) (hx : X.env.scope.names.lookup x = some .local)
    (hl : (p.line == pos.line) = true) (ha : (scope.names.any fun (n, k) => n == x && (k == .local || k == .cell)) = false)
    (h : chk true Γ X.env.scope X.N (.lc own t it c e) (.ListComp elt gs scope pos) = true) :
    PS X (.Assign [.Name x p] (.ListComp elt gs scope pos) spos) (rdS X.K pn m fun ρ => do let r ← ev Γ (.lc own t it c e) ρ; (assignR ρ i r).map .nx) := by
  simp only [chk] at h
  split at h
  case h_2 => cases h
  rename_i elt' tg iter ifs aa scope' pos' heq
  cases heq
  simp only [Bool.and_eq_true, beq_iff_eq] at h
  obtain ⟨⟨⟨⟨⟨⟨⟨rfl, h2⟩, h3⟩, h4⟩, h5⟩, h6⟩, h7⟩, h8⟩ := h
  have hs : ∀ v, foldedSetIterable iter X.env v = pure v := by
    intro v
    cases iter <;> first | rfl | (simp [notSet] at h6)
  have hg : ∀ (s : Shared) (H : Hp) (Cc : Addr) (cl : List (Str × Addr)) (fp : List Addr), PG (X.blk s H scope (compEnvC scope cl Cc X.env) fp) tg (tgR X.K t) := fun s H Cc cl fp => pg_of (b := false) C.calm C.nd (fun z => Bool.noConfusion z) rfl h4
  have ht : ∀ (s : Shared) (H : Hp) (Cc : Addr) (cl : List (Str × Addr)) (fp : List Addr), PTs (X.blk s H scope (compEnvC scope cl Cc X.env) fp) ifs (rdT X.K fun ρ1 => toB (ev Γ c ρ1)) := by
    intro s H Cc cl fp
    revert h7
    cases ifs with
    | nil =>
      intro h7
      cases c <;> simp only [chkYes, Bool.false_eq_true] at h7
      rename_i b
      cases b <;> simp only [Bool.false_eq_true] at h7
      exact s_yes
    | cons q rest =>
      cases rest with
      | nil =>
        intro h7
        exact pts_one (se c false _ C.blk q h7).2
      | cons q2 r2 => intro h7; simp at h7
  have hee : ∀ (s : Shared) (H : Hp) (Cc : Addr) (cl : List (Str × Addr)) (fp : List Addr), PE (X.blk s H scope (compEnvC scope cl Cc X.env) fp) elt (rd X.K fun ρ1 => ev Γ e ρ1) := fun s H Cc cl fp => (se e false _ C.blk elt h8).1
  have base := ps_setLc (X := X) (i := i) (y := x) (py := p) (spos := spos) (pos := pos) (elt := elt) (own := own) (ifs := ifs)
    C.calm C.nd hi hx (sw_true hk hx hl ha) (si it true X C tg iter h5) (blkOk_by h2) hg ht hee hs
  refine ps_le base fun D σ H hh => ?_
  rw [ev_lc] at hh
  exact set_le hpn (fun σ H Q z => lc_le (X := X) h3 z) hh
theorem chkP_ns {sc : Scope} {N : List Str} : ∀ {p i : Nat} {as : CAs} {es : List Expr}, chkP Γ sc N p i as es = true → allNS es = true
  | 0, i, .cons c cs, e :: es, h => by
    simp only [chkP, Bool.and_eq_true] at h
    obtain ⟨x, p, _, rfl, _⟩ := chkV_of h.1
    simp only [allNS, Bool.and_eq_true]
    exact ⟨rfl, chks_ns h.2⟩
  | p + 1, i, .cons c cs, e :: es, h => by
    simp only [chkP, Bool.and_eq_true] at h
    simp only [allNS, Bool.and_eq_true]
    exact ⟨h.1.1, chkP_ns h.2⟩
  | 0, _, .nil, _, h => by simp [chkP] at h
  | 0, _, .cons _ _, [], h => by simp [chkP] at h
  | _ + 1, _, .nil, _, h => by simp [chkP] at h
  | _ + 1, _, .cons _ _, [], h => by simp [chkP] at h
theorem chkP_cons {sc : Scope} {N : List Str} {p i : Nat} {as : CAs} {es : List Expr} (h : chkP Γ sc N p i as es = true) : ∃ e es', es = e :: es' := by
  cases es with
  | nil => cases as <;> cases p <;> simp [chkP] at h
  | cons e es => exact ⟨e, es, rfl⟩
theorem sap : ∀ (p i : Nat) (as : CAs) (X : Cx), Ctx true X Γ → ∀ (es : List Expr), chkP Γ X.env.scope X.N p i as es = true → PA X es (rdP X.K p i (evs Γ as))
  | 0, i, .cons c cs, X, C, e :: es, h => by
    simp only [chkP, Bool.and_eq_true] at h
    obtain ⟨x, p, rfl, rfl, h2⟩ := chkV_of h.1
    have e1 : evs Γ (.cons (.var i) cs) = (fun ρ => do let x ← varS ρ[i]?; let xs ← evs Γ cs ρ; some (x :: xs)) := by funext ρ; simp only [evs, ev]
    rw [e1]
    exact sp_zero rfl (pv_of h2) (sas cs true X C _ h.2)
  | p + 1, i, .cons c cs, X, C, e :: es, h => by
    simp only [chkP, Bool.and_eq_true] at h
    rw [evs_cons]
    exact sp_succ h.1.1 (se _ true X C _ h.1.2).1 (sap _ i _ X C _ h.2)
  | 0, _, .nil, _, _, _, h => by simp [chkP] at h
  | 0, _, .cons _ _, _, _, [], h => by simp [chkP] at h
  | _ + 1, _, .nil, _, _, _, h => by simp [chkP] at h
  | _ + 1, _, .cons _ _, _, _, [], h => by simp [chkP] at h
theorem mcOks_get : ∀ {ps : List Nat} {rs : List (Fl × D)} {k j : Nat} {r : Fl × D}, mcOks ps k rs = true → rs[j]? = some r → (k + j) ∉ ps → shb r.1 r.2 = true
  | ps, x :: rs, k, 0, r, h, e, hn => by
    simp only [mcOks, Bool.and_eq_true, Bool.or_eq_true, List.contains_iff_mem] at h
    simp only [List.getElem?_cons_zero, Option.some.injEq] at e
    subst e
    exact h.1.resolve_left hn
  | ps, x :: rs, k, j + 1, r, h, e, hn => by
    simp only [mcOks, Bool.and_eq_true] at h
    exact mcOks_get (k := k + 1) h.2 (by simpa using e) (by rw [show k + 1 + j = k + (j + 1) by omega]; exact hn)
  | _, [], _, _, _, _, e, _ => by simp at e
theorem sepL_of {K : PySem.W.Frag} {B : Bs} {ρ : Rho} {σ : L2.St} {H : Hp} (S : StOk K B ρ σ H) {As : List Addr} (hA : ∀ a ∈ As, Own ρ σ a) : ∀ {is : List Nat}, (∀ i ∈ is, (owned ρ i).isSome = true) → ∃ (as : List Addr) (ds : List D), is.length = as.length ∧ is.length = ds.length ∧
    (∀ (j : Nat) i, is[j]? = some i → ∃ a d, as[j]? = some a ∧ ds[j]? = some d ∧ ρ[i]? = some (some (.ow d)) ∧ σ[i]? = some (some (.ref a))) ∧ ((∀ a ∈ as, a ∈ As) → SepL K (fun b => b ∉ As) H ds as)
  | [], _ => ⟨[], [], rfl, rfl, fun j i h => by simp at h, fun _ => trivial⟩
  | i :: is, h => by
    obtain ⟨as, ds, l1, l2, h3, h4⟩ := sepL_of S hA (is := is) fun x hx => h x (by simp [hx])
    have hi := h i (by simp)
    cases e : owned ρ i with
    | none => rw [e] at hi; cases hi
    | some d =>
    have hro := owned_of e
    obtain ⟨v0, g1, g2, g3⟩ := S.ow i d hro
    obtain ⟨a, rfl⟩ : ∃ a, v0 = .ref a := by
      cases d <;> simp [isMut] at g2 <;> simp only [Sep] at g3 <;> obtain ⟨a, _, e, _⟩ := g3 <;> exact ⟨a, e⟩
    refine ⟨a :: as, d :: ds, by simp [l1], by simp [l2], fun j i' hj => ?_, fun ha => ⟨⟨g2, ?_⟩, h4 fun x hx => ha x (by simp [hx])⟩⟩
    · cases j with
      | zero =>
        simp only [List.getElem?_cons_zero, Option.some.injEq] at hj
        subst hj
        exact ⟨a, d, rfl, rfl, hro, g1⟩
      | succ j => simpa using h3 j i' (by simpa using hj)
    · exact sep_self g2 (Sep.imp (fun b _ _ n z => n.2 (hA b z)) (fun _ _ _ t => t) g3)
theorem ss_mcs {X : Cx} {t kf : Nat} {is : List Nat} {q0 : MF2} {y : Str} {p1 p2 p3 pos : Pos} {e : Expr} {es : List Expr} {fs : Rho → Option (List (Fl × D))} (hmc : q0.me.C = none) (hpn : t ∉ pn) (C : Ctx true X Γ) (ht : X.N[t]? = some y) (hy : Loc X.env.scope y) (hfn : X.fn y = true) (hkf : Γ.ex.ops.mf[kf]? = some q0) (hlen : is.length = q0.ps.length)
    (hg : Gl X q0.nm) (hd : (q0.nm == ("__debug__" : Str)) = false) (hn : allNS (e :: es) = true) (ha : PA X (e :: es) (rdPs X.K (q0.ps.zip is) 0 fs)) :
    PS X (.Assign [.Name y p3] (.Call (.Name q0.nm p1) (e :: es) [] p2) pos) (rdS X.K pn m fun ρ => do let rs ← fs ρ; let q ← Γ.ex.ops.mf[kf]?; mcsR ρ t is q rs) := by
  obtain ⟨k, fa, fd, ps, hps, G, hr, hme, hb⟩ := (C.m2 kf _ hkf).ex
  obtain ⟨hmg, hk⟩ := meAt_none hmc hme
  simp only [allNS, Bool.and_eq_true] at hn
  refine ps_le (ps_set C.nd ht hy (pe_call (E := fun _ _ _ => False) G hr hg hmg hk hb .nil pass0 ha hd (star_of hn.1) (pl_of hn.2)) (sw_of rfl) (.inl hfn)) fun D σ H hh => ?_
  obtain ⟨B, ρ, out, hf, S, hm, q⟩ := hh
  cases e1 : fs ρ with
  | none => simp [e1] at hf
  | some rs =>
  simp only [e1, hkf, Option.bind_eq_bind, Option.bind_some, mcsR] at hf
  split at hf
  case isFalse => cases hf
  rename_i hz
  simp only [Bool.and_eq_true, decide_eq_true_eq, Bool.not_eq_true', List.all_eq_true] at hz
  obtain ⟨⟨⟨⟨⟨⟨z1, z2⟩, z3⟩, z4⟩, z5⟩, z6⟩, z7⟩ := hz
  cases e3 : q0.F (rs.map (·.2)) with
  | none => simp [e3] at hf
  | some dr =>
  obtain ⟨ds', r⟩ := dr
  rw [e3, Option.bind_some] at hf
  split at hf
  case isFalse => cases hf
  rename_i hz2
  simp only [Bool.and_eq_true, decide_eq_true_eq] at hz2
  obtain ⟨ir, l3⟩ := hz2
  cases hf
  obtain ⟨as, dps, l1, l2, hat, _⟩ := sepL_of S (As := []) (fun a z => by simp at z) z1
  have nas : as.Nodup := by
    refine List.pairwise_iff_getElem.mpr fun j k hj hk hjk e0 => ?_
    have hj1 : j < is.length := by omega
    have hk1 : k < is.length := by omega
    have e : as[j]? = as[k]? := by rw [List.getElem?_eq_getElem hj, List.getElem?_eq_getElem hk, e0]
    obtain ⟨a, d, g1, g2, g3, g4⟩ := hat j is[j] (List.getElem?_eq_getElem hj1)
    obtain ⟨a', d', g1', g2', g3', g4'⟩ := hat k is[k] (List.getElem?_eq_getElem hk1)
    rw [g1, g1'] at e
    cases e
    have hij := S.dis _ _ d d' a g3 g3' g4 g4'
    exact (List.pairwise_iff_getElem.mp z2) j k hj1 hk1 hjk hij
  have own : ∀ a ∈ as, Own ρ σ a := by
    intro a ha
    obtain ⟨j, hj⟩ := List.getElem?_of_mem ha
    have hj1 : j < is.length := by
      have := (List.getElem?_eq_some_iff.mp hj).1
      omega
    obtain ⟨a', d, g1, g2, g3, g4⟩ := hat j is[j] (List.getElem?_eq_getElem hj1)
    rw [hj] at g1; cases g1
    exact ⟨_, d, g3, g4⟩
  refine ⟨B, ρ, rs, e1, S, fun vs H1 z rl hpv => ?_⟩
  have S1 := S.ext z
  have lv : vs.length = q0.n := by rw [← rl.length]; exact z4
  obtain ⟨as2, dps2, l1', l2', hat2, hsep⟩ := sepL_of S1 own z1
  have eas : as2 = as := by
    apply List.ext_getElem?
    intro j
    by_cases hj : j < is.length
    · obtain ⟨a, d, g1, g2, g3, g4⟩ := hat j is[j] (List.getElem?_eq_getElem hj)
      obtain ⟨a', d', g1', g2', g3', g4'⟩ := hat2 j is[j] (List.getElem?_eq_getElem hj)
      rw [g4] at g4'; cases g4'
      rw [g1, g1']
    · rw [List.getElem?_eq_none (by omega), List.getElem?_eq_none (by omega)]
  subst eas
  have edp : dps2 = dps := by
    apply List.ext_getElem?
    intro j
    by_cases hj : j < is.length
    · obtain ⟨a, d, g1, g2, g3, g4⟩ := hat j is[j] (List.getElem?_eq_getElem hj)
      obtain ⟨a', d', g1', g2', g3', g4'⟩ := hat2 j is[j] (List.getElem?_eq_getElem hj)
      rw [g3] at g3'; cases g3'
      rw [g2, g2']
    · rw [List.getElem?_eq_none (by omega), List.getElem?_eq_none (by omega)]
  subst edp
  have atp : ∀ (j p : Nat), q0.ps[j]? = some p → ∃ i a d, is[j]? = some i ∧ as2[j]? = some a ∧ dps2[j]? = some d ∧ vs[p]? = some (.ref a) ∧ rs[p]? = some (.bo, d) := by
    intro j p hj
    have hj1 : j < is.length := by
      have := (List.getElem?_eq_some_iff.mp hj).1
      omega
    obtain ⟨a, d, g1, g2, g3, g4⟩ := hat j is[j] (List.getElem?_eq_getElem hj1)
    have hm : (0 + p, is[j]) ∈ q0.ps.zip is := by
      rw [Nat.zero_add]
      apply List.mem_of_getElem? (i := j)
      rw [List.getElem?_zip_eq_some]
      exact ⟨hj, List.getElem?_eq_getElem hj1⟩
    have hp : p < rs.length := by rw [z4]; exact z6 p (List.mem_of_getElem? hj)
    obtain ⟨k1, k2⟩ := hpv p _ hm hp
    refine ⟨_, a, d, List.getElem?_eq_getElem hj1, g1, g2, k1 _ g4, ?_⟩
    rw [k2, g3]; rfl
  refine ⟨rs.map (·.2), ds', r, as2, dps2, e3, by rw [List.length_map]; exact z4, by rw [List.append_nil]; exact lv, ?_, ?_, nas, hsep fun a ha => ha, fun j dj vj hj g1 g2 => ?_, S1.tabs, fun v H2 kp sp _ rr => ?_⟩
  · rw [List.append_nil]
    apply List.ext_getElem?
    intro j
    rw [List.getElem?_map, List.getElem?_map]
    cases hj : q0.ps[j]? with
    | none =>
      have : as2[j]? = none := by
        rw [List.getElem?_eq_none_iff] at hj ⊢
        omega
      rw [this]; rfl
    | some p =>
      obtain ⟨i, a, d, _, g2, _, g4, _⟩ := atp j p hj
      rw [g2, Option.map_some, Option.map_some, g4]
  · apply List.ext_getElem?
    intro j
    rw [List.getElem?_map, List.getElem?_map]
    cases hj : q0.ps[j]? with
    | none =>
      have : dps2[j]? = none := by
        rw [List.getElem?_eq_none_iff] at hj ⊢
        omega
      rw [this]; rfl
    | some p =>
      obtain ⟨i, a, d, _, _, g3, _, g5⟩ := atp j p hj
      rw [g3, Option.map_some, Option.map_some, List.getElem?_map, g5]; rfl
  · rw [List.append_nil] at g2
    rw [List.getElem?_map] at g1
    cases g3 : rs[j]? with
    | none => rw [g3] at g1; cases g1
    | some r0 =>
    rw [g3] at g1
    cases g1
    have hb' := mcOks_get (k := 0) z5 g3 (by rw [Nat.zero_add]; exact hj)
    exact Rp.imp (fun b _ _ n zz => n.2 (own b zz)) ((resl_get rl g3 g2).shb S hb')
  · -- the old cells put back
    have hos : ∃ os : List HO, os.length = as2.length ∧ (∀ o ∈ os, MutO o) ∧ ∀ (j : Nat) a, as2[j]? = some a → ∃ o, os[j]? = some o ∧ H1 a = some o := by
      have : ∀ L : List Addr, (∀ a ∈ L, Own ρ σ a) → ∃ os : List HO, os.length = L.length ∧ (∀ o ∈ os, MutO o) ∧ ∀ (j : Nat) a, L[j]? = some a → ∃ o, os[j]? = some o ∧ H1 a = some o := by
        intro L
        induction L with
        | nil => exact fun _ => ⟨[], rfl, by simp, fun j a h => by simp at h⟩
        | cons a L ih =>
          intro hL
          obtain ⟨os, o1, o2, o3⟩ := ih fun x hx => hL x (by simp [hx])
          obtain ⟨o, h1, h2, _⟩ := S1.own (hL a (by simp))
          refine ⟨o :: os, by simp [o1], by simpa using ⟨h2, o2⟩, fun j b hj => ?_⟩
          cases j with
          | zero => simp only [List.getElem?_cons_zero, Option.some.injEq] at hj; subst hj; exact ⟨o, rfl, h1⟩
          | succ j => simpa using o3 j b (by simpa using hj)
      exact this as2 own
    obtain ⟨os, lo, mo, hoa⟩ := hos
    have upd_in : ∀ (L : List Addr) (os : List HO) (H : Hp), os.length = L.length → L.Nodup → (∀ b, b ∉ L → updL H L os b = H b) ∧ ∀ (j : Nat) a o, L[j]? = some a → os[j]? = some o → updL H L os a = some o := by
      intro L
      induction L with
      | nil => exact fun os H _ _ => ⟨fun _ _ => rfl, fun j a o h => by simp at h⟩
      | cons a L ih =>
        intro os H hl nd
        cases os with
        | nil => simp at hl
        | cons o os =>
        have nd' := List.nodup_cons.mp nd
        obtain ⟨i1, i2⟩ := ih os (upd H a o) (by simpa using hl) nd'.2
        refine ⟨fun b hb => ?_, fun j b o' h1 h2 => ?_⟩
        · show updL (upd H a o) L os b = _
          rw [i1 b (fun z => hb (by simp [z])), upd_ne (fun z => hb (by simp [z]))]
        · show updL (upd H a o) L os b = _
          cases j with
          | zero =>
            simp only [List.getElem?_cons_zero, Option.some.injEq] at h1 h2
            subst h1; subst h2
            rw [i1 _ nd'.1, upd_same]
          | succ j => exact i2 j b o' (by simpa using h1) (by simpa using h2)
    obtain ⟨u1, u2⟩ := upd_in as2 os H2 lo nas
    have tabs2 : ∀ (L : List Addr) (ds : List DD.D) (os : List HO) (H : Hp), L.Nodup → SepL X.K (fun _ => False) H ds L → LamX.Tabs Tb.T H → LamX.Tabs Tb.T (updL H L os) := by
      intro L
      induction L with
      | nil => exact fun _ _ _ _ _ h => h
      | cons a L ih =>
        intro ds os H nd hs h
        cases os with
        | nil => exact h
        | cons o os =>
        cases ds with
        | nil => exact hs.elim
        | cons d ds =>
        simp only [SepL] at hs
        obtain ⟨o2, h2, m2, _⟩ := hs.1.2.tracked hs.1.1
        have nd' := List.nodup_cons.mp nd
        exact ih ds os (upd H a o) nd'.2 (sepL_upd h2 m2 nd'.1 hs.2) fun r hr => tbl_mut h2 m2 (h r hr)
    have E1 : Ext H1 (updL H2 as2 os) := by
      refine ⟨fun b o hb nt => ?_, fun h => tabs2 as2 ds' os H2 nas sp (kp.tab h), fun b h => ?_⟩
      · by_cases hba : b ∈ as2
        · obtain ⟨j, hj⟩ := List.getElem?_of_mem hba
          obtain ⟨o', g1, g2⟩ := hoa j b hj
          rw [hb] at g2; cases g2
          exact u2 j b o hj g1
        · rw [u1 b hba]; exact kp.to b o hba hb nt
      · by_cases hba : b ∈ as2
        · obtain ⟨j, hj⟩ := List.getElem?_of_mem hba
          obtain ⟨o', g1, g2⟩ := hoa j b hj
          rw [u2 j b o' hj g1] at h; cases h
        · rw [u1 b hba] at h; exact kp.dom b h
    have R := StOk.muts (is := is) (as := as2) (ds := ds') (os := os) (H2 := H2) z2 nas (by omega) (by omega) mo (fun j i a h1 h2 => by
      obtain ⟨a', d, g1, g2, g3, g4⟩ := hat j i h1
      rw [h2] at g1; cases g1
      exact ⟨⟨d, g3⟩, g4⟩) sp (S1.ext E1)
    exact q _ H2 (R.set t (hm.ne hpn) (Rp.imp (fun _ _ _ n => n.elim) rr))
theorem slotOf_uniq : ∀ {ps is : List Nat} {k i j : Nat}, ps.Nodup → slotOf (ps.zip is) k = some i → (k, j) ∈ ps.zip is → j = i
  | [], _, _, _, _, _, h, _ => by simp [slotOf] at h
  | _ :: _, [], _, _, _, _, h, _ => by simp [slotOf] at h
  | p :: ps, x :: is, k, i, j, nd, h, hm => by
    simp only [List.zip_cons_cons, slotOf] at h hm
    have nd' := List.nodup_cons.mp nd
    rcases List.mem_cons.mp hm with z | z
    · cases z
      rw [if_pos rfl] at h
      exact Option.some.inj h
    · have hk : k ∈ ps := (List.of_mem_zip z).1
      rw [if_neg (fun e => nd'.1 (by rw [e]; exact hk))] at h
      exact slotOf_uniq nd'.2 h z
theorem slotOf_none : ∀ {pis : List (Nat × Nat)} {k : Nat}, slotOf pis k = none → ∀ i, (k, i) ∉ pis
  | [], _, _, _ => by simp
  | (p, j) :: pis, k, h, i => by
    simp only [slotOf] at h
    split at h
    · cases h
    · rename_i e
      intro z
      rcases List.mem_cons.mp z with z | z
      · cases z; exact e rfl
      · exact slotOf_none h i z
theorem saps {ps is : List Nat} (nd : ps.Nodup) : ∀ (as : CAs) (k : Nat) (X : Cx), Ctx true X Γ → ∀ (es : List Expr), chkPs Γ X.env.scope X.N (ps.zip is) k as es = true → PA X es (rdPs X.K (ps.zip is) k (evs Γ as)) ∧ allNS es = true
  | .nil, k, X, C, es, h => by
    simp only [chkPs, List.isEmpty_iff] at h
    subst h
    rw [evs_nil]
    exact ⟨sps_nil, rfl⟩
  | .cons c cs, k, X, C, [], h => by simp [chkPs] at h
  | .cons c cs, k, X, C, e :: es, h => by
    simp only [chkPs, Bool.and_eq_true] at h
    obtain ⟨h1, h2⟩ := h
    have ih := saps nd cs (k + 1) X C es h2
    cases hs : slotOf (ps.zip is) k with
    | some i =>
      rw [hs] at h1
      obtain ⟨x, p, rfl, rfl, hv⟩ := chkV_of h1
      have e1 : evs Γ (.cons (.var i) cs) = (fun ρ => do let x ← varS ρ[i]?; let xs ← evs Γ cs ρ; some (x :: xs)) := by funext ρ; simp only [evs, ev]
      rw [e1]
      exact ⟨sps_var rfl (pv_of hv) (fun j hj => slotOf_uniq nd hs hj) ih.1, by simp only [allNS, Bool.and_eq_true]; exact ⟨rfl, ih.2⟩⟩
    | none =>
      rw [hs] at h1
      simp only [Bool.and_eq_true] at h1
      rw [evs_cons]
      exact ⟨sps_cons h1.1 (se _ true X C _ h1.2).1 (slotOf_none hs) ih.1, by simp only [allNS, Bool.and_eq_true]; exact ⟨h1.1, ih.2⟩⟩
mutual
theorem ss : ∀ (c : CS) (X : Cx), pinS pn c = true → Ctx true X Γ → PassesOwn (model X.prog X.w) X.A X.env X.xe → X.env.scope.kind = .function → (∀ x, X.fn x = true) → ∀ (s : Stmt), chkS Γ X.env.scope X.N c s = true → PS X s (rdS X.K pn m (ex Γ m c))
  | .set i e, X, hz, C, hp, hk, hfn, s, h => by
    simp only [chkS] at h
    split at h
    case h_2 => cases h
    rename_i x p v pos
    simp only [Bool.and_eq_true, dstB, chkLcS] at h
    obtain ⟨⟨⟨⟨h1, h2⟩, h3⟩, hlcd⟩, h4⟩ := h
    have ee : ex Γ m (.set i e) = fun ρ => (do let r ← ev Γ e ρ; (assignR ρ i r).map .nx) := by funext ρ; simp only [ex]
    rw [ee]
    have lo := (dstK_of h2).1
    by_cases hloc : locB X.env.scope x = true
    case neg =>
      refine ss_set (by simpa [pinS] using hz) C.nd (nameAt_of h1) lo (hfn x) (se e true X C v h4).1 fun t l => ?_
      by_cases ht : t = .Name x p
      · left
        refine sw_cell ht ?_
        rcases lo with lo | lo
        · unfold locB at hloc; rw [lo] at hloc; simp at hloc
        · exact lo
      · exact .inr ht
    rw [hloc, Bool.not_true, Bool.false_or] at h3
    by_cases hn : notComp v = true
    · exact ss_set (by simpa [pinS] using hz) C.nd (nameAt_of h1) lo (hfn x) (se e true X C v h4).1 fun t l => .inl (sw_of hn)
    · cases v <;> simp only [notComp, not_true_eq_false] at hn <;> simp only [notComp, Bool.false_eq_true] at h3
      rename_i elt gs scope pos2
      simp only [Bool.and_eq_true, Bool.not_eq_true'] at h3
      cases e <;> simp only [noLcd, notComp, Bool.false_eq_true] at hlcd <;> simp only [chk, Bool.false_eq_true] at h4
      exact ss_setLc (by simpa [pinS] using hz) C hk (nameAt_of h1) (locB_of hloc) h3.1 h3.2 (by simp only [chk]; exact h4)
  | .unp is e, X, hz, C, hp, hk, hfn, s, h => by
    simp only [chkS] at h
    split at h
    case h_2 => cases h
    simp only [Bool.and_eq_true] at h
    obtain ⟨⟨⟨h1, h2⟩, h3⟩, h4⟩ := h
    have ee : ex Γ m (.unp is e) = fun ρ => (do let r ← ev Γ e ρ; if shb r.1 r.2 then (bindT (.tp is) r.2 ρ).map .nx else none) := by funext ρ; simp only [ex]
    rw [ee]
    exact ss_unp (by simpa [pinS] using hz) C hfn h1 (se e true X C _ h4).1 h2 h3
  | .mv i j, X, hz, C, hp, hk, hfn, s, h => by
    simp only [chkS] at h
    split at h
    case h_2 => cases h
    simp only [Bool.and_eq_true, dstB] at h
    have ee : ex Γ m (.mv i j) = fun ρ => mvR ρ i j := by funext ρ; simp only [ex]
    rw [ee]
    exact ss_mv (by simpa [pinS] using hz) C.nd (nameAt_of h.1.1) (dstK_of h.1.2).1 (hfn _) (pv_of h.2)
  | .app i e, X, hz, C, hp, hk, hfn, s, h => by
    simp only [chkS] at h
    split at h
    case h_2 => cases h
    simp only [Bool.and_eq_true, decide_eq_true_eq] at h
    obtain ⟨⟨⟨⟨rfl, h2⟩, h3⟩, h4⟩, h5⟩ := h
    have ee : ex Γ m (.app i e) = fun ρ => (do let r ← ev Γ e ρ; appR ρ i r) := by funext ρ; simp only [ex]
    rw [ee]
    exact ss_app C (pv_of h2) (se e true X C _ h5).1 h3 h4 rfl
  | .ext i e, X, hz, C, hp, hk, hfn, s, h => by
    simp only [chkS] at h
    split at h
    case h_2 => cases h
    simp only [Bool.and_eq_true, decide_eq_true_eq] at h
    obtain ⟨⟨⟨⟨rfl, h2⟩, h3⟩, h4⟩, h5⟩ := h
    have ee : ex Γ m (.ext i e) = fun ρ => (do let r ← ev Γ e ρ; extR ρ i r) := by funext ρ; simp only [ex]
    rw [ee]
    exact ss_ext C (pv_of h2) (se e true X C _ h5).1 h3 h4 rfl
  | .pop t i, X, hz, C, hp, hk, hfn, s, h => by
    simp only [chkS] at h
    split at h
    case h_2 => cases h
    simp only [Bool.and_eq_true, decide_eq_true_eq, dstB] at h
    obtain ⟨⟨⟨rfl, h2⟩, h3⟩, h4⟩ := h
    have ee : ex Γ m (.pop t i) = fun ρ => popR ρ t i := by funext ρ; simp only [ex]
    rw [ee]
    exact ss_pop (by simpa [pinS] using hz) C (nameAt_of h2.1) (dstK_of h2.2).1 (hfn _) (pv_of h3) h4 rfl
  | .clr i, X, hz, C, hp, hk, hfn, s, h => by
    simp only [chkS] at h
    split at h
    case h_2 => cases h
    simp only [Bool.and_eq_true, decide_eq_true_eq] at h
    obtain ⟨⟨rfl, h2⟩, h3⟩ := h
    have ee : ex Γ m (.clr i) = fun ρ => clrR ρ i := by funext ρ; simp only [ex]
    rw [ee]
    exact ss_clr C (pv_of h2) h3 rfl
  | .sto i k e, X, hz, C, hp, hk, hfn, s, h => by
    simp only [chkS] at h
    split at h
    case h_2 => cases h
    simp only [Bool.and_eq_true] at h
    obtain ⟨⟨⟨⟨h1, h2⟩, h3⟩, h4⟩, h5⟩ := h
    have ee : ex Γ m (.sto i k e) = fun ρ => (do let r ← ev Γ e ρ; let q ← ev Γ k ρ; stoR ρ i q r) := by funext ρ; simp only [ex]
    rw [ee]
    exact ss_sto C (pv_of h1) (se k true X C _ h4).1 (se e true X C _ h5).1 h3 h2
  | .drop e, X, hz, C, hp, hk, hfn, s, h => by
    simp only [chkS] at h
    split at h
    case h_2 => cases h
    simp only [Bool.and_eq_true] at h
    have ee : ex Γ m (.drop e) = fun ρ => (do let _ ← ev Γ e ρ; some (.nx ρ)) := by funext ρ; simp only [ex]
    rw [ee]
    exact ss_drop (se e true X C _ h.2).1 h.1
  | .ite c a b, X, hz, C, hp, hk, hfn, s, h => by
    simp only [chkS] at h
    split at h
    case h_2 => cases h
    simp only [Bool.and_eq_true] at h
    rw [ex_ite]
    simp only [pinS, Bool.and_eq_true] at hz
    exact ss_ite (se c true X C _ h.1.1).2 (sss a X hz.1 C hp hk hfn _ h.1.2) (sss b X hz.2 C hp hk hfn _ h.2)
  | .fors t it b, X, hz, C, hp, hk, hfn, s, h => by
    simp only [chkS] at h
    split at h
    case h_2 => cases h
    simp only [Bool.and_eq_true] at h
    obtain ⟨⟨⟨h1, h2⟩, h3⟩, h4⟩ := h
    rw [ex_for]
    simp only [pinS, Bool.and_eq_true] at hz
    exact ss_for (by simpa using hz.1) C hfn hp (si it true X C _ _ h2) h1 (sss b X hz.2 C hp hk hfn _ h4) h3
  | .whl n c b, X, hz, C, hp, hk, hfn, s, h => by
    simp only [chkS] at h
    split at h
    case h_2 => cases h
    simp only [Bool.and_eq_true] at h
    rw [ex_whl]
    exact ss_whl hp (se c true X C _ h.1).2 (sss b X (by simpa only [pinS] using hz) C hp hk hfn _ h.2)
  | .ret e, X, hz, C, hp, hk, hfn, s, h => by
    simp only [chkS] at h
    split at h
    case h_2 => cases h
    have ee : ex Γ m (.ret e) = fun ρ => (do let r ← ev Γ e ρ; retR m r) := by funext ρ; simp only [ex]
    rw [ee]
    exact ss_ret (se e true X C _ h).1
  | .retN, X, hz, C, hp, hk, hfn, s, h => by
    simp only [chkS] at h
    split at h
    case h_2 => cases h
    have ee : ex Γ m .retN = fun _ => some (.rt .non) := by funext ρ; simp only [ex]
    rw [ee]
    exact ss_retN
  | .retP i, X, hz, C, hp, hk, hfn, s, h => by
    simp only [chkS] at h
    split at h
    case h_2 => cases h
    have ee : ex Γ m (.retP i) = fun ρ => retPR ρ i := by funext ρ; simp only [ex]
    rw [ee]
    exact ss_retP (pv_of h)
  | .rais x, X, hz, C, hp, hk, hfn, s, h => by
    have ee : ex Γ m (.rais x) = fun ρ => none := by funext ρ; simp only [ex]
    rw [ee]
    exact ss_rais
  | .mc i f as, X, hz, C, hp, hk, hfn, s, h => by
    simp only [chkS] at h
    split at h
    case h_2 => cases h
    simp only [Bool.and_eq_true] at h
    obtain ⟨h1, h2⟩ := h
    split at h1
    case h_2 => cases h1
    rename_i q0 hq0
    simp only [Bool.and_eq_true, decide_eq_true_eq] at h1
    obtain ⟨rfl, h3⟩ := h1
    have ee : ex Γ m (.mc i f as) = fun ρ => (do let rs ← evs Γ as ρ; let q ← Γ.mf[f]?; mcR ρ i q rs) := by funext ρ; simp only [ex]
    rw [ee]
    have g := gl_of (X := X) rfl h2
    have pa := sap q0.p i as X C _ h3
    have ns := chkP_ns h3
    obtain ⟨e, es', he⟩ := chkP_cons h3
    subst he
    exact ss_mc C hq0 rfl g.1 g.2 ns pa
  | .op k is ws as, X, hz, C, hp, hk, hfn, s, h => by
    simp only [chkS] at h
    split at h
    case h_2 => cases h
    rename_i q hq
    split at h
    case h_2 => cases h
    rename_i es hes
    have ee : ex Γ m (.op k is ws as) = fun ρ => (q.F is ws (evL Γ as) ρ).map .nx := by
      funext ρ
      simp only [ex, hq, Option.bind_eq_bind, Option.bind_some]
    rw [ee]
    exact q.ok X (C_op C) C.nd hp hk hfn pn m is ws s es _ (by simpa [pinS] using hz) hes (spes as true X C es h)
  | .retQ e, X, hz, C, hp, hk, hfn, s, h => by
    simp only [chkS] at h
    split at h
    case h_2 => cases h
    have ee : ex Γ m (.retQ e) = fun ρ => (do let r ← ev Γ e ρ; retQR ρ r) := by funext ρ; simp only [ex]
    rw [ee]
    exact ss_retQ (se e true X C _ h).1
  | .mcs t is f as, X, hz, C, hp, hk, hfn, s, h => by
    simp only [chkS] at h
    split at h
    case h_2 => cases h
    simp only [Bool.and_eq_true, dstB] at h
    obtain ⟨⟨h1, h2⟩, h6, h7⟩ := h
    split at h1
    case h_2 => cases h1
    rename_i q0 hq0
    simp only [Bool.and_eq_true, decide_eq_true_eq, Bool.not_eq_true', List.isEmpty_eq_false_iff, Option.isNone_iff_eq_none] at h1
    obtain ⟨⟨⟨⟨⟨rfl, h0⟩, h3⟩, h4⟩, h5⟩, h8⟩ := h1
    have ee : ex Γ m (.mcs t is f as) = fun ρ => (do let rs ← evs Γ as ρ; let q ← Γ.ex.ops.mf[f]?; mcsR ρ t is q rs) := by funext ρ; simp only [ex]
    rw [ee]
    have g := gl_of (X := X) rfl h2
    obtain ⟨pa, ns⟩ := saps h4 as 0 X C _ h5
    rename_i es _ _ _
    cases es with
    | nil => exact absurd rfl h8
    | cons e es => exact ss_mcs h0 (by simpa [pinS] using hz) C (nameAt_of h6) (dstK_of h7).1 (hfn _) hq0 h3 g.1 g.2 ns pa
theorem sss : ∀ (c : CSs) (X : Cx), pinSs pn c = true → Ctx true X Γ → PassesOwn (model X.prog X.w) X.A X.env X.xe → X.env.scope.kind = .function → (∀ x, X.fn x = true) → ∀ (ss : List Stmt), chkSs Γ X.env.scope X.N c ss = true → PSs X ss (rdS X.K pn m (exs Γ m c))
  | .nil, X, hz, C, hp, hk, hfn, ss, h => by
    simp only [chkSs, List.isEmpty_iff] at h
    subst h
    rw [exs_nil]
    exact ss_nil
  | .cons c cs, X, hz, C, hp, hk, hfn, ss0, h => by
    simp only [chkSs] at h
    split at h
    case h_2 => cases h
    simp only [Bool.and_eq_true] at h
    rw [exs_cons]
    simp only [pinSs, Bool.and_eq_true] at hz
    exact ss_cons (ss c X hz.1 C hp hk hfn _ h.1) (sss cs X hz.2 C hp hk hfn _ h.2)
  | .frz i cs, X, hz, C, hp, hk, hfn, ss0, h => by
    simp only [chkSs] at h
    rw [exs_frz]
    simp only [pinSs, Bool.and_eq_true, decide_eq_true_eq] at hz
    exact ss_frz hz.1 (sss cs X hz.2 C hp hk hfn _ h)
end
end
section
variable {P : Program} {w : World} {K : PySem.W.Frag} {mg : Str → Option Value} {base : Heap}
/-- a def that is called from here: at level k at most -/
structure FnT (P : Program) (w : World) (K : PySem.W.Frag) (mg : Str → Option Value) (base : Heap) (k : Nat) (x : Str) (n : Nat) (F : List D → Option D) : Prop where
  ex : ∃ (f : Addr) (fd : FuncData) (ps : List Str), ps.length = n ∧ FnOk P w K mg base CX0 k f fd ps (spD K n F) ∧ mg x = some (.ref f) ∧ PySem.W.keepIn K (.ref f) = true ∧ Binds K fd ps []
/-- a def that changes its argument p -/
structure FnTm (P : Program) (w : World) (K : PySem.W.Frag) (mg : Str → Option Value) (base : Heap) (k : Nat) (q : MF) : Prop where
  ex : ∃ (f : Addr) (fd : FuncData) (ps : List Str), ps.length = q.n ∧ FnOk P w K mg base CX0 k f fd ps (spM K q.n q.p q.rp q.F) ∧ mg q.nm = some (.ref f) ∧ PySem.W.keepIn K (.ref f) = true ∧ Binds K fd ps []
/-- a def that changes several arguments and tells something -/
structure FnTm2 (P : Program) (w : World) (K : PySem.W.Frag) (mg : Str → Option Value) (base : Heap) (k : Nat) (q : MF2) : Prop where
  ex : ∃ (f : Addr) (fd : FuncData) (ps : List Str), ps.length = q.n ∧ FnOk P w K mg base CX0 k f fd ps (spM2 K q.n q.ps q.F) ∧ MeAt K mg q f ∧ Binds K fd ps []
/-- a def that calls what it is handed first -/
structure FnTt (P : Program) (w : World) (K : PySem.W.Frag) (mg : Str → Option Value) (base : Heap) (k : Nat) (x : Str) (n : Nat) (F : CV → List D → Option D) : Prop where
  ex : ∃ (f : Addr) (fd : FuncData) (ps : List Str), ps.length = n ∧ FnOk P w K mg base CX0 k f fd ps (spC K n F) ∧ mg x = some (.ref f) ∧ PySem.W.keepIn K (.ref f) = true ∧ Binds K fd ps []
structure FnTk (P : Program) (w : World) (K : PySem.W.Frag) (mg : Str → Option Value) (kc k : Nat) (q : FC) : Prop where
  ex : ∃ (f : Addr) (fd : FuncData) (ps : List Str), ps.length = q.n ∧ (∀ (base : Heap) (cl : ClM), Mod K mg base → ClOk P w K mg base kc cl → FnOk P w K mg base CX0 k f fd ps (spC K q.n (q.F cl))) ∧ mg q.nm = some (.ref f) ∧ PySem.W.keepIn K (.ref f) = true ∧ Binds K fd ps []
structure FnTk1 (P : Program) (w : World) (K : PySem.W.Frag) (mg : Str → Option Value) (kc k : Nat) (q : FC) : Prop where
  ex : ∃ (f : Addr) (fd : FuncData) (ps : List Str), ps.length = q.n ∧ (∀ (base : Heap) (cl : ClM), Mod K mg base → ClOk P w K mg base kc cl → FnOk P w K mg base CX0 k f fd ps (spC1 K q.n (q.F cl))) ∧ mg q.nm = some (.ref f) ∧ PySem.W.keepIn K (.ref f) = true ∧ Binds K fd ps []
structure GamOk (P : Program) (w : World) (K : PySem.W.Frag) (mg : Str → Option Value) (base : Heap) (k : Nat) (Γ : Gam) : Prop where
  blt : ∀ x ∈ bltNames, mg x = none
  fn : ∀ (j : Nat) x n F, Γ.fn[j]? = some (x, n, F) → FnT P w K mg base k x n F
  mf : ∀ (j : Nat) q, Γ.mf[j]? = some q → FnTm P w K mg base k q
  gl : ∀ (j : Nat) x d, Γ.gl[j]? = some (x, d) → imm d = true ∧ ∃ v u, mg x = some u ∧ RelV v u ∧ ∀ N H, Rp K N H d v
  cl : ∀ v φ, Γ.ex.cl v = some φ → ClAt P w K mg base k v φ
  tc : ∀ (j : Nat) x n F, Γ.ex.tc[j]? = some (x, n, F) → FnTt P w K mg base k x n F
  fc : ∀ (j : Nat) q, Γ.ex.fc[j]? = some q → FnTk P w K mg Γ.ex.kc k q
  fb : ∀ (j : Nat) q, Γ.ex.fb.l[j]? = some q → FnTk1 P w K mg Γ.ex.kc k q
  lm : ∀ (j : Nat) m, Γ.ex.lm[j]? = some m → LmOk P w K mg Γ.ex.kc m
  m2 : ∀ (j : Nat) q, Γ.ex.ops.mf[j]? = some q → FnTm2 P w K mg base k q
/-- the tables of a def that makes lambdas -/
def TbOk (mg : Str → Option Value) (base : Heap) (qual : Str) (cdv : Value) : Prop := ∃ c Pt, cdv = .ref c ∧ LamX.TabB base mg c Pt ∧ (Pt, (qual ++ ".<locals>.") ++ "<lambda>") ∈ Tb.T ∧ ∀ p ∈ Tb.T, p.1 = Pt → p.2 = (qual ++ ".<locals>.") ++ "<lambda>"
theorem GamOk.ctx {k : Nat} {Γ : Gam} {lb : Bool} {X : Cx} (G : GamOk X.prog X.w X.K X.mg X.base k Γ) (hr : Room k X.A) (nd : X.N.Nodup) (calm : X.calm = true)
    (tb : lb = true → Γ.ex.lm ≠ [] → (∀ x, X.fn x = true) ∧ ∃ c P, X.env.code = .ref c ∧ LamX.TabB X.base X.mg c P ∧ (P, X.env.qual ++ "<lambda>") ∈ Tb.T ∧ ∀ p ∈ Tb.T, p.1 = P → p.2 = X.env.qual ++ "<lambda>") : Ctx lb X Γ :=
  ⟨nd, calm, Nat.lt_of_le_of_lt (Nat.add_le_add_left (show 66 ≤ 16 * k + 200 by omega) _) (by have := hr.un; rw [Nat.add_assoc] at this; exact this), G.blt,
    fun j y n F0 hy => ⟨let ⟨f0, fd0, ps0, e1, e2, e3, e4, e5⟩ := (G.fn j y n F0 hy).ex; ⟨k, f0, fd0, ps0, e1, e2, hr, e3, e4, e5⟩⟩, fun j q hy => ⟨let ⟨f0, fd0, ps0, e1, e2, e3, e4, e5⟩ := (G.mf j q hy).ex; ⟨k, f0, fd0, ps0, e1, e2, hr, e3, e4, e5⟩⟩, G.gl,
    fun v φ h => ⟨k, G.cl v φ h, hr⟩, fun j y n F0 hy => ⟨let ⟨f0, fd0, ps0, e1, e2, e3, e4, e5⟩ := (G.tc j y n F0 hy).ex; ⟨k, f0, fd0, ps0, e1, e2, hr, e3, e4, e5⟩⟩,
    fun j q hy => ⟨let ⟨f0, fd0, ps0, e1, e2, e3, e4, e5⟩ := (G.fc j q hy).ex; ⟨k, f0, fd0, ps0, e1, e2, hr, e3, e4, e5⟩⟩, fun j q hy => ⟨let ⟨f0, fd0, ps0, e1, e2, e3, e4, e5⟩ := (G.fb j q hy).ex; ⟨k, f0, fd0, ps0, e1, e2, hr, e3, e4, e5⟩⟩, G.lm, tb, fun j q hy => ⟨let ⟨f0, fd0, ps0, e1, e2, e3, e4⟩ := (G.m2 j q hy).ex; ⟨k, f0, fd0, ps0, e1, e2, hr, e3, e4⟩⟩⟩
theorem Fun.okC {x qual : Str} {st : Stmt} {f : Addr} {fd : FuncData} {N ps : List Str} {k : Nat} {sp : Sp} (F : Fun K x qual st f fd) (S : FnScope N ps (defScope st)) (hlen : ∀ vs H Q E, sp vs H Q E → vs.length = ps.length)
    (body : ∀ A outer s H vs Q E, Room k (A.deeper (envOfC qual (defScope st) s.heap.objs.size f fd.code)) → sp vs H Q E → ∃ t, PSs (cxOf CX0 P w K mg base N qual (defScope st) f fd.code A outer s H E).nox (defBody st) t ∧ t { nx := fun _ H' => Q .non H', rt := Q } (L2.start N vs) H) :
    FnOk P w K mg base CX0 (k + 1) f fd ps sp := by
  obtain ⟨_, _, _, _, _, _, cdv, _, _, rfl, look, hcode⟩ := F.ex
  exact fn_of look hcode S hlen fun A outer s H vs Q E room h => let ⟨t, h1, h2⟩ := body A outer s H vs Q E room h; ⟨t, h1.nox, h2⟩
theorem rps_start {N : Addr → Prop} {H : Hp} {ds : List D} {vs : List V} {k : Nat} (r : Rps K N H ds vs) {i : Nat} {sl : Sl} (h : (ds.map (fun d => some (Sl.sh d)) ++ List.replicate k none)[i]? = some (some sl)) :
    ∃ d, sl = .sh d ∧ ∃ v, (vs.map some ++ List.replicate k none)[i]? = some (some v) ∧ Rp K N H d v := by
  by_cases hi : i < ds.length
  · rw [List.getElem?_append_left (by simpa using hi), List.getElem?_map] at h
    cases e : ds[i]? with
    | none => rw [e] at h; cases h
    | some d =>
      rw [e] at h
      cases h
      obtain ⟨v, h1, h2⟩ := r.get e
      refine ⟨d, rfl, v, ?_, h2⟩
      rw [List.getElem?_append_left (by rw [List.length_map, ← r.length]; exact hi), List.getElem?_map, h1]; rfl
  · rw [List.getElem?_append_right (by simpa using Nat.le_of_not_lt hi)] at h
    rw [List.getElem?_replicate] at h
    split at h <;> cases h
theorem fn_ok {x qual : Str} {st : Stmt} {f : Addr} {fd : FuncData} {N ps : List Str} {k : Nat} {Γ : Gam} {m : Bool} {b : CSs} (F : Fun K x qual st f fd) (S : FnScope N ps (defScope st)) (G : GamOk P w K mg base k Γ)
    (hl : ps.length ≤ N.length) (h : chkSs Γ (defScope st) N b (defBody st) = true) (htb : Γ.ex.lm ≠ [] → TbOk mg base qual fd.code) : FnOk P w K mg base CX0 (k + 1) f fd ps (spD K ps.length (runF Γ m N.length b)) := by
  refine Fun.okC F S (fun vs H Q E hh => ?_) (fun A outer s H vs Q E hr hh => ?_)
  · obtain ⟨ds, d, _, hn, r, _⟩ := hh
    rw [← r.length, hn]
  · obtain ⟨ds, d, hf, hn, r, hT, q⟩ := hh
    have C : Ctx true (cxOf CX0 P w K mg base N qual (defScope st) f fd.code A outer s H E).nox Γ := GamOk.ctx (k := k) G hr S.nd rfl (fun _ hne => ⟨fun _ => rfl, htb hne⟩)
    refine ⟨_, sss (m := m) (pn := []) b _ (pinSs_none b) C PassesOwn.never S.kind (fun _ => rfl) (defBody st) h, ?_⟩
    unfold runF at hf
    split at hf
    · cases hf
    rename_i him
    have him : m = true → immL ds = true := by
      intro e; subst e; simpa using him
    cases e1 : exs Γ m b (ds.map (fun d => some (.sh d)) ++ List.replicate (N.length - ds.length) none) with
    | none => rw [e1] at hf; cases hf
    | some out =>
    have hvs : vs.length = ds.length := r.length.symm
    let B : Bs := ⟨fun a => if m = true then H a = none else True, fun a => H a = none, H, []⟩
    have nown : ∀ a, ¬ Own (ds.map (fun d => some (Sl.sh d)) ++ List.replicate (N.length - ds.length) none) (L2.start N vs) a := by
      rintro a ⟨i, e, g1, g2⟩
      obtain ⟨_, z, _⟩ := rps_start r g1
      cases z
    have r' : Rps K (Nsh B (ds.map (fun d => some (Sl.sh d)) ++ List.replicate (N.length - ds.length) none) (L2.start N vs)) H ds vs := by
      by_cases hm : m = true
      · exact r.any (him hm)
      · exact Rps.imp (fun a _ _ _ => ⟨by show (if m = true then _ else _); rw [if_neg hm]; trivial, nown a⟩) r
    have S0 : StOk K B (ds.map (fun d => some (Sl.sh d)) ++ List.replicate (N.length - ds.length) none) (L2.start N vs) H := by
      refine ⟨by unfold L2.start; simp [hvs], Ext.refl H, fun a ha => ⟨?_, ha⟩, fun i e g => ?_, fun i e g => ?_, fun i j e e' a g1 g2 g3 g4 => ?_, fun i a g => ?_, hT, fun i v g => ?_⟩
      · show (if m = true then H a = none else True)
        split
        · exact ha
        · trivial
      · obtain ⟨d', z, v, g1, g2⟩ := rps_start r' g
        cases z
        exact ⟨v, by unfold L2.start; rw [hvs]; exact g1, g2⟩
      · obtain ⟨_, z, _⟩ := rps_start r g
        cases z
      · exact absurd ⟨i, e, g1, g3⟩ (nown a)
      · cases g
      · obtain ⟨_, z, _⟩ := rps_start r g
        cases z
    have hm0 : m = true → ∀ a, B.S a → B.N0 a := by
      intro e a ha
      have ha' : (if m = true then H a = none else True) := ha
      rw [if_pos e] at ha'
      exact ha'
    refine ⟨B, _, out, e1, S0, ⟨hm0, fun _ _ g => by cases g⟩, ?_⟩
    rw [e1] at hf
    cases out with
    | rp ρ' i => cases hf
    | rq ρ' i => cases hf
    | nx ρ' =>
      cases hf
      exact fun σ' H' S' => q .non H' S'.keep (by simp only [Sep, Rp])
    | rt d' =>
      cases hf
      exact fun v H' k => q v H' k.keep k.val
end
end DD
set_option Elab.async false
set_option linter.all false
set_option maxRecDepth 100000
set_option maxHeartbeats 4000000
namespace DD
open PySem L2 PyProof.Rows
variable [Tb : Tbl]
section
variable {P : Program} {w : World} {K : PySem.W.Frag} {mg : Str → Option Value} {base : Heap}
theorem FnT.mono {j k : Nat} {x : Str} {n : Nat} {F : List D → Option D} (T : FnT P w K mg base j x n F) (h : j ≤ k) : FnT P w K mg base k x n F := by
  obtain ⟨f, fd, ps, e1, e2, e3⟩ := T.ex
  exact ⟨f, fd, ps, e1, e2.mono h, e3⟩
theorem spD_imp {n : Nat} {F G : List D → Option D} (h : ∀ ds d, G ds = some d → F ds = some d) : ∀ vs H Q E, spD K n G vs H Q E → spD K n F vs H Q E := by
  rintro vs H Q E ⟨ds, d, h1, h2, h3, h4⟩
  exact ⟨ds, d, h _ _ h1, h2, h3, h4⟩
theorem FnT.imp {k : Nat} {x : Str} {n : Nat} {F G : List D → Option D} (T : FnT P w K mg base k x n F) (h : ∀ ds d, G ds = some d → F ds = some d) : FnT P w K mg base k x n G := by
  obtain ⟨f, fd, ps, e1, e2, e3⟩ := T.ex
  exact ⟨f, fd, ps, e1, e2.imp (spD_imp h), e3⟩
/-- a def as it stands behind the top -/
structure Dfn (K : PySem.W.Frag) (mg : Str → Option Value) (x : Str) (ps : List Str) (st : Stmt) (f : Addr) (fd : FuncData) : Prop where
  fn : Fun K x x st f fd
  loc : mg x = some (.ref f)
  bd : Binds K fd ps []
def DfnE (K : PySem.W.Frag) (mg : Str → Option Value) (x : Str) (ps : List Str) (st : Stmt) : Prop := ∃ f fd, Dfn K mg x ps st f fd
theorem dfn_mk {h : Heap} (X : K.In h) (G : h.Ns mainGlobals mg) {x : Str} {ps : List Str} {st : Stmt} {f : Addr} {oc : Value} {od an : Option Addr} {osl : Array (Option Value)} {kV doc pm cdv ct : Value}
    (a : PySem.W.nsIn K mainGlobals x = some (some (.ref f)))
    (l : K.lookup f = some ⟨oc, od, .func (PySem.W.fnOf x x (defArgs st) (defBody st) (defScope st) .none kV doc pm an cdv ct), osl⟩)
    (c : PySem.W.codeIn K cdv x = true) (k : PySem.W.keepIn K (.ref f) = true)
    (hb : ∀ (kV doc pm : Value) (an : Option Addr) (cdv ct : Value) (us : List Value), us.length = ps.length → bindArgs (PySem.W.fnOf x x (defArgs st) (defBody st) (defScope st) .none kV doc pm an cdv ct) ⟨us, []⟩ = pure (ps.zip us)) :
    Dfn K mg x ps st f (PySem.W.fnOf x x (defArgs st) (defBody st) (defScope st) .none kV doc pm an cdv ct) :=
  ⟨fun_mk l c k, PySem.W.mg_of X G a, (fun_mk l c k).binds hb⟩
theorem DfnE.ok {x : Str} {ps : List Str} {st : Stmt} (d : DfnE K mg x ps st) {N : List Str} {k : Nat} {Γ : Gam} {m : Bool} {b : CSs} (S : FnScope N ps (defScope st)) (G : GamOk P w K mg base k Γ)
    (hl : ps.length ≤ N.length) (h : chkSs Γ (defScope st) N b (defBody st) = true) (he : Γ.ex.lm = [] := by rfl) : FnT P w K mg base (k + 1) x ps.length (runF Γ m N.length b) := by
  obtain ⟨f, fd, D⟩ := d
  exact ⟨f, fd, ps, rfl, fn_ok D.fn S G hl h (fun z => absurd he z), D.loc, D.fn.kp, D.bd⟩
theorem DfnE.never {x : Str} {ps : List Str} {st : Stmt} (d : DfnE K mg x ps st) {N : List Str} {k : Nat} (S : FnScope N ps (defScope st)) : FnT P w K mg base (k + 1) x ps.length (fun _ => none) := by
  obtain ⟨f, fd, D⟩ := d
  refine ⟨f, fd, ps, rfl, ?_, D.loc, D.fn.kp, D.bd⟩
  refine D.fn.ok S (fun vs H Q E hh => ?_) (fun cdv A outer s H vs Q E hr hh => ?_)
  · obtain ⟨ds, d, h1, _⟩ := hh; cases h1
  · obtain ⟨ds, d, h1, _⟩ := hh; cases h1
theorem FnTm.mono {j k : Nat} {q : MF} (T : FnTm P w K mg base j q) (h : j ≤ k) : FnTm P w K mg base k q := by
  obtain ⟨f, fd, ps, e1, e2, e3⟩ := T.ex
  exact ⟨f, fd, ps, e1, e2.mono h, e3⟩
theorem FnTm2.mono {j k : Nat} {q : MF2} (T : FnTm2 P w K mg base j q) (h : j ≤ k) : FnTm2 P w K mg base k q := by
  obtain ⟨f, fd, ps, e1, e2, e3⟩ := T.ex
  exact ⟨f, fd, ps, e1, e2.mono h, e3⟩
theorem ClAt.mono {j k : Nat} {v : CV} {φ : List D → Option D} (A : ClAt P w K mg base j v φ) (h : j ≤ k) : ClAt P w K mg base k v φ :=
  ⟨A.obj, fun A' outer s H us vs args d Q E hr => A.run A' outer s H us vs args d Q E (hr.mono h)⟩
theorem FnTt.mono {j k : Nat} {x : Str} {n : Nat} {F : CV → List D → Option D} (T : FnTt P w K mg base j x n F) (h : j ≤ k) : FnTt P w K mg base k x n F := by
  obtain ⟨f, fd, ps, e1, e2, e3⟩ := T.ex
  exact ⟨f, fd, ps, e1, e2.mono h, e3⟩
theorem FnTk.mono {kc j k : Nat} {q : FC} (T : FnTk P w K mg kc j q) (h : j ≤ k) : FnTk P w K mg kc k q := by
  obtain ⟨f, fd, ps, e1, e2, e3⟩ := T.ex
  exact ⟨f, fd, ps, e1, fun base cl hm hc => (e2 base cl hm hc).mono h, e3⟩
theorem FnTk1.mono {kc j k : Nat} {q : FC} (T : FnTk1 P w K mg kc j q) (h : j ≤ k) : FnTk1 P w K mg kc k q := by
  obtain ⟨f, fd, ps, e1, e2, e3⟩ := T.ex
  exact ⟨f, fd, ps, e1, fun base cl hm hc => (e2 base cl hm hc).mono h, e3⟩
theorem GamOk.mono {j k : Nat} {Γ : Gam} (G : GamOk P w K mg base j Γ) (h : j ≤ k) : GamOk P w K mg base k Γ := ⟨G.blt, fun i x n F e => (G.fn i x n F e).mono h, fun i q e => (G.mf i q e).mono h, G.gl, fun v φ e => (G.cl v φ e).mono h, fun i x n F e => (G.tc i x n F e).mono h, fun i q e => (G.fc i q e).mono h, fun i q e => (G.fb i q e).mono h, G.lm, fun i q e => (G.m2 i q e).mono h⟩
def FnsOk (P : Program) (w : World) (K : PySem.W.Frag) (mg : Str → Option Value) (base : Heap) (k : Nat) : List (Str × Nat × (List D → Option D)) → Prop
  | [] => True
  | q :: qs => FnT P w K mg base k q.1 q.2.1 q.2.2 ∧ FnsOk P w K mg base k qs
theorem FnsOk.get {k : Nat} : ∀ {fs : List (Str × Nat × (List D → Option D))} {j : Nat} {x : Str} {n : Nat} {F : List D → Option D}, FnsOk P w K mg base k fs → fs[j]? = some (x, n, F) → FnT P w K mg base k x n F
  | [], j, x, n, F, _, e => by simp at e
  | q :: qs, 0, x, n, F, h, e => by
    simp only [List.getElem?_cons_zero, Option.some.injEq] at e
    subst e
    exact h.1
  | q :: qs, j + 1, x, n, F, h, e => FnsOk.get (j := j) h.2 (by simpa using e)
def MfsOk (P : Program) (w : World) (K : PySem.W.Frag) (mg : Str → Option Value) (base : Heap) (k : Nat) : List MF → Prop
  | [] => True
  | q :: qs => FnTm P w K mg base k q ∧ MfsOk P w K mg base k qs
theorem MfsOk.get {k : Nat} : ∀ {fs : List MF} {j : Nat} {q : MF}, MfsOk P w K mg base k fs → fs[j]? = some q → FnTm P w K mg base k q
  | [], j, q, _, e => by simp at e
  | q :: qs, 0, _, h, e => by
    simp only [List.getElem?_cons_zero, Option.some.injEq] at e
    subst e
    exact h.1
  | q :: qs, j + 1, _, h, e => MfsOk.get (j := j) h.2 (by simpa using e)
def GlOk (mg : Str → Option Value) : List (Str × D) → Prop
  | [] => True
  | q :: qs => (match q.2 with | .int i => ∃ t, mg q.1 = some (.int i t) | .str x => ∃ t, mg q.1 = some (.str x t) | _ => False) ∧ GlOk mg qs
theorem GlOk.get : ∀ {gs : List (Str × D)} {j : Nat} {x : Str} {d : D}, GlOk mg gs → gs[j]? = some (x, d) → imm d = true ∧ ∃ v u, mg x = some u ∧ RelV v u ∧ ∀ N H, Rp K N H d v
  | [], j, x, d, _, e => by simp at e
  | q :: qs, 0, x, d, h, e => by
    simp only [List.getElem?_cons_zero, Option.some.injEq] at e
    subst e
    obtain ⟨h, _⟩ := h
    dsimp only at h
    cases d <;> simp only at h
    · obtain ⟨t, e⟩ := h
      exact ⟨rfl, .int _, _, e, ⟨t, rfl⟩, fun _ _ => by simp only [Rp]⟩
    · obtain ⟨t, e⟩ := h
      exact ⟨rfl, .str _, _, e, ⟨t, rfl⟩, fun _ _ => by simp only [Rp]⟩
  | q :: qs, j + 1, x, d, h, e => GlOk.get (j := j) h.2 (by simpa using e)
theorem gam_mk {k : Nat} {fs : List (Str × Nat × (List D → Option D))} {gs : List (Str × D)} (hb : ∀ x ∈ bltNames, mg x = none) (hf : FnsOk P w K mg base k fs) (hg : GlOk mg gs) : GamOk P w K mg base k ⟨fs, gs, []⟩ :=
  ⟨hb, fun j x n F e => hf.get e, (fun j q e => by simp at e), (fun j x d e => hg.get e), (fun v φ e => by cases e), (fun j x n F e => by cases j <;> cases e), (fun j q e => by cases j <;> cases e), (fun j q e => by cases j <;> cases e), (fun j m e => by cases j <;> cases e), fun j m e => by cases j <;> cases e⟩
def M2sOk (P : Program) (w : World) (K : PySem.W.Frag) (mg : Str → Option Value) (base : Heap) (k : Nat) : List MF2 → Prop
  | [] => True
  | q :: qs => FnTm2 P w K mg base k q ∧ M2sOk P w K mg base k qs
theorem M2sOk.get {k : Nat} : ∀ {fs : List MF2} {j : Nat} {q : MF2}, M2sOk P w K mg base k fs → fs[j]? = some q → FnTm2 P w K mg base k q
  | [], j, q, _, e => by simp at e
  | q :: qs, 0, _, h, e => by
    simp only [List.getElem?_cons_zero, Option.some.injEq] at e
    subst e
    exact h.1
  | q :: qs, j + 1, _, h, e => M2sOk.get (j := j) h.2 (by simpa using e)
/-- operations of one's own put in -/
theorem gam_ops {k kc : Nat} {fs : List (Str × Nat × (List D → Option D))} {gs : List (Str × D)} {ms : List MF} {cl : ClM} {tc : List (Str × Nat × (CV → List D → Option D))} {fc : List FC} {lm : List LM} {fb : FB} {o : OPS} (G : GamOk P w K mg base k (@Gam.mk fs gs ms (@GX.mk cl tc fc lm kc fb ⟨[], [], [], []⟩))) (h : M2sOk P w K mg base k o.mf) :
    GamOk P w K mg base k (@Gam.mk fs gs ms (@GX.mk cl tc fc lm kc fb o)) :=
  ⟨G.blt, G.fn, G.mf, G.gl, G.cl, G.tc, G.fc, G.fb, G.lm, fun j q e => h.get e⟩
def spLaw (K : PySem.W.Frag) : Sp := fun vs H Q _ => ∃ (a : Addr) (ns : List Int), vs = [.ref a] ∧ ns.length ≤ 63 ∧ Fz K H a (ns.map V.int) ∧ LamX.Tabs Tb.T H ∧ ∀ H', Q (.bl true) H'
theorem rps_ints {N : Addr → Prop} {H : Hp} : ∀ ns : List Int, Rps K N H (ns.map D.int) (ns.map V.int) := Rps.of_ints
theorem law_sp {F : List D → Option D} (hF : ∀ ns : List Int, ns.length ≤ 63 → F [.fz (ns.map .int)] = some (.bl true)) : ∀ vs H Q E, spLaw K vs H Q E → spD K 1 F vs H Q E := by
  rintro vs H Q E ⟨a, ns, rfl, hl, hz, hT, q⟩
  refine ⟨[.fz (ns.map .int)], .bl true, hF ns hl, rfl, ?_, hT, fun v H' e r => ?_⟩
  · refine Rps.one ?_
    simp only [Rp]
    exact ⟨a, _, rfl, hz, rps_ints ns⟩
  · simp only [Sep, Rp] at r
    subst r
    exact q H'
theorem only_fz {H : Hp} {a : Addr} {vs : List V} (O : Only H) (h : SqL K H a vs) : Fz K H a vs := by
  rcases h with (h | h) | h
  · rcases O a with z | ⟨o, xs, z⟩
    · rw [h] at z; cases z
    · rw [h] at z; cases z
  · exact .inl h
  · exact .inr h
structure LawOk (P : Program) (K : PySem.W.Frag) (mg : Str → Option Value) (w : World) (k : Nat) (x : Str) (st : Stmt) : Prop where
  ex : ∃ (N : List Str) (m : Bool) (b : CSs) (Γ : Gam), FnScope N ["script"] (defScope st) ∧ (∀ base, K.In base → base.Ns mainGlobals mg → GamOk P w K mg base k Γ) ∧ 1 ≤ N.length ∧ Γ.ex.lm = [] ∧ chkSs Γ (defScope st) N b (defBody st) = true ∧
    ∀ ns : List Int, ns.length ≤ 63 → runF Γ m N.length b [.fz (ns.map .int)] = some (.bl true)
theorem law_fd {x : Str} {st : Stmt} {f fa : Addr} {fd : FuncData} {k : Nat} (d : Dfn K mg x ["script"] st f fd) (hfa : mg x = some (.ref fa))
    (hb : ∀ (s : Shared) (u : Value), BindsTo s fd ⟨[u], []⟩ [("script", u)]) (L : LawOk P K mg w k x st) :
    ∃ fd : FuncData, (∀ (s : Shared) (u : Value), BindsTo s fd ⟨[u], []⟩ [("script", u)]) ∧ ∀ base : Heap, K.In base → base.Ns mainGlobals mg → FnOk P w K mg base CX0 (k + 1) fa fd ["script"] (spLaw K) := by
  have e := hfa.symm.trans d.loc
  cases e
  obtain ⟨N, m, b, Γ, S, G, hl, he, hc, hr⟩ := L.ex
  exact ⟨fd, hb, fun base h1 h2 => (fn_ok d.fn S (G base h1 h2) hl hc (fun z => absurd he z)).imp (law_sp hr)⟩
end
end DD
namespace DD
open PySem L2 PyProof.Rows
/-- no tables -/
instance noTbl : Tbl := ⟨[]⟩
theorem walkD {l : PySem.W.OpenLaw} {k : Nat} {q : Program} {loose : List Str} {XP : (Str → Option Value) → Heap → Prop} {YP : World → Heap → Prop} {d : DefRec} {K : Params → PySem.W.Frag}
    (hn : l.most = some 63) (hdf : d.params.defaults = []) (hr : Room k callerA)
    (hY : ∀ (w : World) (h : Heap), YP w h → (K w.params).In h)
    (F : ∀ (w : World) (mg : Str → Option Value) (fa : Addr) (h : Heap), (K w.params).In h → h.Ns mainGlobals mg → mg d.name = some (.ref fa) →
      ∃ fd : FuncData, (∀ (s : Shared) (u : Value), BindsTo s fd ⟨[u], []⟩ [("script", u)]) ∧ ∀ base : Heap, (K w.params).In base → base.Ns mainGlobals mg → FnOk l.prog w (K w.params) mg base CX0 k fa fd ["script"] (spLaw (K w.params))) :
    PySem.W.WalkO q loose XP YP l.row.toRowW d [] (fun f vs => PySem.call f vs) :=
  L2.walk_of (n := 63) (k := k) (x := "script") (CX := fun _ => CX0) (sp := fun w => spLaw (K w.params)) hn (by decide) hdf hr hY F (fun _ _ a ns hl O hS => ⟨a, ns, rfl, hl, only_fz O hS, (fun p hp => by cases hp), fun _ => rfl⟩) fun _ _ _ _ _ z => z
end DD
set_option Elab.async false
set_option linter.all false
set_option maxRecDepth 100000
set_option maxHeartbeats 4000000
namespace DD
open PySem L2
def nxO (o : Out) (g : Rho → Option Out) : Option Out := match o with
  | .nx ρ2 => g ρ2
  | .rt r => some (.rt r)
  | .rp r i => some (.rp r i)
  | .rq r d => some (.rq r d)
@[simp] theorem nxO_rq {ρ : Rho} {d : D} {g : Rho → Option Out} : nxO (.rq ρ d) g = some (.rq ρ d) := rfl
@[simp] theorem nxO_nx {ρ : Rho} {g : Rho → Option Out} : nxO (.nx ρ) g = g ρ := rfl
@[simp] theorem nxO_rp {ρ : Rho} {i : Nat} {g : Rho → Option Out} : nxO (.rp ρ i) g = some (.rp ρ i) := rfl
@[simp] theorem nxO_rt {d : D} {g : Rho → Option Out} : nxO (.rt d) g = some (.rt d) := rfl
def outR : Option Out → Option D
  | some (.nx _) => some .non
  | some (.rt d) => some d
  | _ => none
/-- what a def that changes its argument p leaves there -/
def outM (p : Nat) (rp : Bool) : Option Out → Option D
  | some (.nx ρ) => if rp then none else ownI ρ p
  | some (.rp ρ i) => if i = p then ownI ρ p else none
  | _ => none
@[simp] theorem outM_nx {p : Nat} {ρ : Rho} : outM p false (some (.nx ρ)) = ownI ρ p := rfl
@[simp] theorem outM_rp {p : Nat} {rp : Bool} {ρ : Rho} : outM p rp (some (.rp ρ p)) = ownI ρ p := by simp only [outM, if_true]
/-- what a def that changes its arguments ps leaves there and tells -/
def outQ (ps : List Nat) : Option Out → Option (List D × D)
  | some (.rq ρ d) => (ownIs ρ ps).map fun es => (es, d)
  | _ => none
@[simp] theorem outQ_rq {ps : List Nat} {ρ : Rho} {d : D} : outQ ps (some (.rq ρ d)) = (ownIs ρ ps).map fun es => (es, d) := rfl
@[simp] theorem outR_nx {ρ : Rho} : outR (some (.nx ρ)) = some .non := rfl
@[simp] theorem outR_rt {d : D} : outR (some (.rt d)) = some d := rfl
section
variable {Γ : Gam} {m : Bool}
theorem run_eq {n : Nat} {b : CSs} {ds : List D} (h : m = true → immL ds = true) : runF Γ m n b ds = outR (exs Γ m b (ds.map (fun d => some (.sh d)) ++ List.replicate (n - ds.length) none)) := by
  unfold runF
  have : (m && !immL ds) = false := by
    cases m
    · rfl
    · rw [h rfl]; rfl
  rw [this]
  simp only [Bool.false_eq_true, if_false]
  generalize exs Γ m b _ = o
  cases o with
  | none => rfl
  | some o => cases o <;> rfl
@[simp] theorem xs_nil {ρ : Rho} : exs Γ m .nil ρ = some (.nx ρ) := by simp only [exs]
@[simp] theorem xs_cons {s : CS} {ss : CSs} {ρ : Rho} : exs Γ m (.cons s ss) ρ = (ex Γ m s ρ).bind fun o => nxO o (exs Γ m ss) := by
  simp only [exs, Option.bind_eq_bind]
  cases ex Γ m s ρ with
  | none => rfl
  | some o => cases o <;> rfl
@[simp] theorem xs_frz {i : Nat} {ss : CSs} {ρ : Rho} : exs Γ m (.frz i ss) ρ = exs Γ m ss (frzR ρ i) := by simp only [exs]
end
section
variable {Γ : Gam} {m : Bool} {x : Rho} {a b c e : CE} {as : CAs} {i j k n : Nat}
def negD : D → Option (Fl × D) | .int i => some (.fr, .int (-i)) | _ => none
def isND (n : Bool) : D → Bool | .non => !n | _ => n
def isBD (n b : Bool) : D → Option (Fl × D) | .bl c => some (.fr, .bl (if n then !decide (c = b) else decide (c = b))) | _ => none
def revD : D → Option (Fl × D) | .lst ds => some (.fr, .lst ds.reverse) | .tup ds => some (.fr, .tup ds.reverse) | _ => none
def intD : D → Option (Option Int) | .int i => some (some i) | _ => none
@[simp] theorem negD_int {i : Int} : negD (.int i) = some (.fr, .int (-i)) := rfl
@[simp] theorem isND_non {n : Bool} : isND n .non = !n := rfl
@[simp] theorem isND_bl {n c : Bool} : isND n (.bl c) = n := rfl
@[simp] theorem isND_int {n : Bool} {i : Int} : isND n (.int i) = n := rfl
@[simp] theorem isND_str {n : Bool} {i : Str} : isND n (.str i) = n := rfl
@[simp] theorem isND_tup {n : Bool} {ds : List D} : isND n (.tup ds) = n := rfl
@[simp] theorem isND_lst {n : Bool} {ds : List D} : isND n (.lst ds) = n := rfl
@[simp] theorem isBD_bl {n b c : Bool} : isBD n b (.bl c) = some (.fr, .bl (if n then !decide (c = b) else decide (c = b))) := rfl
@[simp] theorem revD_lst {ds : List D} : revD (.lst ds) = some (.fr, .lst ds.reverse) := rfl
@[simp] theorem revD_tup {ds : List D} : revD (.tup ds) = some (.fr, .tup ds.reverse) := rfl
@[simp] theorem intD_int {i : Int} : intD (.int i) = some (some i) := rfl
@[simp] theorem v_var : ev Γ (.var i) x = varS x[i]? := by simp only [ev]
@[simp] theorem v_glob : ev Γ (.glob k) x = ofD (Γ.gl[k]?.map (·.2)) := by simp only [ev]
@[simp] theorem v_non : ev Γ .non x = some (.fr, .non) := by simp only [ev]
@[simp] theorem v_bl {b : Bool} : ev Γ (.bl b) x = some (.fr, .bl b) := by simp only [ev]
@[simp] theorem v_int {i : Int} : ev Γ (.int i) x = some (.fr, .int i) := by simp only [ev]
@[simp] theorem v_str {i : Str} : ev Γ (.str i) x = some (.fr, .str i) := by simp only [ev]
@[simp] theorem v_bin {k : BinK} : ev Γ (.bin k a b) x = (ev Γ a x).bind fun p => (ev Γ b x).bind fun q => ofD (dBin k p.2 q.2) := by simp only [ev, Option.bind_eq_bind]
@[simp] theorem v_neg : ev Γ (.neg a) x = (ev Γ a x).bind fun p => negD p.2 := by
  rw [ev]; cases ev Γ a x with
  | none => rfl
  | some p => obtain ⟨f, d⟩ := p; cases d <;> rfl
@[simp] theorem v_cmp {k : CmpK} : ev Γ (.cmp k a b) x = (ev Γ a x).bind fun p => (ev Γ b x).bind fun q => ofB (dCmp k p.2 q.2) := by simp only [ev, Option.bind_eq_bind]
@[simp] theorem v_cmp2 {k k' : CmpK} : ev Γ (.cmp2 k k' a b c) x = (ev Γ a x).bind fun p => (ev Γ b x).bind fun q => (dCmp k p.2 q.2).bind fun u => if u = true then (ev Γ c x).bind fun z => ofB (dCmp k' q.2 z.2) else some (.fr, .bl false) := by simp only [ev, Option.bind_eq_bind] <;> rfl
@[simp] theorem v_isN {n : Bool} : ev Γ (.isN n a) x = (ev Γ a x).bind fun p => some (.fr, .bl (isND n p.2)) := by
  rw [ev]; cases ev Γ a x with
  | none => rfl
  | some p => obtain ⟨f, d⟩ := p; cases d <;> rfl
@[simp] theorem v_isB {n b : Bool} : ev Γ (.isB n b a) x = (ev Γ a x).bind fun p => isBD n b p.2 := by
  rw [ev]; cases ev Γ a x with
  | none => rfl
  | some p => obtain ⟨f, d⟩ := p; cases d <;> rfl
@[simp] theorem v_and : ev Γ (.and a b) x = (toB (ev Γ a x)).bind fun p => if p = true then ev Γ b x else some (.fr, .bl false) := by simp only [ev, Option.bind_eq_bind] <;> rfl
@[simp] theorem v_or : ev Γ (.or a b) x = (toB (ev Γ a x)).bind fun p => if p = true then some (.fr, .bl true) else ev Γ b x := by simp only [ev, Option.bind_eq_bind] <;> rfl
@[simp] theorem v_not : ev Γ (.not a) x = (toB (ev Γ a x)).bind fun p => some (.fr, .bl (!p)) := by simp only [ev, Option.bind_eq_bind] <;> rfl
@[simp] theorem v_tup : ev Γ (.tup as) x = (evs Γ as x).bind fun rs => if (allShb rs && decide (rs.length ≤ lim)) = true then some (.fr, .tup (rs.map (·.2))) else none := by simp only [ev, Option.bind_eq_bind]
@[simp] theorem v_lst : ev Γ (.lst as) x = (evs Γ as x).bind fun rs => if (allShb rs && decide (rs.length ≤ lim)) = true then some (.fr, .lst (rs.map (·.2))) else none := by simp only [ev, Option.bind_eq_bind]
@[simp] theorem v_dnil : ev Γ .dnil x = some (.fr, .dic [] []) := by simp only [ev]
@[simp] theorem v_ix : ev Γ (.ix a b) x = (ev Γ a x).bind fun p => (ev Γ b x).bind fun q => (dIx p.2 q.2).map fun d => (.sh, d) := by simp only [ev, Option.bind_eq_bind]
@[simp] theorem v_sl {lo hi : CO} : ev Γ (.sl a lo hi) x = (ev Γ a x).bind fun p => (evo Γ lo x).bind fun l => (evo Γ hi x).bind fun h => ofD (dSl p.2 l h) := by simp only [ev, Option.bind_eq_bind]
@[simp] theorem v_bi {b : BI} : ev Γ (.bi b as) x = (evs Γ as x).bind fun rs => ofD (dBI b (rs.map (·.2))) := by simp only [ev, Option.bind_eq_bind]
@[simp] theorem v_isi {T : String} : ev Γ (.isi T a) x = (ev Γ a x).bind fun p => ofB (dIsi T p.2) := by simp only [ev, Option.bind_eq_bind]
@[simp] theorem v_isi2 {T U : String} : ev Γ (.isi2 T U a) x = (ev Γ a x).bind fun p => (dIsi T p.2).bind fun b => if b = true then some (.fr, .bl true) else ofB (dIsi U p.2) := by simp only [ev, Option.bind_eq_bind] <;> rfl
@[simp] theorem v_call {f : Nat} : ev Γ (.call f as) x = (evs Γ as x).bind fun rs => (Γ.fn[f]?).bind fun F => if rs.length = F.2.1 then ofD (F.2.2 (rs.map (·.2))) else none := by simp only [ev, Option.bind_eq_bind]
@[simp] theorem v_lrev : ev Γ (.lrev a) x = (ev Γ a x).bind fun p => revD p.2 := by
  rw [ev]; cases ev Γ a x with
  | none => rfl
  | some p => obtain ⟨f, d⟩ := p; cases d <;> rfl
def rvL : D → Option (Fl × D) | .lst ds => some (.fr, .lst ds.reverse) | _ => none
@[simp] theorem rvL_lst {ds : List D} : rvL (.lst ds) = some (.fr, .lst ds.reverse) := rfl
@[simp] theorem v_mcl {f : Nat} : ev Γ (.mcl f as) x = (evs Γ as x).bind fun rs => (Γ.mf[f]?).bind fun q => mclR q rs := by simp only [ev, Option.bind_eq_bind]
@[simp] theorem v_lrv : ev Γ (.lrv a) x = (ev Γ a x).bind fun p => rvL p.2 := by
  rw [ev]; cases ev Γ a x with
  | none => rfl
  | some p => obtain ⟨f, d⟩ := p; cases d <;> rfl
@[simp] theorem v_srt : ev Γ (.srt a) x = (ev Γ a x).bind fun p => ofD (dSrt p.2) := by simp only [ev, Option.bind_eq_bind]
@[simp] theorem v_dget1 : ev Γ (.dget1 a b) x = (ev Γ a x).bind fun p => (ev Γ b x).bind fun q => (dGet p.2 q.2).map fun o => (.sh, o.getD .non) := by simp only [ev, Option.bind_eq_bind]
@[simp] theorem v_dget2 : ev Γ (.dget2 a b c) x = (ev Γ a x).bind fun p => (ev Γ b x).bind fun q => (ev Γ c x).bind fun z => if shb z.1 z.2 = true then (dGet p.2 q.2).map fun o => (.sh, o.getD z.2) else none := by simp only [ev, Option.bind_eq_bind]
@[simp] theorem v_app : ev Γ (.app i as) x = (cloS x[i]?).bind fun v => (evs Γ as x).bind fun rs => (Γ.ex.cl v).bind fun φ => ofD (φ (rs.map (·.2))) := by simp only [ev, Option.bind_eq_bind]
@[simp] theorem v_callC : ev Γ (.callC k i as) x = (cloS x[i]?).bind fun v => (evs Γ as x).bind fun rs => (Γ.ex.tc[k]?).bind fun q => if rs.length + 1 = q.2.1 then ofD (q.2.2 v (rs.map (·.2))) else none := by simp only [ev, Option.bind_eq_bind]
@[simp] theorem v_callL {l : Nat} {cap : List Nat} : ev Γ (.callL k l cap as) x = (capD x cap).bind fun ds => (evs Γ as x).bind fun rs => (Γ.ex.fc[k]?).bind fun q => (Γ.ex.lm[l]?).bind fun m => if rs.length + 1 = q.n then ofD (callLR q m ds (rs.map (·.2))) else none := by simp only [ev, Option.bind_eq_bind]
@[simp] theorem v_callL1 {l : Nat} {cap : List Nat} : ev Γ (.callL1 k l cap i as) x = (shS x[i]?).bind fun d0 => (capD x cap).bind fun ds => (evs Γ as x).bind fun rs => (Γ.ex.fb.l[k]?).bind fun q => (Γ.ex.lm[l]?).bind fun m => if rs.length + 2 = q.n then ofD (callLR q m ds (d0 :: rs.map (·.2))) else none := by simp only [ev, Option.bind_eq_bind]
@[simp] theorem v_op {k : Nat} : ev Γ (.op k as) x = (evs Γ as x).bind fun rs => (Γ.ex.ops.op[k]?).bind fun q => q.F rs := by simp only [ev, Option.bind_eq_bind]
@[simp] theorem v_meth {k i : Nat} : ev Γ (.meth k i as) x = (shS x[i]?).bind fun d0 => (evs Γ as x).bind fun rs => (Γ.ex.ops.mf[k]?).bind fun q => methR q d0 rs := by simp only [ev, Option.bind_eq_bind]
@[simp] theorem vi_op {k : Nat} : evi Γ (.op k c) x = (ev Γ c x).bind fun r => (Γ.ex.ops.it[k]?).bind fun q => q.F r := by simp only [evi, Option.bind_eq_bind]
@[simp] theorem shS_sh {d : D} : shS (some (some (.sh d))) = some d := rfl
@[simp] theorem cloS_cl {v : CV} : cloS (some (some (.cl v))) = some v := rfl
@[simp] theorem capD_nil : capD x [] = some [] := rfl
@[simp] theorem capD_cons {is : List Nat} : capD x (i :: is) = match x[i]? with | some (some (.sh d)) => (capD x is).map (d :: ·) | _ => none := rfl
@[simp] theorem vs_nil : evs Γ .nil x = some [] := by simp only [evs]
@[simp] theorem vs_cons : evs Γ (.cons c as) x = (ev Γ c x).bind fun p => (evs Γ as x).bind fun ps => some (p :: ps) := by simp only [evs, Option.bind_eq_bind]
@[simp] theorem vo_none : evo Γ .none x = some none := by simp only [evo]
@[simp] theorem vo_some : evo Γ (.some c) x = (ev Γ c x).bind fun p => intD p.2 := by
  rw [evo]; cases ev Γ c x with
  | none => rfl
  | some p => obtain ⟨f, d⟩ := p; cases d <;> rfl
@[simp] theorem vi_val : evi Γ (.val c) x = (ev Γ c x).bind itemsOf := by simp only [evi, Option.bind_eq_bind]
theorem vi_rng1 : evi Γ (.rng1 a) x = (ev Γ a x).bind fun p => (rng1Of p.2).map fun ds => (false, ds) := by simp only [evi, Option.bind_eq_bind]
theorem vi_rng2 : evi Γ (.rng2 a b) x = (ev Γ a x).bind fun p => (ev Γ b x).bind fun q => (rng2Of p.2 q.2).map fun ds => (false, ds) := by simp only [evi, Option.bind_eq_bind]
@[simp] theorem vi_enum : evi Γ (.enum c) x = (ev Γ c x).bind enumOf := by simp only [evi, Option.bind_eq_bind]
@[simp] theorem vi_zip : evi Γ (.zip a b) x = (ev Γ a x).bind fun p => (ev Γ b x).bind fun q => zipOf p q := by simp only [evi, Option.bind_eq_bind]
@[simp] theorem x_set : ex Γ m (.set i e) x = (ev Γ e x).bind fun r => (assignR x i r).map .nx := by simp only [ex, Option.bind_eq_bind]
@[simp] theorem x_unp {is : List Nat} : ex Γ m (.unp is e) x = (ev Γ e x).bind fun r => if shb r.1 r.2 = true then (bindT (.tp is) r.2 x).map .nx else none := by simp only [ex, Option.bind_eq_bind]
@[simp] theorem x_mv : ex Γ m (.mv i j) x = mvR x i j := by simp only [ex]
@[simp] theorem x_app : ex Γ m (.app i e) x = (ev Γ e x).bind fun r => appR x i r := by simp only [ex, Option.bind_eq_bind]
@[simp] theorem x_ext : ex Γ m (.ext i e) x = (ev Γ e x).bind fun r => extR x i r := by simp only [ex, Option.bind_eq_bind]
@[simp] theorem x_pop : ex Γ m (.pop i j) x = popR x i j := by simp only [ex]
@[simp] theorem x_clr : ex Γ m (.clr i) x = clrR x i := by simp only [ex]
@[simp] theorem x_sto : ex Γ m (.sto i c e) x = (ev Γ e x).bind fun r => (ev Γ c x).bind fun q => stoR x i q r := by simp only [ex, Option.bind_eq_bind]
@[simp] theorem x_drop : ex Γ m (.drop e) x = (ev Γ e x).bind fun _ => some (.nx x) := by simp only [ex, Option.bind_eq_bind]
@[simp] theorem x_ite {p q : CSs} : ex Γ m (.ite c p q) x = (toB (ev Γ c x)).bind fun u => if u = true then exs Γ m p x else exs Γ m q x := by simp only [ex, Option.bind_eq_bind]
@[simp] theorem x_for {t : Tg} {it : CI} {p : CSs} : ex Γ m (.fors t it p) x = (evi Γ it x).bind fun ds => if ds.1 = true then none else forGo t (exs Γ m p) ds.2 x := by simp only [ex, Option.bind_eq_bind]
@[simp] theorem x_whl {p : CSs} : ex Γ m (.whl n c p) x = whlGo (fun y => toB (ev Γ c y)) (exs Γ m p) n x := by simp only [ex]
@[simp] theorem x_ret : ex Γ m (.ret e) x = (ev Γ e x).bind fun r => retR m r := by simp only [ex, Option.bind_eq_bind]
@[simp] theorem x_retN : ex Γ m .retN x = some (.rt .non) := by simp only [ex]
@[simp] theorem x_retQ : ex Γ m (.retQ e) x = (ev Γ e x).bind fun r => retQR x r := by simp only [ex, Option.bind_eq_bind]
@[simp] theorem x_op {is ws : List Nat} : ex Γ m (.op k is ws as) x = (Γ.ex.ops.st[k]?).bind fun q => (q.F is ws (evL Γ as) x).map .nx := by simp only [ex, Option.bind_eq_bind]
@[simp] theorem seq_ev : seqF (evL Γ as) x = evs Γ as x := by rw [evs_seq]
@[simp] theorem x_mcs {t : Nat} {is : List Nat} {f : Nat} : ex Γ m (.mcs t is f as) x = (evs Γ as x).bind fun rs => (Γ.ex.ops.mf[f]?).bind fun q => mcsR x t is q rs := by simp only [ex, Option.bind_eq_bind]
@[simp] theorem x_retP : ex Γ m (.retP i) x = retPR x i := by simp only [ex]
@[simp] theorem x_mc : ex Γ m (.mc i j as) x = (evs Γ as x).bind fun rs => (Γ.mf[j]?).bind fun q => mcR x i q rs := by simp only [ex, Option.bind_eq_bind]
end
@[simp] theorem setS_eq {ρ : Rho} {i : Nat} {s : Sl} : setS ρ i s = ρ.set i (some s) := rfl
@[simp] theorem setSs_cons {ρ : Rho} {i : Nat} {is : List Nat} {d : D} {ds : List D} : setSs ρ (i :: is) (d :: ds) = setSs (ρ.set i (some (.sh d))) is ds := rfl
@[simp] theorem setSs_nil {ρ : Rho} {ds : List D} : setSs ρ [] ds = ρ := by cases ds <;> rfl
@[simp] theorem wipeR_nil {ρ : Rho} : wipeR ρ [] = ρ := rfl
@[simp] theorem wipeR_cons {ρ : Rho} {v : Nat} {vs : List Nat} : wipeR ρ (v :: vs) = (wipeR ρ vs).set v none := rfl
@[simp] theorem bind_nm {i : Nat} {d : D} {ρ : Rho} : bindT (.nm i) d ρ = some (ρ.set i (some (.sh d))) := rfl
@[simp] theorem bind_tp {is : List Nat} {ds : List D} {ρ : Rho} : bindT (.tp is) (.tup ds) ρ = if is.length = ds.length then some (setSs ρ is ds) else none := rfl
@[simp] theorem bind_tpL {is : List Nat} {ds : List D} {ρ : Rho} : bindT (.tp is) (.lst ds) ρ = if is.length = ds.length then some (setSs ρ is ds) else none := rfl
@[simp] theorem toB_some {f : Fl} {b : Bool} : toB (some (f, .bl b)) = some b := rfl
@[simp] theorem toB_ofB {b : Bool} : toB (ofB (some b)) = some b := rfl
@[simp] theorem ofB_some {b : Bool} : ofB (some b) = some (.fr, .bl b) := rfl
@[simp] theorem ofD_some {d : D} : ofD (some d) = some (.fr, d) := rfl
@[simp] theorem varS_sh {d : D} : varS (some (some (.sh d))) = some (.sh, d) := rfl
@[simp] theorem varS_ow {d : D} : varS (some (some (.ow d))) = some (.bo, d) := rfl
@[simp] theorem natCast_eq {m n : Nat} : ((m : Int) = (n : Int)) = (m = n) := propext Int.natCast_inj
@[simp] theorem immL_nil : immL [] = true := by simp only [immL]
@[simp] theorem immL_cons {d : D} {ds : List D} : immL (d :: ds) = (imm d && immL ds) := by simp only [immL]
@[simp] theorem im_non : imm .non = true := by simp only [imm]
@[simp] theorem im_bl {b : Bool} : imm (.bl b) = true := by simp only [imm]
@[simp] theorem im_int {i : Int} : imm (.int i) = true := by simp only [imm]
@[simp] theorem im_str {x : Str} : imm (.str x) = true := by simp only [imm]
@[simp] theorem im_tup {ds : List D} : imm (.tup ds) = immL ds := by simp only [imm]
@[simp] theorem im_fz {ds : List D} : imm (.fz ds) = immL ds := by simp only [imm]
@[simp] theorem im_lst {ds : List D} : imm (.lst ds) = false := by simp only [imm]
@[simp] theorem ie_lst {ds : List D} : immE (.lst ds) = immL ds := by simp only [immE]
@[simp] theorem mu_non : isMut .non = false := by simp only [isMut]
@[simp] theorem mu_bl {b : Bool} : isMut (.bl b) = false := by simp only [isMut]
@[simp] theorem mu_int {i : Int} : isMut (.int i) = false := by simp only [isMut]
@[simp] theorem mu_str {x : Str} : isMut (.str x) = false := by simp only [isMut]
@[simp] theorem mu_tup {ds : List D} : isMut (.tup ds) = false := by simp only [isMut]
@[simp] theorem mu_fz {ds : List D} : isMut (.fz ds) = false := by simp only [isMut]
@[simp] theorem mu_fd {ks : List Key} {ds : List D} : isMut (.fd ks ds) = false := by simp only [isMut]
@[simp] theorem mu_dk {C q : Addr} {ks : List Key} {ds : List D} : isMut (.dk C q ks ds) = false := by simp only [isMut]
@[simp] theorem mu_lst {ds : List D} : isMut (.lst ds) = true := by simp only [isMut]
@[simp] theorem mu_dic {ks : List Key} {ds : List D} : isMut (.dic ks ds) = true := by simp only [isMut]
@[simp] theorem ret_imm {m : Bool} {f : Fl} {d : D} (h1 : isMut d = false) (h2 : imm d = true) : retR m (f, d) = some (.rt d) := by
  unfold retR retOk; simp [h1, h2]
@[simp] theorem ret_lst {m : Bool} {ds : List D} (h : immL ds = true) : retR m (.fr, .lst ds) = some (.rt (.lst ds)) := by
  unfold retR retOk; simp [h]
@[simp] theorem ret_lsts {ds : List D} (h : immL ds = true) : retR true (.sh, .lst ds) = some (.rt (.lst ds)) := by
  unfold retR retOk; simp [h]
@[simp] theorem ret_lstb {m : Bool} {ds : List D} (h : immL ds = true) : retR m (.bo, .lst ds) = some (.rt (.lst ds)) := by
  unfold retR retOk; simp [h]
@[simp] theorem asg_fr {ρ : Rho} {i : Nat} {ds : List D} : assignR ρ i (.fr, .lst ds) = some (ρ.set i (some (.ow (.lst ds)))) := rfl
@[simp] theorem asg_sh {ρ : Rho} {i : Nat} {ds : List D} : assignR ρ i (.sh, .lst ds) = some (ρ.set i (some (.sh (.lst ds)))) := rfl
@[simp] theorem asg_dic {ρ : Rho} {i : Nat} {ks : List Key} {ds : List D} : assignR ρ i (.fr, .dic ks ds) = some (ρ.set i (some (.ow (.dic ks ds)))) := rfl
@[simp] theorem asg_d {ρ : Rho} {i : Nat} {f : Fl} {d : D} (h : isMut d = false) : assignR ρ i (f, d) = some (ρ.set i (some (.sh d))) := by
  unfold assignR; simp [h]
@[simp] theorem asg_int {ρ : Rho} {i : Nat} {f : Fl} {k : Int} : assignR ρ i (f, .int k) = some (ρ.set i (some (.sh (.int k)))) := rfl
@[simp] theorem asg_bl {ρ : Rho} {i : Nat} {f : Fl} {k : Bool} : assignR ρ i (f, .bl k) = some (ρ.set i (some (.sh (.bl k)))) := rfl
@[simp] theorem asg_tup {ρ : Rho} {i : Nat} {f : Fl} {k : List D} : assignR ρ i (f, .tup k) = some (ρ.set i (some (.sh (.tup k)))) := rfl
@[simp] theorem asg_non {ρ : Rho} {i : Nat} {f : Fl} : assignR ρ i (f, .non) = some (ρ.set i (some (.sh .non))) := rfl
@[simp] theorem asg_str {ρ : Rho} {i : Nat} {f : Fl} {x : Str} : assignR ρ i (f, .str x) = some (ρ.set i (some (.sh (.str x)))) := rfl
@[simp] theorem shb_fr {d : D} : shb .fr d = true := by simp [shb]
@[simp] theorem shb_sh {d : D} : shb .sh d = true := by simp [shb]
@[simp] theorem shb_im {f : Fl} {d : D} (h : isMut d = false) : shb f d = true := by unfold shb; simp [h]
@[simp] theorem allShb_nil : allShb [] = true := rfl
@[simp] theorem allShb_cons {r : Fl × D} {rs : List (Fl × D)} : allShb (r :: rs) = (shb r.1 r.2 && allShb rs) := rfl
section
variable {i j : Int}
@[simp] theorem d_add : dBin .add (.int i) (.int j) = some (.int (i + j)) := rfl
@[simp] theorem d_sub : dBin .sub (.int i) (.int j) = some (.int (i - j)) := rfl
@[simp] theorem d_band : dBin .band (.int i) (.int j) = some (.int (Builtin.bitAnd i j)) := rfl
@[simp] theorem d_bor : dBin .bor (.int i) (.int j) = some (.int (Builtin.bitOr i j)) := rfl
@[simp] theorem d_mod (h : 0 < j) : dBin .mod (.int i) (.int j) = some (.int (i % j)) := if_pos (dte.mpr h)
@[simp] theorem d_fdiv (h : 0 < j) (h2 : j < 1073741824) : dBin .fdiv (.int i) (.int j) = some (.int (i / j)) := if_pos (by rw [Bool.and_eq_true, dte, dte]; exact ⟨h, h2⟩)
@[simp] theorem d_mul (h : -(2 ^ 64) < i ∧ i < 2 ^ 64 ∨ -(2 ^ 64) < j ∧ j < 2 ^ 64) : dBin .mul (.int i) (.int j) = some (.int (i * j)) := if_pos (by rw [Bool.or_eq_true, Bool.and_eq_true, Bool.and_eq_true, dte, dte, dte, dte]; exact h)
theorem d_shl (h : 0 ≤ j) (h2 : j ≤ 1000000) (h3 : i.natAbs < 2 ^ 64) : dBin .shl (.int i) (.int j) = some (.int (i * 2 ^ j.toNat)) := if_pos (by rw [Bool.and_eq_true, Bool.and_eq_true, dte, dte, dte]; exact ⟨⟨h, h2⟩, h3⟩)
theorem d_pow (h : 0 ≤ j) (h2 : j ≤ 1000000) (h3 : i.natAbs < 2 ^ 64) : dBin .pow (.int i) (.int j) = some (.int (i ^ j.toNat)) := if_pos (by rw [Bool.and_eq_true, Bool.and_eq_true, dte, dte, dte]; exact ⟨⟨h, h2⟩, h3⟩)
theorem d_shr (h : 0 ≤ j) : dBin .shr (.int i) (.int j) = some (.int (i / 2 ^ j.toNat)) := if_pos (dte.mpr h)
@[simp] theorem d_pow2 : dBin .pow (.int 10) (.int 2) = some (.int 100) := by rw [d_pow (by decide) (by decide) (by decide)]; simp
@[simp] theorem d_pow3 : dBin .pow (.int 10) (.int 3) = some (.int 1000) := by rw [d_pow (by decide) (by decide) (by decide)]; simp
@[simp] theorem d_pow4 : dBin .pow (.int 10) (.int 4) = some (.int 10000) := by rw [d_pow (by decide) (by decide) (by decide)]; simp
@[simp] theorem d_pow6 : dBin .pow (.int 10) (.int 6) = some (.int 1000000) := by rw [d_pow (by decide) (by decide) (by decide)]; simp
@[simp] theorem d_pow9 : dBin .pow (.int 10) (.int 9) = some (.int 1000000000) := by rw [d_pow (by decide) (by decide) (by decide)]; simp
@[simp] theorem d_pow12 : dBin .pow (.int 10) (.int 12) = some (.int 1000000000000) := by rw [d_pow (by decide) (by decide) (by decide)]; simp
@[simp] theorem d_pow18 : dBin .pow (.int 10) (.int 18) = some (.int 1000000000000000000) := by rw [d_pow (by decide) (by decide) (by decide)]; simp
@[simp] theorem d_pow29 : dBin .pow (.int 10) (.int 29) = some (.int 100000000000000000000000000000) := by rw [d_pow (by decide) (by decide) (by decide)]; simp
@[simp] theorem d_pow30 : dBin .pow (.int 10) (.int 30) = some (.int 1000000000000000000000000000000) := by rw [d_pow (by decide) (by decide) (by decide)]; simp
@[simp] theorem d_pow59 : dBin .pow (.int 10) (.int 59) = some (.int 100000000000000000000000000000000000000000000000000000000000) := by rw [d_pow (by decide) (by decide) (by decide)]; simp
@[simp] theorem d_pow60 : dBin .pow (.int 10) (.int 60) = some (.int 1000000000000000000000000000000000000000000000000000000000000) := by rw [d_pow (by decide) (by decide) (by decide)]; simp
@[simp] theorem d_pow61 : dBin .pow (.int 10) (.int 61) = some (.int 10000000000000000000000000000000000000000000000000000000000000) := by rw [d_pow (by decide) (by decide) (by decide)]; simp
@[simp] theorem d_pow62 : dBin .pow (.int 10) (.int 62) = some (.int 100000000000000000000000000000000000000000000000000000000000000) := by rw [d_pow (by decide) (by decide) (by decide)]; simp
@[simp] theorem d_pow64 : dBin .pow (.int 10) (.int 64) = some (.int 10000000000000000000000000000000000000000000000000000000000000000) := by rw [d_pow (by decide) (by decide) (by decide)]; simp
@[simp] theorem d_lt : dCmp .lt (.int i) (.int j) = some (decide (i < j)) := rfl
@[simp] theorem d_le : dCmp .le (.int i) (.int j) = some (decide (i ≤ j)) := rfl
@[simp] theorem d_gt : dCmp .gt (.int i) (.int j) = some (decide (j < i)) := rfl
@[simp] theorem d_ge : dCmp .ge (.int i) (.int j) = some (decide (j ≤ i)) := rfl
@[simp] theorem d_eq : dCmp .eq (.int i) (.int j) = some (decide (i = j)) := rfl
@[simp] theorem d_ne : dCmp .ne (.int i) (.int j) = some (!decide (i = j)) := rfl
@[simp] theorem d_eqs {x y : Str} : dCmp .eq (.str x) (.str y) = some (decide (x = y)) := rfl
@[simp] theorem d_nes {x y : Str} : dCmp .ne (.str x) (.str y) = some (!decide (x = y)) := rfl
@[simp] theorem d_eqb {a b : Bool} : dCmp .eq (.bl a) (.bl b) = some (decide (a = b)) := by cases a <;> cases b <;> decide +kernel
@[simp] theorem d_neb {a b : Bool} : dCmp .ne (.bl a) (.bl b) = some (!decide (a = b)) := by cases a <;> cases b <;> decide +kernel
end
def isBl : D → Bool | .bl _ => true | _ => false
def isIt : D → Bool | .int _ => true | _ => false
def isSt : D → Bool | .str _ => true | _ => false
def isTp : D → Bool | .tup _ => true | _ => false
def isLs : D → Bool | .lst _ => true | .fz _ => true | _ => false
@[simp] theorem isBl_non : isBl .non = false := rfl
@[simp] theorem isBl_bl {b : Bool} : isBl (.bl b) = true := rfl
@[simp] theorem isBl_int {i : Int} : isBl (.int i) = false := rfl
@[simp] theorem isBl_str {x : Str} : isBl (.str x) = false := rfl
@[simp] theorem isBl_tup {ds : List D} : isBl (.tup ds) = false := rfl
@[simp] theorem isBl_lst {ds : List D} : isBl (.lst ds) = false := rfl
@[simp] theorem isBl_fz {ds : List D} : isBl (.fz ds) = false := rfl
@[simp] theorem isIt_non : isIt .non = false := rfl
@[simp] theorem isIt_bl {b : Bool} : isIt (.bl b) = false := rfl
@[simp] theorem isIt_int {i : Int} : isIt (.int i) = true := rfl
@[simp] theorem isIt_str {x : Str} : isIt (.str x) = false := rfl
@[simp] theorem isIt_tup {ds : List D} : isIt (.tup ds) = false := rfl
@[simp] theorem isIt_lst {ds : List D} : isIt (.lst ds) = false := rfl
@[simp] theorem isIt_fz {ds : List D} : isIt (.fz ds) = false := rfl
@[simp] theorem isSt_non : isSt .non = false := rfl
@[simp] theorem isSt_bl {b : Bool} : isSt (.bl b) = false := rfl
@[simp] theorem isSt_int {i : Int} : isSt (.int i) = false := rfl
@[simp] theorem isSt_str {x : Str} : isSt (.str x) = true := rfl
@[simp] theorem isSt_tup {ds : List D} : isSt (.tup ds) = false := rfl
@[simp] theorem isSt_lst {ds : List D} : isSt (.lst ds) = false := rfl
@[simp] theorem isSt_fz {ds : List D} : isSt (.fz ds) = false := rfl
@[simp] theorem isTp_non : isTp .non = false := rfl
@[simp] theorem isTp_bl {b : Bool} : isTp (.bl b) = false := rfl
@[simp] theorem isTp_int {i : Int} : isTp (.int i) = false := rfl
@[simp] theorem isTp_str {x : Str} : isTp (.str x) = false := rfl
@[simp] theorem isTp_tup {ds : List D} : isTp (.tup ds) = true := rfl
@[simp] theorem isTp_lst {ds : List D} : isTp (.lst ds) = false := rfl
@[simp] theorem isTp_fz {ds : List D} : isTp (.fz ds) = false := rfl
@[simp] theorem isLs_non : isLs .non = false := rfl
@[simp] theorem isLs_bl {b : Bool} : isLs (.bl b) = false := rfl
@[simp] theorem isLs_int {i : Int} : isLs (.int i) = false := rfl
@[simp] theorem isLs_str {x : Str} : isLs (.str x) = false := rfl
@[simp] theorem isLs_tup {ds : List D} : isLs (.tup ds) = false := rfl
@[simp] theorem isLs_lst {ds : List D} : isLs (.lst ds) = true := rfl
@[simp] theorem isLs_fz {ds : List D} : isLs (.fz ds) = true := rfl
@[simp] theorem isBl_dic {ks : List Key} {ds : List D} : isBl (.dic ks ds) = false := rfl
@[simp] theorem isBl_dit {ks : List (List Key)} {ds : List D} : isBl (.dit ks ds) = false := rfl
@[simp] theorem isBl_fd {ks : List Key} {ds : List D} : isBl (.fd ks ds) = false := rfl
@[simp] theorem isBl_dk {C q : Addr} {ks : List Key} {ds : List D} : isBl (.dk C q ks ds) = false := rfl
@[simp] theorem isIt_dic {ks : List Key} {ds : List D} : isIt (.dic ks ds) = false := rfl
@[simp] theorem isIt_dit {ks : List (List Key)} {ds : List D} : isIt (.dit ks ds) = false := rfl
@[simp] theorem isIt_fd {ks : List Key} {ds : List D} : isIt (.fd ks ds) = false := rfl
@[simp] theorem isIt_dk {C q : Addr} {ks : List Key} {ds : List D} : isIt (.dk C q ks ds) = false := rfl
@[simp] theorem isSt_dic {ks : List Key} {ds : List D} : isSt (.dic ks ds) = false := rfl
@[simp] theorem isSt_dit {ks : List (List Key)} {ds : List D} : isSt (.dit ks ds) = false := rfl
@[simp] theorem isSt_fd {ks : List Key} {ds : List D} : isSt (.fd ks ds) = false := rfl
@[simp] theorem isSt_dk {C q : Addr} {ks : List Key} {ds : List D} : isSt (.dk C q ks ds) = false := rfl
@[simp] theorem isTp_dic {ks : List Key} {ds : List D} : isTp (.dic ks ds) = false := rfl
@[simp] theorem isTp_dit {ks : List (List Key)} {ds : List D} : isTp (.dit ks ds) = false := rfl
@[simp] theorem isTp_fd {ks : List Key} {ds : List D} : isTp (.fd ks ds) = false := rfl
@[simp] theorem isTp_dk {C q : Addr} {ks : List Key} {ds : List D} : isTp (.dk C q ks ds) = false := rfl
@[simp] theorem isLs_dic {ks : List Key} {ds : List D} : isLs (.dic ks ds) = false := rfl
@[simp] theorem isLs_dit {ks : List (List Key)} {ds : List D} : isLs (.dit ks ds) = false := rfl
@[simp] theorem isLs_fd {ks : List Key} {ds : List D} : isLs (.fd ks ds) = false := rfl
@[simp] theorem isLs_dk {C q : Addr} {ks : List Key} {ds : List D} : isLs (.dk C q ks ds) = false := rfl
@[simp] theorem i_bool {d : D} : dIsi "bool" d = some (isBl d) := by
  cases d
  · show kitB "NoneType" "bool" = some false; decide +kernel
  · show kitB "bool" "bool" = some true; decide +kernel
  · show kitB "int" "bool" = some false; decide +kernel
  · show kitB "str" "bool" = some false; decide +kernel
  · show kitB "tuple" "bool" = some false; decide +kernel
  · show kitB "list" "bool" = some false; decide +kernel
  · show kitB "list" "bool" = some false; decide +kernel
  · show kitB "dict" "bool" = some false; decide +kernel
  · show kitB "dict" "bool" = some false; decide +kernel
  · show kitB "dict" "bool" = some false; decide +kernel
  · rfl
@[simp] theorem i_int {d : D} : dIsi "int" d = some (isIt d || isBl d) := by
  cases d
  · show kitB "NoneType" "int" = some false; decide +kernel
  · show kitB "bool" "int" = some true; decide +kernel
  · show kitB "int" "int" = some true; decide +kernel
  · show kitB "str" "int" = some false; decide +kernel
  · show kitB "tuple" "int" = some false; decide +kernel
  · show kitB "list" "int" = some false; decide +kernel
  · show kitB "list" "int" = some false; decide +kernel
  · show kitB "dict" "int" = some false; decide +kernel
  · show kitB "dict" "int" = some false; decide +kernel
  · show kitB "dict" "int" = some false; decide +kernel
  · rfl
@[simp] theorem i_str {d : D} : dIsi "str" d = some (isSt d) := by
  cases d
  · show kitB "NoneType" "str" = some false; decide +kernel
  · show kitB "bool" "str" = some false; decide +kernel
  · show kitB "int" "str" = some false; decide +kernel
  · show kitB "str" "str" = some true; decide +kernel
  · show kitB "tuple" "str" = some false; decide +kernel
  · show kitB "list" "str" = some false; decide +kernel
  · show kitB "list" "str" = some false; decide +kernel
  · show kitB "dict" "str" = some false; decide +kernel
  · show kitB "dict" "str" = some false; decide +kernel
  · show kitB "dict" "str" = some false; decide +kernel
  · rfl
@[simp] theorem i_tuple {d : D} : dIsi "tuple" d = some (isTp d) := by
  cases d
  · show kitB "NoneType" "tuple" = some false; decide +kernel
  · show kitB "bool" "tuple" = some false; decide +kernel
  · show kitB "int" "tuple" = some false; decide +kernel
  · show kitB "str" "tuple" = some false; decide +kernel
  · show kitB "tuple" "tuple" = some true; decide +kernel
  · show kitB "list" "tuple" = some false; decide +kernel
  · show kitB "list" "tuple" = some false; decide +kernel
  · show kitB "dict" "tuple" = some false; decide +kernel
  · show kitB "dict" "tuple" = some false; decide +kernel
  · show kitB "dict" "tuple" = some false; decide +kernel
  · rfl
@[simp] theorem i_list {d : D} : dIsi "list" d = some (isLs d) := by
  cases d
  · show kitB "NoneType" "list" = some false; decide +kernel
  · show kitB "bool" "list" = some false; decide +kernel
  · show kitB "int" "list" = some false; decide +kernel
  · show kitB "str" "list" = some false; decide +kernel
  · show kitB "tuple" "list" = some false; decide +kernel
  · show kitB "list" "list" = some true; decide +kernel
  · show kitB "list" "list" = some true; decide +kernel
  · show kitB "dict" "list" = some false; decide +kernel
  · show kitB "dict" "list" = some false; decide +kernel
  · show kitB "dict" "list" = some false; decide +kernel
  · rfl
theorem for_inv {α : Type} {t : Tg} {body : Rho → Option Out} {f : α → D} (I : List α → Rho → Prop) : ∀ (xs : List α) (pre : List α) (ρ : Rho), I pre ρ →
    (∀ p x q, pre ++ xs = p ++ x :: q → ∀ ρ, I p ρ → ∃ ρ1 ρ2, bindT t (f x) ρ = some ρ1 ∧ body ρ1 = some (.nx ρ2) ∧ I (p ++ [x]) ρ2) →
    ∃ ρ2, forGo t body (xs.map f) ρ = some (.nx ρ2) ∧ I (pre ++ xs) ρ2
  | [], pre, ρ, h, _ => ⟨ρ, rfl, by simpa using h⟩
  | x :: xs, pre, ρ, h, hs => by
    obtain ⟨ρ1, ρ2, h1, h2, h3⟩ := hs pre x xs rfl ρ h
    obtain ⟨ρ3, h4, h5⟩ := for_inv I xs (pre ++ [x]) ρ2 h3 (fun p y q e => hs p y q (by simpa using e))
    exact ⟨ρ3, by simp [List.map_cons, forGo, h1, h2, h4], by simpa using h5⟩
/-- a walk whose turns all go on -/
theorem for_go {α : Type} {t : Tg} {body : Rho → Option Out} {f : α → D} (xs : List α) {ρ : Rho} (I : List α → Rho → Prop) (h0 : I [] ρ)
    (hs : ∀ p x q, xs = p ++ x :: q → ∀ ρ, I p ρ → ∃ ρ1 ρ2, bindT t (f x) ρ = some ρ1 ∧ body ρ1 = some (.nx ρ2) ∧ I (p ++ [x]) ρ2) :
    ∃ ρ2, forGo t body (xs.map f) ρ = some (.nx ρ2) ∧ I xs ρ2 := by
  simpa using for_inv I xs [] ρ h0 (by simpa using hs)
/-- a walk that leaves the slots as they are, but for its own name -/
theorem for_keep {i : Nat} {body : Rho → Option Out} : ∀ (ds : List D) (ρ : Rho), (∀ d ∈ ds, body (ρ.set i (some (.sh d))) = some (.nx (ρ.set i (some (.sh d))))) → ∃ ρ2, forGo (.nm i) body ds ρ = some (.nx ρ2) ∧ (ρ2 = ρ ∨ ∃ v, ρ2 = ρ.set i v)
  | [], ρ, _ => ⟨ρ, rfl, .inl rfl⟩
  | d :: ds, ρ, h => by
    have h1 := h d List.mem_cons_self
    obtain ⟨ρ2, h2, h3⟩ := for_keep ds (ρ.set i (some (.sh d))) (fun x hx => by rw [List.set_set]; exact h x (List.mem_cons_of_mem _ hx))
    refine ⟨ρ2, ?_, ?_⟩
    · simp only [forGo, bindT, setS, Option.bind_eq_bind, Option.bind_some, h1]
      exact h2
    · rcases h3 with h3 | ⟨v, h3⟩
      · exact .inr ⟨_, h3⟩
      · exact .inr ⟨v, by rw [h3, List.set_set]⟩
@[simp] theorem forGo_nil {t : Tg} {body : Rho → Option Out} {ρ : Rho} : forGo t body [] ρ = some (.nx ρ) := rfl
theorem forGo_cons {t : Tg} {body : Rho → Option Out} {d : D} {ds : List D} {ρ : Rho} : forGo t body (d :: ds) ρ = (bindT t d ρ).bind fun ρ1 => (body ρ1).bind fun o => nxO o (forGo t body ds) := by
  simp only [forGo, Option.bind_eq_bind]
  cases bindT t d ρ with
  | none => rfl
  | some ρ1 =>
    simp only [Option.bind_some]
    cases body ρ1 with
    | none => rfl
    | some o => cases o <;> rfl
theorem lcGo_map {α : Type} {t : Tg} {c : Rho → Option Bool} {e : Rho → Option (Fl × D)} {ρ : Rho} {f : α → D} {g : α → D} {p : α → Bool} {ρ1 : α → Rho} : ∀ (xs : List α),
    (∀ x ∈ xs, bindT t (f x) ρ = some (ρ1 x) ∧ c (ρ1 x) = some (p x) ∧ (p x = true → ∃ r, e (ρ1 x) = some (r, g x) ∧ shb r (g x) = true)) →
    lcGo t c e ρ (xs.map f) = some ((xs.filter p).map g)
  | [], _ => rfl
  | x :: xs, h => by
    obtain ⟨h1, h2, h3⟩ := h x List.mem_cons_self
    have ih := lcGo_map xs (fun y hy => h y (List.mem_cons_of_mem _ hy))
    cases hp : p x with
    | false => simp [lcGo, h1, h2, hp, ih, List.filter_cons]
    | true =>
      obtain ⟨r, h4, h5⟩ := h3 hp
      simp [lcGo, h1, h2, hp, h4, h5, ih, List.filter_cons]
/-- a list comprehension -/
theorem ev_lcm {α : Type} {Γ : Gam} {own : List (Str × Nat)} {t : Tg} {it : CI} {c e : CE} {ρ : Rho} {b : Bool} {xs : List α} {f : α → D} (g : α → D) (p : α → Bool) (ρ1 : α → Rho) (h1 : evi Γ it ρ = some (b, xs.map f)) (h2 : xs.length ≤ lim)
    (h3 : noOwn ρ (own.map (·.2)) = true)
    (h4 : ∀ x ∈ xs, bindT t (f x) (wipeR ρ (own.map (·.2))) = some (ρ1 x) ∧ toB (ev Γ c (ρ1 x)) = some (p x) ∧ (p x = true → ∃ r, ev Γ e (ρ1 x) = some (r, g x) ∧ shb r (g x) = true)) :
    ev Γ (.lc own t it c e) ρ = some (.fr, .lst ((xs.filter p).map g)) := by
  have := lcGo_map (t := t) (c := fun ρ1 => toB (ev Γ c ρ1)) (e := fun ρ1 => ev Γ e ρ1) xs h4
  simp [ev, h1, h2, h3, this]
/-- the same without a test -/
theorem ev_lcy {α : Type} {Γ : Gam} {own : List (Str × Nat)} {t : Tg} {it : CI} {e : CE} {ρ : Rho} {b : Bool} {xs : List α} {f : α → D} (g : α → D) (ρ1 : α → Rho) (h1 : evi Γ it ρ = some (b, xs.map f)) (h2 : xs.length ≤ lim)
    (h3 : noOwn ρ (own.map (·.2)) = true)
    (h4 : ∀ x ∈ xs, bindT t (f x) (wipeR ρ (own.map (·.2))) = some (ρ1 x) ∧ ∃ r, ev Γ e (ρ1 x) = some (r, g x) ∧ shb r (g x) = true) :
    ev Γ (.lc own t it (.bl true) e) ρ = some (.fr, .lst (xs.map g)) := by
  have := ev_lcm (c := .bl true) g (fun _ => true) ρ1 h1 h2 h3 (fun x hx => ⟨(h4 x hx).1, by simp, fun _ => (h4 x hx).2⟩)
  rw [this]
  congr 3
  rw [List.filter_eq_self.mpr (fun _ _ => rfl)]
@[simp] theorem ups_zero {n : Nat} : ups 0 n = (List.range n).map fun (k : Nat) => D.int k := by
  unfold ups; congr 1; funext k; simp
theorem rng1_of {n : Nat} (h : n < 2 ^ 62) : rng1Of (.int n) = some ((List.range n).map fun (k : Nat) => D.int k) := by
  have : big62 (n : Int) = true := by unfold big62; rw [Bool.and_eq_true, dte, dte]; omega
  simp [rng1Of, this]
theorem rng1_small {n : Nat} (h : n ≤ 1000) : rng1Of (.int n) = some ((List.range n).map fun (k : Nat) => D.int k) := rng1_of (Nat.lt_of_le_of_lt h (by decide))
theorem evi_rng1 {Γ : Gam} {a : CE} {ρ : Rho} {f : Fl} {n : Nat} (h : ev Γ a ρ = some (f, .int n)) (hn : n ≤ 1000) : evi Γ (.rng1 a) ρ = some (false, (List.range n).map fun (k : Nat) => D.int k) := by
  rw [evi, h, Option.bind_eq_bind, Option.bind_some]
  dsimp only
  rw [rng1_small hn]
  rfl
@[simp] theorem lim_0 : (0 ≤ lim) = True := eq_true (by decide)
@[simp] theorem lim_1 : (1 ≤ lim) = True := eq_true (by decide)
@[simp] theorem lim_2 : (2 ≤ lim) = True := eq_true (by decide)
@[simp] theorem lim_3 : (3 ≤ lim) = True := eq_true (by decide)
@[simp] theorem lim_4 : (4 ≤ lim) = True := eq_true (by decide)
@[simp] theorem lim_5 : (5 ≤ lim) = True := eq_true (by decide)
@[simp] theorem lim_6 : (6 ≤ lim) = True := eq_true (by decide)
@[simp] theorem lim_7 : (7 ≤ lim) = True := eq_true (by decide)
@[simp] theorem lim_8 : (8 ≤ lim) = True := eq_true (by decide)
@[simp] theorem lim_9 : (9 ≤ lim) = True := eq_true (by decide)
@[simp] theorem lim_10 : (10 ≤ lim) = True := eq_true (by decide)
@[simp] theorem lim_11 : (11 ≤ lim) = True := eq_true (by decide)
@[simp] theorem lim_12 : (12 ≤ lim) = True := eq_true (by decide)
@[simp] theorem lim_13 : (13 ≤ lim) = True := eq_true (by decide)
@[simp] theorem lim_14 : (14 ≤ lim) = True := eq_true (by decide)
@[simp] theorem lim_15 : (15 ≤ lim) = True := eq_true (by decide)
@[simp] theorem lim_16 : (16 ≤ lim) = True := eq_true (by decide)
@[simp] theorem lim_17 : (17 ≤ lim) = True := eq_true (by decide)
@[simp] theorem lim_18 : (18 ≤ lim) = True := eq_true (by decide)
@[simp] theorem lim_19 : (19 ≤ lim) = True := eq_true (by decide)
@[simp] theorem lim_20 : (20 ≤ lim) = True := eq_true (by decide)
@[simp] theorem lim_21 : (21 ≤ lim) = True := eq_true (by decide)
@[simp] theorem lim_22 : (22 ≤ lim) = True := eq_true (by decide)
@[simp] theorem lim_23 : (23 ≤ lim) = True := eq_true (by decide)
@[simp] theorem lim_24 : (24 ≤ lim) = True := eq_true (by decide)
@[simp] theorem lim_25 : (25 ≤ lim) = True := eq_true (by decide)
theorem lim_small {n : Nat} (h : n ≤ 1000) : n ≤ lim := Nat.le_trans h (by decide)
theorem lim_range {n : Nat} (h : n ≤ 1000) : (List.range n).length ≤ lim := by rw [List.length_range]; exact lim_small h
section
variable {ds : List D}
theorem ix_nat {d : D} {n : Nat} (h : ds[n]? = some d) (hl : ds.length ≤ lim := by simp [lim]) : atI ds (n : Int) = some d := by
  have hlt : n < ds.length := (List.getElem?_eq_some_iff.mp h).1
  unfold atI
  have e1 : ixN ds.length (n : Int) = some n := by
    unfold ixN
    simp; omega
  rw [e1]
  exact h
@[simp] theorem len_tup (h : ds.length ≤ lim) : dLen [.tup ds] = some (.int ds.length) := if_pos h
@[simp] theorem len_lst (h : ds.length ≤ lim) : dLen [.lst ds] = some (.int ds.length) := if_pos h
@[simp] theorem len_fz (h : ds.length ≤ lim) : dLen [.fz ds] = some (.int ds.length) := if_pos h
@[simp] theorem len_dic {ks : List Key} {ds : List D} : dLen [.dic ks ds] = some (.int ks.length) := rfl
@[simp] theorem bi_len {as : List D} : dBI .len as = dLen as := rfl
@[simp] theorem bi_abs {i : Int} : dBI .abs [.int i] = some (.int (if i < 0 then -i else i)) := rfl
@[simp] theorem bi_list {ds : List D} : dBI .list [.lst ds] = some (.lst ds) := rfl
@[simp] theorem bi_listT {ds : List D} : dBI .list [.tup ds] = some (.lst ds) := rfl
@[simp] theorem bi_tuple {ds : List D} : dBI .tuple [.lst ds] = some (.tup ds) := rfl
@[simp] theorem bi_min {i j : Int} : dBI .min [.int i, .int j] = some (.int (if j < i then j else i)) := rfl
@[simp] theorem bi_max {i j : Int} : dBI .max [.int i, .int j] = some (.int (if j > i then j else i)) := rfl
theorem intsOf_of (ns : List Int) : intsOf (ns.map D.int) = some ns := by
  induction ns with
  | nil => rfl
  | cons n ns ih => simp [intsOf, ih]
end
theorem immL_map {α : Type} {f : α → D} {xs : List α} (h : ∀ x ∈ xs, imm (f x) = true) : immL (xs.map f) = true := by
  rw [immL_iff]; intro d hd
  obtain ⟨x, hx, rfl⟩ := List.mem_map.mp hd
  exact h x hx
end DD
set_option Elab.async false
set_option linter.all false
set_option maxRecDepth 100000
set_option maxHeartbeats 4000000
namespace DD
open PySem L2
def b_is_whole : CSs := (.cons (.ret (.and (.isi "int" (.var 0)) (.not (.isi "bool" (.var 0)))))
  .nil)
noncomputable def G_is_whole : Gam := ⟨[], [], []⟩
noncomputable def R_is_whole : List D → Option D := runF G_is_whole false 1 b_is_whole
theorem r_is_whole (thing_ : D) : R_is_whole [thing_] = outR (exs G_is_whole false b_is_whole [some (.sh thing_)]) := run_eq (fun z => by cases z)
def n_has_hand : List Str := ["mask", "hand"]
def b_has_hand : CSs := (.cons (.ret (.cmp .eq (.bin .band (.bin .shr (.var 0) (.var 1)) (.int 1)) (.int 1)))
  .nil)
noncomputable def G_has_hand : Gam := ⟨[], [], []⟩
noncomputable def R_has_hand : List D → Option D := runF G_has_hand false 2 b_has_hand
theorem r_has_hand (mask_ hand_ : D) : R_has_hand [mask_, hand_] = outR (exs G_has_hand false b_has_hand [some (.sh mask_), some (.sh hand_)]) := run_eq (fun z => by cases z)
def l_mask_of_1 : CSs := (.cons (.set 1 (.bin .bor (.var 1) (.bin .shl (.int 1) (.var 2))))
  .nil)
def b_mask_of : CSs := (.cons (.set 1 (.int 0))
  (.cons (.fors (.nm 2) (.val (.var 0)) l_mask_of_1)
  (.cons (.ret (.var 1))
  .nil)))
noncomputable def G_mask_of : Gam := ⟨[], [], []⟩
noncomputable def R_mask_of : List D → Option D := runF G_mask_of false 3 b_mask_of
def c_hands_in_1 : CE := (.call 0 (.cons (.var 0) (.cons (.var 1) .nil)))
def e_hands_in_2 : CE := (.var 1)
def b_hands_in : CSs := (.cons (.ret (.lc [("hand", 1)] (.nm 1) (.rng1 (.glob 0)) c_hands_in_1 e_hands_in_2))
  .nil)
noncomputable def G_hands_in : Gam := ⟨[("has_hand", 2, R_has_hand)], [("MOST_HANDS", .int 5)], []⟩
@[simp] theorem gf_hands_in_0 : G_hands_in.fn[0]? = some (("has_hand" : Str), 2, R_has_hand) := rfl
@[simp] theorem gg_hands_in_0 : G_hands_in.gl[0]? = some (("MOST_HANDS" : Str), D.int 5) := rfl
noncomputable def R_hands_in : List D → Option D := runF G_hands_in false 2 b_hands_in
def n_law_cell_at : List Str := ["script", "k"]
def b_law_cell_at : CSs := (.cons (.ite (.cmp .lt (.var 1) (.bi .len (.cons (.var 0) .nil))) (.cons (.ret (.ix (.var 0) (.var 1)))
  .nil) .nil)
  (.cons (.ret (.int 0))
  .nil))
noncomputable def G_law_cell_at : Gam := ⟨[], [], []⟩
noncomputable def R_law_cell_at : List D → Option D := runF G_law_cell_at false 2 b_law_cell_at
theorem r_law_cell_at (script_ k_ : D) : R_law_cell_at [script_, k_] = outR (exs G_law_cell_at false b_law_cell_at [some (.sh script_), some (.sh k_)]) := run_eq (fun z => by cases z)
def l_law_same_1 : CSs := (.cons (.ite (.not (.call 0 (.cons (.var 2) (.cons (.var 3) .nil)))) (.cons (.ret (.bl false))
  .nil) .nil)
  .nil)
def b_law_same : CSs := (.cons (.ite (.isi2 "tuple" "list" (.var 1)) (.cons (.ite (.or (.not (.isi2 "tuple" "list" (.var 0))) (.cmp .ne (.isi "tuple" (.var 0)) (.isi "tuple" (.var 1)))) (.cons (.ret (.bl false))
  .nil) .nil)
  (.cons (.ite (.cmp .ne (.bi .len (.cons (.var 0) .nil)) (.bi .len (.cons (.var 1) .nil))) (.cons (.ret (.bl false))
  .nil) .nil)
  (.cons (.fors (.tp [2, 3]) (.zip (.var 0) (.var 1)) l_law_same_1)
  (.cons (.ret (.bl true))
  .nil)))) .nil)
  (.cons (.ite (.isN false (.var 1)) (.cons (.ret (.isN false (.var 0)))
  .nil) .nil)
  (.cons (.ite (.isi "bool" (.var 1)) (.cons (.ret (.and (.isi "bool" (.var 0)) (.cmp .eq (.var 0) (.var 1))))
  .nil) .nil)
  (.cons (.ite (.isi "int" (.var 1)) (.cons (.ret (.and (.isi "int" (.var 0)) (.and (.not (.isi "bool" (.var 0))) (.cmp .eq (.var 0) (.var 1)))))
  .nil) .nil)
  (.cons (.ret (.and (.isi "str" (.var 0)) (.cmp .eq (.var 0) (.var 1))))
  .nil)))))
noncomputable def G_law_same (f : List D → Option D) : Gam := ⟨[("_law_same", 2, f)], [], []⟩
@[simp] theorem gf_law_same_0 (f : List D → Option D) : (G_law_same f).fn[0]? = some (("_law_same" : Str), 2, f) := rfl
noncomputable def RB_law_same (f : List D → Option D) : List D → Option D := runF (G_law_same f) false 4 b_law_same
theorem r_law_same (f : List D → Option D) (found_ due_ : D) : RB_law_same f [found_, due_] = outR (exs (G_law_same f) false b_law_same [some (.sh found_), some (.sh due_), none, none]) := run_eq (fun z => by cases z)
noncomputable def RR_law_same : Nat → List D → Option D
  | 0 => fun _ => none
  | n + 1 => RB_law_same (RR_law_same n)
noncomputable def R_law_same : List D → Option D := RR_law_same 12
@[simp] theorem e_is_whole {d : D} : R_is_whole [d] = some (.bl (isIt d)) := by
  rw [r_is_whole]
  cases d <;> simp [b_is_whole]
theorem e_cell_at (ns : List Int) (hl : ns.length ≤ 63) (k : Nat) : R_law_cell_at [.fz (ns.map .int), .int k] = some (.int (ns.getD k 0)) := by
  have hl' : (ns.map D.int).length ≤ lim := by simp [lim]; omega
  rw [r_law_cell_at]
  by_cases h : k < ns.length
  · have e1 : dIx (.fz (ns.map .int)) (.int k) = some (.int (ns.getD k 0)) := by
      show atI _ _ = _
      refine ix_nat ?_ hl'
      rw [List.getElem?_map, List.getElem?_eq_getElem h]; simp [List.getElem?_eq_getElem h]
    simp [b_law_cell_at, len_fz hl', h, e1]
  · simp [b_law_cell_at, len_fz hl', h]
def mk (hs : List Nat) : Nat := hs.foldl (fun m h => m ||| 2 ^ h) 0
theorem has_b : ∀ m : Fin 32, ∀ h : Fin 5, decide (Builtin.bitAnd (((m.val : Nat) : Int) / 2 ^ h.val) 1 = 1) = m.val.testBit h.val := by decide +kernel
theorem e_has_hand {m h : Nat} (hm : m < 32) (hh : h < 5) : R_has_hand [.int m, .int h] = some (.bl (m.testBit h)) := by
  rw [r_has_hand]
  have := has_b ⟨m, hm⟩ ⟨h, hh⟩
  simp only [] at this
  simp [b_has_hand, d_shr (show (0 : Int) ≤ (h : Int) by omega), this]
mutual
def flat : Nat → D → Bool
  | _, .non => true | _, .bl _ => true | _, .int _ => true | _, .str _ => true
  | n + 1, .tup ds => decide (ds.length ≤ lim) && flats n ds
  | n + 1, .lst ds => decide (ds.length ≤ lim) && flats n ds
  | _, _ => false
def flats : Nat → List D → Bool
  | _, [] => true
  | n, d :: ds => flat n d && flats n ds
end
theorem flats_iff {n : Nat} : ∀ {ds : List D}, flats n ds = true ↔ ∀ d ∈ ds, flat n d = true
  | [] => by simp [flats]
  | d :: ds => by simp [flats, flats_iff (ds := ds)]
theorem zip2_self (ds : List D) : zip2 ds ds = ds.map fun d => .tup [d, d] := by
  unfold zip2
  induction ds with
  | nil => rfl
  | cons d ds ih => simp [ih]
theorem same_seq {f : List D → Option D} {ds : List D} {a b : D} (h : ∀ d ∈ ds, f [d, d] = some (.bl true)) : ∀ (v w : Option Sl), ∃ v' w', forGo (.tp [2, 3]) (exs (G_law_same f) false l_law_same_1) (ds.map fun d => .tup [d, d]) [some (.sh a), some (.sh b), v, w] = some (.nx [some (.sh a), some (.sh b), v', w']) := by
  induction ds with
  | nil => intro v w; exact ⟨v, w, rfl⟩
  | cons d ds ih =>
    intro v w
    obtain ⟨v', w', e⟩ := ih (fun x hx => h x (List.mem_cons_of_mem _ hx)) (some (.sh d)) (some (.sh d))
    refine ⟨v', w', ?_⟩
    rw [List.map_cons, forGo_cons]
    simp [l_law_same_1, h d List.mem_cons_self] at e ⊢
    exact e
theorem same_refl : ∀ (n : Nat) (d : D), flat n d = true → RR_law_same (n + 1) [d, d] = some (.bl true)
  | n, .non, _ => by simp [RR_law_same, r_law_same, b_law_same]
  | n, .bl b, _ => by simp [RR_law_same, r_law_same, b_law_same]
  | n, .int b, _ => by simp [RR_law_same, r_law_same, b_law_same]
  | n, .str b, _ => by simp [RR_law_same, r_law_same, b_law_same]
  | n + 1, .tup ds, h => by
    simp only [flat, Bool.and_eq_true, decide_eq_true_eq] at h
    obtain ⟨v, w, e⟩ := same_seq (f := RR_law_same (n + 1)) (ds := ds) (a := .tup ds) (b := .tup ds) (fun d hd => same_refl n d (flats_iff.mp h.2 d hd)) none none
    rw [RR_law_same]
    rw [r_law_same]
    simp [b_law_same, zipOf, zip2_self, e, len_tup h.1]
  | n + 1, .lst ds, h => by
    simp only [flat, Bool.and_eq_true, decide_eq_true_eq] at h
    obtain ⟨v, w, e⟩ := same_seq (f := RR_law_same (n + 1)) (ds := ds) (a := .lst ds) (b := .lst ds) (fun d hd => same_refl n d (flats_iff.mp h.2 d hd)) none none
    rw [RR_law_same]
    rw [r_law_same]
    simp [b_law_same, zipOf, zip2_self, e, len_lst h.1]
@[simp] theorem e_same_int {i : Int} : R_law_same [.int i, .int i] = some (.bl true) := same_refl 11 _ (by simp only [flat])
@[simp] theorem e_same_bl {i : Bool} : R_law_same [.bl i, .bl i] = some (.bl true) := same_refl 11 _ (by simp only [flat])
@[simp] theorem e_same_non : R_law_same [.non, .non] = some (.bl true) := same_refl 11 _ (by simp only [flat])
end DD
set_option Elab.async false
set_option linter.all false
set_option maxRecDepth 100000
set_option maxHeartbeats 4000000
namespace DD
open PySem L2
mutual
def plainD : Nat → D → Bool
  | _, .non => true | _, .bl _ => true | _, .int _ => true
  | n + 1, .tup ds => plainDs n ds
  | n + 1, .lst ds => plainDs n ds
  | n + 1, .fz ds => plainDs n ds
  | _, _ => false
def plainDs : Nat → List D → Bool
  | _, [] => true
  | n, d :: ds => plainD n d && plainDs n ds
end
theorem plainDs_iff {n : Nat} : ∀ {ds : List D}, plainDs n ds = true ↔ ∀ d ∈ ds, plainD n d = true
  | [] => by simp [plainDs]
  | d :: ds => by simp [plainDs, plainDs_iff (ds := ds)]
mutual
theorem plain_py : ∀ (n : Nat) (d : D), plainD n d = true → (toPy d).canLay0 = true ∧ (toPy d).depth ≤ n ∧ PyData.eqv (toPy d) (toPy d) = true
  | n, .non, _ => by simp [toPy, PyData.canLay0, PyData.depth, PyData.eqv]
  | n, .bl b, _ => by simp [toPy, PyData.canLay0, PyData.depth, PyData.eqv]
  | n, .int b, _ => by simp [toPy, PyData.canLay0, PyData.depth, PyData.eqv]
  | n + 1, .tup ds, h => by
    obtain ⟨h1, h2, h3⟩ := plain_pys n ds (by simpa [plainD] using h)
    simp [toPy, PyData.canLay0, PyData.depth, PyData.eqv, h1, h2, h3]
  | n + 1, .lst ds, h => by
    obtain ⟨h1, h2, h3⟩ := plain_pys n ds (by simpa [plainD] using h)
    simp [toPy, PyData.canLay0, PyData.depth, PyData.eqv, h1, h2, h3]
  | n + 1, .fz ds, h => by
    obtain ⟨h1, h2, h3⟩ := plain_pys n ds (by simpa [plainD] using h)
    simp [toPy, PyData.canLay0, PyData.depth, PyData.eqv, h1, h2, h3]
theorem plain_pys : ∀ (n : Nat) (ds : List D), plainDs n ds = true → PyData.canLayAll0 (toPys ds) = true ∧ PyData.depthAll (toPys ds) ≤ n ∧ PyData.eqvAll (toPys ds) (toPys ds) = true
  | n, [], _ => by simp [toPys, PyData.canLayAll0, PyData.depthAll, PyData.eqvAll]
  | n, d :: ds, h => by
    simp only [plainDs, Bool.and_eq_true] at h
    obtain ⟨h1, h2, h3⟩ := plain_py n d h.1
    obtain ⟨g1, g2, g3⟩ := plain_pys n ds h.2
    simp only [toPys, PyData.canLayAll0, PyData.depthAll, PyData.eqvAll, h1, g1, h3, g3]
    refine ⟨rfl, by omega, rfl⟩
end
theorem plain_shp {n : Nat} {d : D} (h : plainD n d = true) (hn : n ≤ 64 := by decide) : shp d = true := by
  obtain ⟨h1, h2, _⟩ := plain_py n d h
  unfold shp SeqAt.shaped
  rw [h1, decide_eq_true (by omega : (toPy d).depth ≤ 64)]; rfl
theorem dEq_refl {n : Nat} {d : D} (h : plainD n d = true) (hn : n ≤ 64 := by decide) : dEq d d = some true := by
  have h1 := plain_shp h hn
  have h2 := (plain_py n d h).2.2
  unfold dEq
  split
  · simp
  · simp
  · simp [h1, h2]
theorem ints_plain (ns : List Int) : plainD 1 (.lst (ns.map D.int)) = true := by
  simp only [plainD, plainDs_iff]; intro d hd; obtain ⟨i, _, rfl⟩ := List.mem_map.mp hd; rfl
theorem d_isin_ints {ns : List Int} {k : Int} : dCmp .isin (.int k) (.lst (ns.map D.int)) = some (decide (k ∈ ns)) := by
  have h1 : shp (.int k) = true := plain_shp (n := 0) rfl
  have h2 : shp (.lst (ns.map D.int)) = true := plain_shp (ints_plain ns)
  unfold dCmp
  simp only [h1, h2, Bool.and_self, if_true]
  congr 1
  rw [List.any_map]
  induction ns with
  | nil => rfl
  | cons n ns ih =>
    rw [List.any_cons, ih (plain_shp (ints_plain ns))]
    simp only [Function.comp, toPy, PyData.eqv, List.mem_cons]
    by_cases e : k = n
    · subst e; simp
    · have : ¬ n = k := fun z => e z.symm
      simp [e, this]
theorem nats_map (hs : List Nat) : (hs.map fun (h : Nat) => D.int h) = (hs.map fun (h : Nat) => (h : Int)).map D.int := by rw [List.map_map]; rfl
theorem d_isin_nats {hs : List Nat} {k : Nat} : dCmp .isin (.int k) (.lst (hs.map fun (h : Nat) => D.int h)) = some (decide (k ∈ hs)) := by
  rw [nats_map, d_isin_ints]
  congr 1
  apply decide_eq_decide.mpr
  constructor
  · intro h
    obtain ⟨a, h1, h2⟩ := List.mem_map.mp h
    have : a = k := by omega
    exact this ▸ h1
  · intro h; exact List.mem_map.mpr ⟨k, h, rfl⟩
end DD
set_option Elab.async false
set_option linter.all false
set_option maxRecDepth 100000
set_option maxHeartbeats 200000
namespace DD
open PySem L2
def b_law_mixed : CSs := (.cons (.set 2 (.bin .mod (.bin .add (.bin .add (.bin .mul (.bin .mod (.var 0) (.bin .pow (.int 10) (.int 64))) (.int 48271)) (.bin .mul (.bin .mul (.var 1) (.var 1)) (.int 7919))) (.int 11)) (.int 2147483647)))
  (.cons (.ret (.bin .mod (.bin .mul (.var 2) (.var 2)) (.int 2147483629)))
  .nil))
noncomputable def G_law_mixed : Gam := ⟨[], [], []⟩
noncomputable def R_law_mixed : List D → Option D := runF G_law_mixed false 3 b_law_mixed
def b_law_bit : CSs := (.cons (.ret (.ix (.lst (.cons (.int 1) (.cons (.int 2) (.cons (.int 4) (.cons (.int 8) (.cons (.int 16) .nil)))))) (.var 0)))
  .nil)
noncomputable def G_law_bit : Gam := ⟨[], [], []⟩
noncomputable def R_law_bit : List D → Option D := runF G_law_bit false 1 b_law_bit
def b_law_number : CSs := (.cons (.ite (.cmp .eq (.bin .mod (.var 0) (.int 3)) (.int 0)) (.cons (.ret (.bin .sub (.bin .mod (.bin .fdiv (.var 0) (.int 3)) (.int 4)) (.int 1)))
  .nil) .nil)
  (.cons (.ret (.bin .add (.bin .sub (.bin .mod (.bin .fdiv (.var 0) (.int 3)) (.bin .sub (.bin .mul (.int 2) (.bin .pow (.int 10) (.int 60))) (.int 1))) (.bin .pow (.int 10) (.int 60))) (.int 1)))
  .nil))
noncomputable def G_law_number : Gam := ⟨[], [], []⟩
noncomputable def R_law_number : List D → Option D := runF G_law_number false 1 b_law_number
def b_law_reached : CSs := (.cons (.set 3 (.bin .mod (.ix (.lst (.cons (.bin .sub (.bin .mul (.int 2) (.call 0 (.cons (.bin .sub (.var 2) (.int 1)) .nil))) (.int 1)) (.cons (.int 0) (.cons (.bin .fdiv (.var 0) (.int 4)) (.cons (.bin .fdiv (.var 0) (.int 4)) .nil))))) (.bin .mod (.var 0) (.int 4))) (.bin .mul (.int 2) (.call 0 (.cons (.bin .sub (.var 2) (.int 1)) .nil)))))
  (.cons (.ite (.cmp .eq (.bin .mod (.bin .fdiv (.var 3) (.call 0 (.cons (.var 1) .nil))) (.int 2)) (.int 1)) (.cons (.ret (.bin .sub (.var 3) (.call 0 (.cons (.var 1) .nil))))
  .nil) .nil)
  (.cons (.ret (.var 3))
  .nil)))
noncomputable def G_law_reached : Gam := ⟨[("_law_bit", 1, R_law_bit)], [], []⟩
@[simp] theorem gf_law_reached_0 : G_law_reached.fn[0]? = some (("_law_bit" : Str), 1, R_law_bit) := rfl
noncomputable def R_law_reached : List D → Option D := runF G_law_reached false 4 b_law_reached
def l_law_falls_1 : CSs := (.cons (.set 5 (.call 1 (.cons (.var 1) (.cons (.bin .add (.var 4) (.int 1)) .nil))))
  (.cons (.ite (.and (.cmp .lt (.bin .mod (.var 5) (.int 5)) (.int 3)) (.cmp .lt (.bi .len (.cons (.var 3) .nil)) (.var 2))) (.cons (.set 6 (.ix (.lst (.cons (.int 1) (.cons (.int 1) (.cons (.int 2) (.cons (.int 2) (.cons (.int 3) (.cons (.int 3) (.cons (.int 4) (.cons (.int 5) .nil))))))))) (.bin .mod (.bin .fdiv (.var 5) (.int 5)) (.int 8))))
  (.cons (.app 3 (.tup (.cons (.var 4) (.cons (.var 6) (.cons (.call 0 (.cons (.bin .fdiv (.var 5) (.int 40)) (.cons (.var 4) (.cons (.var 0) .nil)))) .nil)))))
  .nil)) .nil)
  .nil))
def b_law_falls : CSs := (.cons (.set 3 (.lst .nil))
  (.cons (.fors (.nm 4) (.rng1 (.var 0)) l_law_falls_1)
  (.cons (.ret (.bi .tuple (.cons (.var 3) .nil)))
  .nil)))
noncomputable def G_law_falls : Gam := ⟨[("_law_reached", 3, R_law_reached), ("_law_mixed", 2, R_law_mixed)], [], []⟩
@[simp] theorem gf_law_falls_0 : G_law_falls.fn[0]? = some (("_law_reached" : Str), 3, R_law_reached) := rfl
@[simp] theorem gf_law_falls_1 : G_law_falls.fn[1]? = some (("_law_mixed" : Str), 2, R_law_mixed) := rfl
noncomputable def R_law_falls : List D → Option D := runF G_law_falls false 7 b_law_falls
def e_law_run_1 : CE := (.call 1 (.cons (.ix (.var 0) (.var 4)) .nil))
def b_law_run : CSs := (.cons (.set 3 (.bi .tuple (.cons (.lc [("hand", 4)] (.nm 4) (.rng1 (.var 1)) (.bl true) e_law_run_1) .nil)))
  (.cons (.ret (.tup (.cons (.var 3) (.cons (.call 0 (.cons (.var 1) (.cons (.ix (.var 0) (.var 1)) (.cons (.var 2) .nil)))) .nil))))
  .nil))
noncomputable def G_law_run : Gam := ⟨[("_law_falls", 3, R_law_falls), ("_law_number", 1, R_law_number)], [], []⟩
@[simp] theorem gf_law_run_0 : G_law_run.fn[0]? = some (("_law_falls" : Str), 3, R_law_falls) := rfl
@[simp] theorem gf_law_run_1 : G_law_run.fn[1]? = some (("_law_number" : Str), 1, R_law_number) := rfl
noncomputable def R_law_run : List D → Option D := runF G_law_run false 5 b_law_run
def n_many_hands : List Str := ["run"]
def b_many_hands : CSs := (.cons (.ret (.bi .len (.cons (.ix (.var 0) (.int 0)) .nil)))
  .nil)
noncomputable def G_many_hands : Gam := ⟨[], [], []⟩
noncomputable def R_many_hands : List D → Option D := runF G_many_hands false 1 b_many_hands
theorem r_many_hands (run_ : D) : R_many_hands [run_] = outR (exs G_many_hands false b_many_hands [some (.sh run_)]) := run_eq (fun z => by cases z)
def n_fall_of : List Str := ["run", "hand", "fall"]
def l_fall_of_1 : CSs := (.cons (.ite (.cmp .eq (.ix (.var 2) (.int 0)) (.var 1)) (.cons (.ret (.var 2))
  .nil) .nil)
  .nil)
def b_fall_of : CSs := (.cons (.fors (.nm 2) (.val (.ix (.var 0) (.int 1))) l_fall_of_1)
  (.cons (.ret .non)
  .nil))
noncomputable def G_fall_of : Gam := ⟨[], [], []⟩
noncomputable def R_fall_of : List D → Option D := runF G_fall_of false 3 b_fall_of
theorem r_fall_of (run_ hand_ : D) : R_fall_of [run_, hand_] = outR (exs G_fall_of false b_fall_of [some (.sh run_), some (.sh hand_), none]) := run_eq (fun z => by cases z)
def n_is_up : List Str := ["run", "hand", "rounds", "fall"]
def b_is_up : CSs := (.cons (.set 3 (.call 0 (.cons (.var 0) (.cons (.var 1) .nil))))
  (.cons (.ret (.or (.isN false (.var 3)) (.cmp .gt (.ix (.var 3) (.int 1)) (.var 2))))
  .nil))
noncomputable def G_is_up : Gam := ⟨[("fall_of", 2, R_fall_of)], [], []⟩
@[simp] theorem gf_is_up_0 : G_is_up.fn[0]? = some (("fall_of" : Str), 2, R_fall_of) := rfl
noncomputable def R_is_up : List D → Option D := runF G_is_up false 4 b_is_up
theorem r_is_up (run_ hand_ rounds_ : D) : R_is_up [run_, hand_, rounds_] = outR (exs G_is_up false b_is_up [some (.sh run_), some (.sh hand_), some (.sh rounds_), none]) := run_eq (fun z => by cases z)
def c_who_is_up_1 : CE := (.call 1 (.cons (.var 0) (.cons (.var 2) (.cons (.var 1) .nil))))
def e_who_is_up_2 : CE := (.var 2)
def b_who_is_up : CSs := (.cons (.ret (.lc [("hand", 2)] (.nm 2) (.rng1 (.call 0 (.cons (.var 0) .nil))) c_who_is_up_1 e_who_is_up_2))
  .nil)
noncomputable def G_who_is_up : Gam := ⟨[("many_hands", 1, R_many_hands), ("is_up", 3, R_is_up)], [], []⟩
@[simp] theorem gf_who_is_up_0 : G_who_is_up.fn[0]? = some (("many_hands" : Str), 1, R_many_hands) := rfl
@[simp] theorem gf_who_is_up_1 : G_who_is_up.fn[1]? = some (("is_up" : Str), 3, R_is_up) := rfl
noncomputable def R_who_is_up : List D → Option D := runF G_who_is_up false 3 b_who_is_up
def n_comes : List Str := ["run", "by", "to", "at", "fall"]
def b_comes : CSs := (.cons (.ite (.or (.cmp .eq (.var 1) (.var 2)) (.not (.call 2 (.cons (.var 0) (.cons (.var 2) (.cons (.var 3) .nil)))))) (.cons (.ret (.bl false))
  .nil) .nil)
  (.cons (.set 4 (.call 1 (.cons (.var 0) (.cons (.var 1) .nil))))
  (.cons (.ite (.or (.isN false (.var 4)) (.cmp .gt (.ix (.var 4) (.int 1)) (.var 3))) (.cons (.ret (.bl true))
  .nil) .nil)
  (.cons (.ret (.and (.cmp .eq (.ix (.var 4) (.int 1)) (.var 3)) (.call 0 (.cons (.ix (.var 4) (.int 2)) (.cons (.var 2) .nil)))))
  .nil))))
noncomputable def G_comes : Gam := ⟨[("has_hand", 2, R_has_hand), ("fall_of", 2, R_fall_of), ("is_up", 3, R_is_up)], [], []⟩
@[simp] theorem gf_comes_0 : G_comes.fn[0]? = some (("has_hand" : Str), 2, R_has_hand) := rfl
@[simp] theorem gf_comes_1 : G_comes.fn[1]? = some (("fall_of" : Str), 2, R_fall_of) := rfl
@[simp] theorem gf_comes_2 : G_comes.fn[2]? = some (("is_up" : Str), 3, R_is_up) := rfl
noncomputable def R_comes : List D → Option D := runF G_comes false 5 b_comes
theorem r_comes (run_ by_ to_ at_ : D) : R_comes [run_, by_, to_, at_] = outR (exs G_comes false b_comes [some (.sh run_), some (.sh by_), some (.sh to_), some (.sh at_), none]) := run_eq (fun z => by cases z)
def l_law_table_1 : CSs := (.cons (.sto 1 (.var 3) (.var 4))
  (.cons (.sto 2 (.var 3) (.var 5))
  .nil))
def b_law_table : CSs := (.cons (.set 1 (.bin .mul (.lst (.cons (.int 9) .nil)) (.bi .len (.cons (.ix (.var 0) (.int 0)) .nil))))
  (.cons (.set 2 (.bin .mul (.lst (.cons (.int 0) .nil)) (.bi .len (.cons (.ix (.var 0) (.int 0)) .nil))))
  (.cons (.fors (.tp [3, 4, 5]) (.val (.ix (.var 0) (.int 1))) l_law_table_1)
  (.frz 1 (.frz 2 (.cons (.ret (.tup (.cons (.var 1) (.cons (.var 2) .nil))))
  .nil))))))
noncomputable def G_law_table : Gam := ⟨[], [], []⟩
noncomputable def R_law_table : List D → Option D := runF G_law_table true 6 b_law_table
structure Rn where
  many : Nat
  num : Nat → Int
  tab : Nat → Option (Nat × Nat)
def fallD (h : Nat) (p : Nat × Nat) : D := .tup [.int h, .int p.1, .int p.2]
def prs (tab : Nat → Option (Nat × Nat)) (hs : List Nat) : List (Nat × (Nat × Nat)) := hs.filterMap fun h => (tab h).map fun p => (h, p)
def fallL (tab : Nat → Option (Nat × Nat)) (hs : List Nat) : List D := (prs tab hs).map fun q => fallD q.1 q.2
def Rn.numL (r : Rn) : List D := (List.range r.many).map fun h => .int (r.num h)
def Rn.falls (r : Rn) : List D := fallL r.tab (List.range r.many)
def Rn.d (r : Rn) : D := .tup [.tup r.numL, .tup r.falls]
structure TabOk (n : Nat) (tab : Nat → Option (Nat × Nat)) : Prop where
  out : ∀ h, n ≤ h → tab h = none
  ok : ∀ h p, tab h = some p → 1 ≤ p.1 ∧ p.1 ≤ 5 ∧ p.2 < 2 ^ n ∧ p.2.testBit h = false
structure Rn.Ok (r : Rn) : Prop where
  lo : 2 ≤ r.many
  hi : r.many ≤ 5
  num : ∀ h, h < r.many → -(10 ^ 60) < r.num h ∧ r.num h < 10 ^ 60
  tab : TabOk r.many r.tab
@[simp] theorem ix_t0 {a : D} {l : List D} : dIx (.tup (a :: l)) (.int 0) = some a := by
  simp [dIx, atI, L2.ixN]
@[simp] theorem ix_t1 {a b : D} {l : List D} : dIx (.tup (a :: b :: l)) (.int 1) = some b := by
  have : (1 : Int) < (l.length : Int) + 1 + 1 := by omega
  simp [dIx, atI, L2.ixN, this]
@[simp] theorem ix_t2 {a b c : D} {l : List D} : dIx (.tup (a :: b :: c :: l)) (.int 2) = some c := by
  have : (2 : Int) < (l.length : Int) + 1 + 1 + 1 := by omega
  simp [dIx, atI, L2.ixN, this]
theorem ix_mapL {α : Type} {f : α → D} {xs : List α} {n : Nat} {x : α} (h : xs[n]? = some x) : dIx (.lst (xs.map f)) (.int n) = some (f x) := by
  show atI _ _ = _
  have hlt : n < xs.length := (List.getElem?_eq_some_iff.mp h).1
  unfold L2.atI
  have e1 : L2.ixN (xs.map f).length (n : Int) = some n := by
    unfold L2.ixN
    simp; omega
  rw [e1]
  show (xs.map f)[n]? = _
  rw [List.getElem?_map, h]; rfl
theorem ix_rangeL {f : Nat → D} {m n : Nat} (h : n < m) : dIx (.lst ((List.range m).map f)) (.int n) = some (f n) := ix_mapL (by simp [h])
theorem ix_rangeT {f : Nat → D} {m n : Nat} (h : n < m) : dIx (.tup ((List.range m).map f)) (.int n) = some (f n) := ix_mapL (by simp [h])
section
variable {r : Rn}
theorem numL_len : r.numL.length = r.many := by simp [Rn.numL]
theorem prs_len (tab : Nat → Option (Nat × Nat)) (hs : List Nat) : (prs tab hs).length ≤ hs.length := by
  unfold prs; exact List.length_filterMap_le _ _
theorem falls_len : r.falls.length ≤ r.many := by
  have := prs_len r.tab (List.range r.many)
  simpa [Rn.falls, fallL] using this
theorem e_many_hands (K : r.Ok) : R_many_hands [r.d] = some (.int r.many) := by
  have := K.hi
  rw [r_many_hands]
  have h : r.numL.length ≤ lim := by rw [numL_len]; simp [lim]; omega
  simp [b_many_hands, Rn.d, len_tup h, numL_len]
theorem prs_cons {tab : Nat → Option (Nat × Nat)} {h : Nat} {hs : List Nat} : prs tab (h :: hs) = (match tab h with | some p => (h, p) :: prs tab hs | none => prs tab hs) := by
  unfold prs
  rw [List.filterMap_cons]
  cases tab h <;> rfl
theorem fall_go {tab : Nat → Option (Nat × Nat)} {a : D} {h : Nat} : ∀ (hs : List Nat) (v : Option Sl),
    (h ∈ hs → ∀ p, tab h = some p → forGo (.nm 2) (exs G_fall_of false l_fall_of_1) (fallL tab hs) [some (.sh a), some (.sh (.int h)), v] = some (.rt (fallD h p))) ∧
    ((h ∈ hs → tab h = none) → ∃ v', forGo (.nm 2) (exs G_fall_of false l_fall_of_1) (fallL tab hs) [some (.sh a), some (.sh (.int h)), v] = some (.nx [some (.sh a), some (.sh (.int h)), v']))
  | [], v => ⟨fun z => (by cases z), fun _ => ⟨v, rfl⟩⟩
  | x :: hs, v => by
    cases e : tab x with
    | none =>
      have e1 : fallL tab (x :: hs) = fallL tab hs := by unfold fallL; rw [prs_cons, e]
      rw [e1]
      obtain ⟨h1, h2⟩ := fall_go (tab := tab) (a := a) (h := h) hs v
      refine ⟨fun hm p hp => h1 ?_ p hp, fun hm => h2 fun z => hm (List.mem_cons_of_mem _ z)⟩
      rcases List.mem_cons.mp hm with rfl | hm
      · rw [e] at hp; cases hp
      · exact hm
    | some q =>
      have e1 : fallL tab (x :: hs) = fallD x q :: fallL tab hs := by unfold fallL; rw [prs_cons, e]; rfl
      rw [e1, forGo_cons]
      obtain ⟨h1, h2⟩ := fall_go (tab := tab) (a := a) (h := h) hs (some (.sh (fallD x q)))
      by_cases hx : x = h
      · subst hx
        refine ⟨fun _ p hp => ?_, fun hm => ?_⟩
        · rw [e] at hp; cases hp
          simp [l_fall_of_1, fallD]
        · rw [hm List.mem_cons_self] at e; cases e
      · have hx' : ¬ h = x := fun z => hx z.symm
        have st : exs G_fall_of false l_fall_of_1 [some (.sh a), some (.sh (.int h)), some (.sh (fallD x q))] = some (.nx [some (.sh a), some (.sh (.int h)), some (.sh (fallD x q))]) := by
          simp [l_fall_of_1, fallD, hx]
        simp only [bindT, setS, List.set_cons_succ, List.set_cons_zero, Option.bind_some, st, nxO_nx]
        refine ⟨fun hm p hp => h1 ?_ p hp, fun hm => h2 fun z => hm (List.mem_cons_of_mem _ z)⟩
        rcases List.mem_cons.mp hm with z | hm
        · exact absurd z hx'
        · exact hm
def fallO (h : Nat) : Option (Nat × Nat) → D
  | some p => fallD h p
  | none => .non
theorem e_fall_of (K : r.Ok) (h : Nat) : R_fall_of [r.d, .int h] = some (fallO h (r.tab h)) := by
  rw [r_fall_of]
  obtain ⟨h1, h2⟩ := fall_go (tab := r.tab) (a := r.d) (h := h) (List.range r.many) none
  cases e : r.tab h with
  | none =>
    obtain ⟨v, g⟩ := h2 fun _ => e
    have g' : forGo (.nm 2) (exs G_fall_of false l_fall_of_1) r.falls [some (.sh r.d), some (.sh (.int h)), none] = _ := g
    simp [b_fall_of, show dIx r.d (.int 1) = some (.tup r.falls) by simp [Rn.d], itemsOf, g', fallO]
  | some p =>
    have hm : h < r.many := by
      rcases Nat.lt_or_ge h r.many with z | z
      · exact z
      · rw [K.tab.out h z] at e; cases e
    have g' : forGo (.nm 2) (exs G_fall_of false l_fall_of_1) r.falls [some (.sh r.d), some (.sh (.int h)), none] = _ := h1 (by simpa using hm) p e
    simp [b_fall_of, show dIx r.d (.int 1) = some (.tup r.falls) by simp [Rn.d], itemsOf, g', fallO]
def up (r : Rn) (h n : Nat) : Bool := match r.tab h with | none => true | some p => decide (n < p.1)
theorem e_is_up (K : r.Ok) (h n : Nat) : R_is_up [r.d, .int h, .int n] = some (.bl (up r h n)) := by
  rw [r_is_up]
  have e := e_fall_of K h
  cases q : r.tab h with
  | none => rw [q] at e; simp [b_is_up, e, fallO, up, q]
  | some p => rw [q] at e; simp [b_is_up, e, fallO, fallD, up, q]
def cm (r : Rn) (by_ to at_ : Nat) : Bool := !decide (by_ = to) && up r to at_ && (match r.tab by_ with | none => true | some p => decide (at_ < p.1) || (decide (p.1 = at_) && p.2.testBit to))
theorem pow5 {n : Nat} (h : n ≤ 5) : 2 ^ n ≤ 32 := Nat.pow_le_pow_right (by decide) h
theorem e_comes (K : r.Ok) (x y n : Nat) (hy : y < r.many) : R_comes [r.d, .int x, .int y, .int n] = some (.bl (cm r x y n)) := by
  rw [r_comes]
  have e := e_fall_of K x
  have hi := K.hi
  have eu := e_is_up K y n
  by_cases hxy : x = y
  · simp [b_comes, hxy, cm]
  · have hxy' : ¬ ((x : Int) = (y : Int)) := by omega
    cases u : up r y n with
    | false => rw [u] at eu; simp [b_comes, hxy, eu, cm, u]
    | true =>
      rw [u] at eu
      cases q : r.tab x with
      | none => rw [q] at e; simp [b_comes, hxy, eu, e, fallO, cm, q, u]
      | some p =>
        rw [q] at e
        have hp := K.tab.ok x p q
        have hm : p.2 < 32 := Nat.lt_of_lt_of_le hp.2.2.1 (pow5 hi)
        have hh := e_has_hand hm (show y < 5 by omega)
        by_cases l : n < p.1
        · simp [b_comes, hxy, eu, e, fallO, fallD, cm, q, u, l]
        · by_cases l2 : p.1 = n
          · simp [b_comes, hxy, eu, e, fallO, fallD, cm, q, u, l, l2, hh]
          · have l3 : ¬ ((p.1 : Int) = (n : Int)) := by omega
            simp [b_comes, hxy, eu, e, fallO, fallD, cm, q, u, l, l2, l3]
end
end DD
set_option Elab.async false
set_option linter.all false
set_option maxRecDepth 100000
set_option maxHeartbeats 4000000
namespace DD
open PySem L2
theorem mix3 (m : Int) : ∃ x : Nat, x < 2147483629 ∧ m * m % 2147483629 = x := by
  have g0 : 0 ≤ m * m % 2147483629 := Int.emod_nonneg _ (by decide)
  have g1 : m * m % 2147483629 < 2147483629 := Int.emod_lt_of_pos _ (by decide)
  exact ⟨(m * m % 2147483629).toNat, by omega, by omega⟩
end DD
set_option Elab.async false
set_option linter.all false
set_option maxRecDepth 100000
set_option maxHeartbeats 1000000
set_option profiler true
set_option profiler.threshold 1000
namespace DD
open PySem L2
theorem range_at {n x : Nat} {p q : List Nat} (e : List.range n = p ++ x :: q) : x = p.length ∧ p.length < n ∧ p = List.range p.length := by
  have h1 : (List.range n)[p.length]? = some x := by rw [e]; simp
  obtain ⟨h2, h3⟩ := List.getElem?_eq_some_iff.mp h1
  rw [List.getElem_range] at h3
  rw [List.length_range] at h2
  refine ⟨h3.symm, h2, ?_⟩
  have h4 : (List.range n).take p.length = p := by rw [e]; simp
  rw [← h4, List.take_range]
  simp [Nat.min_eq_left (Nat.le_of_lt h2)]
end DD
set_option Elab.async false
set_option linter.all false
set_option maxRecDepth 100000
set_option maxHeartbeats 1000000
namespace DD
open PySem L2
theorem imm_falls {tab : Nat → Option (Nat × Nat)} {hs : List Nat} : immL (fallL tab hs) = true := immL_map fun _ _ => by simp [fallD]
theorem set_range {f g : Nat → D} {n k : Nat} (h : ∀ i, i < n → i ≠ k → f i = g i) : ((List.range n).map f).set k (g k) = (List.range n).map g := by
  apply List.ext_getElem?
  intro i
  rw [List.getElem?_set, List.getElem?_map, List.getElem?_map, List.length_map, List.length_range]
  by_cases e : k = i
  · subst e
    rw [if_pos rfl]
    by_cases l : k < n
    · rw [if_pos l, List.getElem?_range l]; rfl
    · rw [if_neg l, List.getElem?_eq_none (by simp; omega)]; rfl
  · rw [if_neg e]
    by_cases l : i < n
    · rw [List.getElem?_range l]; simp [h i l (fun z => e z.symm)]
    · rw [List.getElem?_eq_none (by simp; omega)]; rfl
theorem rep_flat {d : D} : ∀ n : Nat, (List.replicate n [d]).flatten = (List.range n).map fun _ => d
  | 0 => rfl
  | n + 1 => by
    rw [List.range_succ, List.map_append, ← rep_flat n, List.replicate_succ', List.flatten_append]; rfl
theorem d_mulL {d : D} {n : Nat} (h : n ≤ 1000) : dBin .mul (.lst [d]) (.int n) = some (.lst ((List.range n).map fun _ => d)) := by
  rw [← rep_flat]
  have : dBin .mul (.lst [d]) (.int n) = some (.lst (List.replicate ((n : Int).toNat) [d]).flatten) := if_pos (by
    rw [Bool.and_eq_true, Bool.and_eq_true, dte, dte, dte]
    have : lim = 100000 := rfl
    simp only [List.length_singleton, Int.toNat_natCast]
    omega)
  rw [this, Int.toNat_natCast]
theorem Rn.imm (r : Rn) : DD.imm r.d = true := by
  have h1 : immL r.numL = true := immL_map fun _ _ => by simp
  have h2 : immL r.falls = true := imm_falls
  simp [Rn.d, h1, h2]
end DD
set_option Elab.async false
set_option linter.all false
set_option maxRecDepth 100000
set_option maxHeartbeats 1000000
namespace DD
open PySem L2
def triI (q : Nat × (Nat × Nat)) : List Int := [(q.1 : Int), (q.2.1 : Int), (q.2.2 : Int)]
def fallQ (q : Nat × (Nat × Nat)) : D := fallD q.1 q.2
theorem triOf_Q {q : Nat × (Nat × Nat)} (h : q.1 < 64 ∧ q.2.1 < 64 ∧ q.2.2 < 64) : triOf (fallQ q) = some (triI q) := by
  refine if_pos ?_
  simp only [Bool.and_eq_true, decide_eq_true_eq]
  omega
theorem trisOf_Q : ∀ {L : List (Nat × (Nat × Nat))}, (∀ q ∈ L, q.1 < 64 ∧ q.2.1 < 64 ∧ q.2.2 < 64) → trisOf (L.map fallQ) = some (L.map triI)
  | [], _ => rfl
  | q :: L, h => by
    rw [List.map_cons, trisOf, triOf_Q (h q List.mem_cons_self), Option.bind_some, trisOf_Q (fun x hx => h x (List.mem_cons_of_mem _ hx))]; rfl
theorem intsOf_Q {L : List (Nat × (Nat × Nat))} (h : L ≠ []) : intsOf (L.map fallQ) = none := by
  cases L with
  | nil => exact absurd rfl h
  | cons q L => rfl
theorem prs_mem {tab : Nat → Option (Nat × Nat)} {q : Nat × (Nat × Nat)} : ∀ {hs : List Nat}, q ∈ prs tab hs → q.1 ∈ hs ∧ tab q.1 = some q.2
  | [], h => by simp [prs] at h
  | x :: hs, h => by
    rw [prs_cons] at h
    cases e : tab x with
    | none =>
      rw [e] at h
      obtain ⟨h1, h2⟩ := prs_mem h
      exact ⟨List.mem_cons_of_mem _ h1, h2⟩
    | some p =>
      rw [e] at h
      rcases List.mem_cons.mp h with rfl | h
      · exact ⟨List.mem_cons_self, e⟩
      · obtain ⟨h1, h2⟩ := prs_mem h
        exact ⟨List.mem_cons_of_mem _ h1, h2⟩
theorem prs_pw {tab : Nat → Option (Nat × Nat)} : ∀ {hs : List Nat}, hs.Pairwise (· < ·) → (prs tab hs).Pairwise (fun a b => a.1 < b.1)
  | [], _ => List.Pairwise.nil
  | x :: hs, h => by
    rw [List.pairwise_cons] at h
    rw [prs_cons]
    cases e : tab x with
    | none => exact prs_pw h.2
    | some p => exact List.pairwise_cons.mpr ⟨fun q hq => h.1 _ (prs_mem hq).1, prs_pw h.2⟩
theorem tab_small {n : Nat} {tab : Nat → Option (Nat × Nat)} (T : TabOk n tab) (hn : n ≤ 5) {q : Nat × (Nat × Nat)} (h : q ∈ prs tab (List.range n)) : q.1 < 64 ∧ q.2.1 < 64 ∧ q.2.2 < 64 := by
  obtain ⟨h1, h2⟩ := prs_mem h
  have := T.ok _ _ h2
  have := List.mem_range.mp h1
  have := pow5 hn
  omega
theorem sorted_falls {n : Nat} {tab : Nat → Option (Nat × Nat)} (T : TabOk n tab) (hn : n ≤ 5) {L : List (Nat × (Nat × Nat))} (hp : (prs tab (List.range n)).Perm L) (hne : L ≠ []) :
    dBI .sorted [.lst (L.map fallQ)] = some (.lst (fallL tab (List.range n))) := by
  have hs : ∀ q ∈ L, q.1 < 64 ∧ q.2.1 < 64 ∧ q.2.2 < 64 := fun q hq => tab_small T hn (hp.mem_iff.mpr hq)
  have hl : (L.map fallQ).length < 64 := by
    have h1 := hp.length_eq
    have h2 := prs_len tab (List.range n)
    simp at h2 ⊢; omega
  have hb : ∀ t ∈ L.map triI, t.length = 3 ∧ TS.Bd 64 t := by
    intro t ht
    obtain ⟨q, hq, rfl⟩ := List.mem_map.mp ht
    have := hs q hq
    refine ⟨rfl, fun m hm => ?_⟩
    simp only [triI, List.mem_cons, List.not_mem_nil, or_false] at hm
    rcases hm with rfl | rfl | rfl <;> omega
  have hpw : ((prs tab (List.range n)).map triI).Pairwise (fun a b => TS.code 64 a ≤ TS.code 64 b) := by
    rw [List.pairwise_map]
    refine (prs_pw List.pairwise_lt_range).imp_of_mem fun {a b} ha hb' hlt => ?_
    have h1 := tab_small T hn ha
    have h2 := tab_small T hn hb'
    have := TS.code_lt (B := 64) (d := (a.1 : Int)) (e := (b.1 : Int)) (r := [(a.2.1 : Int), (a.2.2 : Int)]) (q := [(b.2.1 : Int), (b.2.2 : Int)]) rfl (fun m hm => by
      simp only [List.mem_cons, List.not_mem_nil, or_false] at hm
      rcases hm with rfl | rfl <;> omega) (fun m hm => by
      simp only [List.mem_cons, List.not_mem_nil, or_false] at hm
      rcases hm with rfl | rfl <;> omega) (by omega)
    exact Int.le_of_lt this
  have hu := sortT_unique hb (hp.map triI) hpw
  have e : fallL tab (List.range n) = ((prs tab (List.range n)).map triI).map triD := by
    rw [List.map_map]; rfl
  show dSorted [.lst (L.map fallQ)] = _
  unfold dSorted
  simp only [intsOf_Q hne, hl, if_true, trisOf_Q hs, Option.map_some, ← hu, e]
theorem prs_upd {tab : Nat → Option (Nat × Nat)} {h : Nat} {p : Nat × Nat} : ∀ {hs : List Nat}, h ∉ hs → prs (fun x => if x = h then some p else tab x) hs = prs tab hs ∧ (prs tab hs).filter (fun q => !decide (q.1 = h)) = prs tab hs
  | [], _ => ⟨rfl, rfl⟩
  | x :: hs, hx => by
    have h1 : x ≠ h := fun z => hx (z ▸ List.mem_cons_self)
    obtain ⟨i1, i2⟩ := prs_upd (tab := tab) (p := p) (fun z => hx (List.mem_cons_of_mem x z))
    rw [prs_cons, prs_cons, if_neg h1, i1]
    refine ⟨rfl, ?_⟩
    cases e : tab x with
    | none => exact i2
    | some q => rw [List.filter_cons]; simp only [h1, decide_false, Bool.not_false, if_true]; rw [i2]
theorem prs_with {tab : Nat → Option (Nat × Nat)} {h : Nat} {p : Nat × Nat} : ∀ {hs : List Nat}, hs.Nodup → h ∈ hs → (prs (fun x => if x = h then some p else tab x) hs).Perm ((prs tab hs).filter (fun q => !decide (q.1 = h)) ++ [(h, p)])
  | [], _, hm => by cases hm
  | x :: hs, hn, hm => by
    rw [List.nodup_cons] at hn
    rw [prs_cons, prs_cons]
    by_cases hx : x = h
    · subst hx
      obtain ⟨i1, i2⟩ := prs_upd (tab := tab) (p := p) hn.1
      rw [if_pos rfl]
      dsimp only
      rw [i1]
      have key := (List.perm_append_singleton (x, p) (prs tab hs)).symm
      cases e : tab x with
      | none =>
        dsimp only
        rw [i2]; exact key
      | some q =>
        dsimp only
        rw [List.filter_cons]
        simp only [decide_true, Bool.not_true, Bool.false_eq_true, if_false]
        rw [i2]; exact key
    · have hm' : h ∈ hs := by
        rcases List.mem_cons.mp hm with z | z
        · exact absurd z.symm hx
        · exact z
      have ih := prs_with (tab := tab) (p := p) hn.2 hm'
      rw [if_neg hx]
      cases e : tab x with
      | none => exact ih
      | some q =>
        dsimp only
        rw [List.filter_cons]
        simp only [hx, decide_false, Bool.not_false, if_true, List.cons_append]
        exact ih.cons _
theorem prs_gone {tab : Nat → Option (Nat × Nat)} {h : Nat} : ∀ {hs : List Nat}, (prs tab hs).filter (fun q => !decide (q.1 = h)) = prs (fun x => if x = h then none else tab x) hs
  | [] => rfl
  | x :: hs => by
    rw [prs_cons, prs_cons]
    by_cases hx : x = h
    · rw [if_pos hx]
      dsimp only
      rw [← prs_gone]
      cases e : tab x with
      | none => rfl
      | some q => rw [List.filter_cons]; simp only [hx, decide_true, Bool.not_true, Bool.false_eq_true, if_false]
    · rw [if_neg hx]
      cases e : tab x with
      | none => exact prs_gone
      | some q => 
        dsimp only
        rw [List.filter_cons]
        simp only [hx, decide_false, Bool.not_false, if_true]
        rw [prs_gone]
/-- a run with a fall -/
def Rn.with (r : Rn) (h : Nat) (p : Nat × Nat) : Rn := ⟨r.many, r.num, fun x => if x = h then some p else r.tab x⟩
theorem Rn.Ok.with {r : Rn} (K : r.Ok) {h : Nat} {p : Nat × Nat} (hh : h < r.many) (h1 : 1 ≤ p.1) (h5 : p.1 ≤ 5) (hm : p.2 < 2 ^ r.many) (hb : p.2.testBit h = false) : (r.with h p).Ok :=
  ⟨K.lo, K.hi, K.num, ⟨fun x hx => by
    show (if x = h then some p else r.tab x) = none
    have hx' : r.many ≤ x := hx
    rw [if_neg (by omega)]; exact K.tab.out x hx', fun x q hq => by
    have hq' : (if x = h then some p else r.tab x) = some q := hq
    by_cases e : x = h
    · rw [if_pos e] at hq'; cases hq'; subst e; exact ⟨h1, h5, hm, hb⟩
    · rw [if_neg e] at hq'; exact K.tab.ok x q hq'⟩⟩
/-- the falls but one, and another, sorted -/
theorem sorted_with {r : Rn} (K : r.Ok) {h : Nat} {p : Nat × Nat} (hh : h < r.many) (K2 : (r.with h p).Ok) :
    dBI .sorted [.lst (((prs r.tab (List.range r.many)).filter (fun q => !decide (q.1 = h))).map fallQ ++ [fallD h p])] = some (.lst (r.with h p).falls) := by
  have e : ((prs r.tab (List.range r.many)).filter (fun q => !decide (q.1 = h))).map fallQ ++ [fallD h p] = ((prs r.tab (List.range r.many)).filter (fun q => !decide (q.1 = h)) ++ [(h, p)]).map fallQ := by
    rw [List.map_append]; rfl
  rw [e]
  exact sorted_falls (n := r.many) (tab := fun x => if x = h then some p else r.tab x) K2.tab K.hi (prs_with List.nodup_range (List.mem_range.mpr hh)) (by simp)
end DD
set_option Elab.async false
set_option linter.all false
set_option maxRecDepth 100000
set_option maxHeartbeats 1000000
namespace DD
open PySem L2
def b_law_comes : CSs := (.cons (.ite (.or (.cmp .eq (.var 2) (.var 3)) (.or (.cmp .le (.ix (.var 0) (.var 3)) (.var 4)) (.cmp .lt (.ix (.var 0) (.var 2)) (.var 4)))) (.cons (.ret (.bl false))
  .nil) .nil)
  (.cons (.ret (.or (.cmp .gt (.ix (.var 0) (.var 2)) (.var 4)) (.cmp .eq (.bin .mod (.bin .fdiv (.ix (.var 1) (.var 2)) (.call 0 (.cons (.var 3) .nil))) (.int 2)) (.int 1))))
  .nil))
noncomputable def G_law_comes : Gam := ⟨[("_law_bit", 1, R_law_bit)], [], []⟩
@[simp] theorem gf_law_comes_0 : G_law_comes.fn[0]? = some (("_law_bit" : Str), 1, R_law_bit) := rfl
noncomputable def R_law_comes : List D → Option D := runF G_law_comes false 5 b_law_comes
noncomputable def G_law_right : Gam := ⟨[("_law_same", 2, R_law_same), ("_law_comes", 5, R_law_comes), ("comes", 4, R_comes), ("who_is_up", 2, R_who_is_up), ("_law_table", 1, R_law_table)], [], []⟩
@[simp] theorem gf_law_right_0 : G_law_right.fn[0]? = some (("_law_same" : Str), 2, R_law_same) := rfl
@[simp] theorem gf_law_right_1 : G_law_right.fn[1]? = some (("_law_comes" : Str), 5, R_law_comes) := rfl
@[simp] theorem gf_law_right_2 : G_law_right.fn[2]? = some (("comes" : Str), 4, R_comes) := rfl
@[simp] theorem gf_law_right_3 : G_law_right.fn[3]? = some (("who_is_up" : Str), 2, R_who_is_up) := rfl
@[simp] theorem gf_law_right_4 : G_law_right.fn[4]? = some (("_law_table" : Str), 1, R_law_table) := rfl
noncomputable def G_law_other : Gam := ⟨[("_law_reached", 3, R_law_reached)], [], []⟩
@[simp] theorem gf_law_other_0 : G_law_other.fn[0]? = some (("_law_reached" : Str), 3, R_law_reached) := rfl
theorem rng2_small {i n : Nat} (h : i + n ≤ 1000) : rng2Of (.int i) (.int ((i + n : Nat) : Int)) = some ((List.range n).map fun (k : Nat) => D.int ((i + k : Nat) : Int)) := by
  have b : ∀ m : Nat, m ≤ 1000 → big62 (m : Int) = true := fun m hm => by unfold big62; rw [Bool.and_eq_true, dte, dte]; omega
  have e : rng2Of (.int i) (.int ((i + n : Nat) : Int)) = some (ups i (((i + n : Nat) : Int) - i).toNat) := if_pos (by rw [b i (by omega), b (i + n) h]; rfl)
  rw [e]
  have e2 : (((i + n : Nat) : Int) - i).toNat = n := by omega
  rw [e2]
  congr 1
end DD
set_option Elab.async false
set_option linter.all false
set_option maxRecDepth 100000
set_option maxHeartbeats 1000000
namespace DD
open PySem L2
theorem fz_at {ns : List Int} {k : Nat} (h : k < ns.length) : dIx (.fz (ns.map .int)) (.int k) = some (.int (ns.getD k 0)) := by
  have := ix_mapL (f := D.int) (xs := ns) (n := k) (x := ns[k]) (by rw [List.getElem?_eq_getElem])
  have e : dIx (.fz (ns.map .int)) (.int k) = dIx (.lst (ns.map .int)) (.int k) := rfl
  rw [e, this]
  simp [List.getElem?_eq_getElem h]
end DD
set_option Elab.async false
set_option linter.all false
set_option maxRecDepth 100000
set_option maxHeartbeats 1000000
namespace DD
open PySem L2
def c_law_next_1 : CE := (.cmp .ne (.ix (.var 6) (.int 0)) (.var 3))
def e_law_next_2 : CE := (.var 6)
def b_law_next : CSs := (.cons (.set 2 (.bi .len (.cons (.ix (.var 0) (.int 0)) .nil)))
  (.cons (.set 3 (.bin .mod (.var 1) (.var 2)))
  (.cons (.set 4 (.lc [("one", 6)] (.nm 6) (.val (.ix (.var 0) (.int 1))) c_law_next_1 e_law_next_2))
  (.cons (.ite (.cmp .gt (.bin .mod (.bin .fdiv (.var 1) (.int 5)) (.int 4)) (.int 0)) (.cons (.set 5 (.ix (.lst (.cons (.int 1) (.cons (.int 1) (.cons (.int 2) (.cons (.int 2) (.cons (.int 3) (.cons (.int 4) (.cons (.int 5) .nil)))))))) (.bin .mod (.bin .fdiv (.var 1) (.int 20)) (.int 7))))
  (.cons (.app 4 (.tup (.cons (.var 3) (.cons (.var 5) (.cons (.call 0 (.cons (.bin .mod (.bin .fdiv (.var 1) (.int 140)) (.bin .pow (.int 10) (.int 9))) (.cons (.var 3) (.cons (.var 2) .nil)))) .nil)))))
  .nil)) .nil)
  (.cons (.ret (.tup (.cons (.ix (.var 0) (.int 0)) (.cons (.bi .tuple (.cons (.bi .sorted (.cons (.var 4) .nil)) .nil)) .nil))))
  .nil)))))
noncomputable def G_law_next : Gam := ⟨[("_law_reached", 3, R_law_reached)], [], []⟩
@[simp] theorem gf_law_next_0 : G_law_next.fn[0]? = some (("_law_reached" : Str), 3, R_law_reached) := rfl
noncomputable def R_law_next : List D → Option D := runF G_law_next false 7 b_law_next
noncomputable def G_law_runs : Gam := ⟨[("_law_next", 2, R_law_next), ("_law_run", 3, R_law_run), ("_law_cell_at", 2, R_law_cell_at)], [], []⟩
@[simp] theorem gf_law_runs_0 : G_law_runs.fn[0]? = some (("_law_next" : Str), 2, R_law_next) := rfl
@[simp] theorem gf_law_runs_1 : G_law_runs.fn[1]? = some (("_law_run" : Str), 3, R_law_run) := rfl
@[simp] theorem gf_law_runs_2 : G_law_runs.fn[2]? = some (("_law_cell_at" : Str), 2, R_law_cell_at) := rfl
theorem sorted_nil : dBI .sorted [.lst []] = some (.lst []) := by
  show some (D.lst ((sortI []).map .int)) = _
  simp [sortI]
end DD
set_option Elab.async false
set_option linter.all false
set_option maxRecDepth 100000
set_option maxHeartbeats 1000000
namespace DD
open PySem L2
def FUEL : Nat := 30
def n_next_view : List Str := ["run", "views", "hand", "at", "parts", "other"]
def l_next_view_1 : CSs := (.cons (.ite (.or (.cmp .eq (.var 5) (.var 2)) (.call 1 (.cons (.var 0) (.cons (.var 5) (.cons (.var 2) (.cons (.var 3) .nil)))))) (.cons (.app 4 (.ix (.var 1) (.var 5)))
  .nil) (.cons (.app 4 .non)
  .nil))
  .nil)
def b_next_view : CSs := (.cons (.ite (.not (.call 2 (.cons (.var 0) (.cons (.var 2) (.cons (.var 3) .nil))))) (.cons (.ret .non)
  .nil) .nil)
  (.cons (.set 4 (.lst .nil))
  (.cons (.fors (.nm 5) (.rng1 (.call 0 (.cons (.var 0) .nil))) l_next_view_1)
  (.cons (.ret (.tup (.cons (.var 2) (.cons (.bi .tuple (.cons (.var 4) .nil)) .nil))))
  .nil))))
noncomputable def G_next_view : Gam := ⟨[("many_hands", 1, R_many_hands), ("comes", 4, R_comes), ("is_up", 3, R_is_up)], [], []⟩
@[simp] theorem gf_next_view_0 : G_next_view.fn[0]? = some (("many_hands" : Str), 1, R_many_hands) := rfl
@[simp] theorem gf_next_view_1 : G_next_view.fn[1]? = some (("comes" : Str), 4, R_comes) := rfl
@[simp] theorem gf_next_view_2 : G_next_view.fn[2]? = some (("is_up" : Str), 3, R_is_up) := rfl
noncomputable def R_next_view : List D → Option D := runF G_next_view false 6 b_next_view
theorem r_next_view (run_ views_ hand_ at_ : D) : R_next_view [run_, views_, hand_, at_] = outR (exs G_next_view false b_next_view [some (.sh run_), some (.sh views_), some (.sh hand_), some (.sh at_), none, none]) := run_eq (fun z => by cases z)
def n_views_of : List Str := ["run", "rounds", "views", "at", "hand"]
def e_views_of_1 : CE := (.call 1 (.cons (.var 0) (.cons (.var 2) (.cons (.var 4) (.cons (.var 3) .nil)))))
def l_views_of_2 : CSs := (.cons (.set 2 (.lc [("hand", 4)] (.nm 4) (.rng1 (.call 0 (.cons (.var 0) .nil))) (.bl true) e_views_of_1))
  .nil)
def e_views_of_3 : CE := (.tup (.cons (.var 4) (.cons (.ix (.ix (.var 0) (.int 0)) (.var 4)) .nil)))
def b_views_of : CSs := (.cons (.set 2 (.lc [("hand", 4)] (.nm 4) (.rng1 (.call 0 (.cons (.var 0) .nil))) (.bl true) e_views_of_3))
  (.cons (.fors (.nm 3) (.rng2 (.int 1) (.bin .add (.var 1) (.int 1))) l_views_of_2)
  (.cons (.ret (.var 2))
  .nil)))
noncomputable def G_views_of : Gam := ⟨[("many_hands", 1, R_many_hands), ("next_view", 4, R_next_view)], [], []⟩
@[simp] theorem gf_views_of_0 : G_views_of.fn[0]? = some (("many_hands" : Str), 1, R_many_hands) := rfl
@[simp] theorem gf_views_of_1 : G_views_of.fn[1]? = some (("next_view" : Str), 4, R_next_view) := rfl
noncomputable def R_views_of : List D → Option D := runF G_views_of true 5 b_views_of
theorem r_views_of (run_ rounds_ : D) (h : immL [run_, rounds_] = true) : R_views_of [run_, rounds_] = outR (exs G_views_of true b_views_of [some (.sh run_), some (.sh rounds_), none, none, none]) := run_eq (fun _ => h)
def c_rounds_of_1 : CE := (.isi "tuple" (.ix (.var 0) (.int 1)))
def l_rounds_of_2 : CSs := (.cons (.set 0 (.ix (.ix (.var 0) (.int 1)) (.ix (.var 0) (.int 0))))
  (.cons (.set 1 (.bin .add (.var 1) (.int 1)))
  .nil))
def b_rounds_of : CSs := (.cons (.set 1 (.int 0))
  (.cons (.whl FUEL c_rounds_of_1 l_rounds_of_2)
  (.cons (.ret (.var 1))
  .nil)))
noncomputable def G_rounds_of : Gam := ⟨[], [], []⟩
noncomputable def R_rounds_of : List D → Option D := runF G_rounds_of false 2 b_rounds_of
def l_own_past_1 : CSs := (.cons (.set 0 (.ix (.ix (.var 0) (.int 1)) (.ix (.var 0) (.int 0))))
  .nil)
def b_own_past : CSs := (.cons (.fors (.nm 2) (.rng1 (.bin .sub (.call 0 (.cons (.var 0) .nil)) (.var 1))) l_own_past_1)
  (.cons (.ret (.var 0))
  .nil))
noncomputable def G_own_past : Gam := ⟨[("rounds_of", 1, R_rounds_of)], [], []⟩
@[simp] theorem gf_own_past_0 : G_own_past.fn[0]? = some (("rounds_of" : Str), 1, R_rounds_of) := rfl
noncomputable def R_own_past : List D → Option D := runF G_own_past false 3 b_own_past
def b_law_comes_2 : CSs := (.cons (.unp [4, 5] (.var 0))
  (.cons (.ite (.or (.cmp .eq (.var 1) (.var 2)) (.or (.cmp .le (.ix (.var 4) (.var 2)) (.var 3)) (.cmp .lt (.ix (.var 4) (.var 1)) (.var 3)))) (.cons (.ret (.bl false))
  .nil) .nil)
  (.cons (.ret (.or (.cmp .gt (.ix (.var 4) (.var 1)) (.var 3)) (.cmp .eq (.bin .mod (.bin .fdiv (.ix (.var 5) (.var 1)) (.call 0 (.cons (.var 2) .nil))) (.int 2)) (.int 1))))
  .nil)))
noncomputable def G_law_comes_2 : Gam := ⟨[("_law_bit", 1, R_law_bit)], [], []⟩
@[simp] theorem gf_law_comes_2_0 : G_law_comes_2.fn[0]? = some (("_law_bit" : Str), 1, R_law_bit) := rfl
noncomputable def R_law_comes_2 : List D → Option D := runF G_law_comes_2 false 6 b_law_comes_2
def l_law_view_1 : CSs := (.cons (.ite (.or (.cmp .eq (.var 5) (.var 2)) (.call 0 (.cons (.var 1) (.cons (.var 5) (.cons (.var 2) (.cons (.var 3) .nil)))))) (.cons (.app 4 (.call 1 (.cons (.var 0) (.cons (.var 1) (.cons (.var 5) (.cons (.bin .sub (.var 3) (.int 1)) .nil))))))
  .nil) (.cons (.app 4 .non)
  .nil))
  .nil)
def b_law_view : CSs := (.cons (.ite (.cmp .eq (.var 3) (.int 0)) (.cons (.ret (.tup (.cons (.var 2) (.cons (.ix (.ix (.var 0) (.int 0)) (.var 2)) .nil))))
  .nil) .nil)
  (.cons (.set 4 (.lst .nil))
  (.cons (.fors (.nm 5) (.rng1 (.bi .len (.cons (.ix (.var 0) (.int 0)) .nil))) l_law_view_1)
  (.cons (.ret (.tup (.cons (.var 2) (.cons (.bi .tuple (.cons (.var 4) .nil)) .nil))))
  .nil))))
noncomputable def G_law_view (f : List D → Option D) : Gam := ⟨[("_law_comes", 4, R_law_comes_2), ("_law_view", 4, f)], [], []⟩
@[simp] theorem gf_law_view_0 (f : List D → Option D) : (G_law_view f).fn[0]? = some (("_law_comes" : Str), 4, R_law_comes_2) := rfl
@[simp] theorem gf_law_view_1 (f : List D → Option D) : (G_law_view f).fn[1]? = some (("_law_view" : Str), 4, f) := rfl
noncomputable def RB_law_view (f : List D → Option D) : List D → Option D := runF (G_law_view f) false 6 b_law_view
noncomputable def RR_law_view : Nat → List D → Option D
  | 0 => fun _ => none
  | n + 1 => RB_law_view (RR_law_view n)
noncomputable def R_law_view : List D → Option D := RR_law_view 12
noncomputable def G_law_views : Gam := ⟨[("_law_view", 4, R_law_view), ("_law_table", 1, R_law_table)], [], []⟩
@[simp] theorem gf_law_views_0 : G_law_views.fn[0]? = some (("_law_view" : Str), 4, R_law_view) := rfl
@[simp] theorem gf_law_views_1 : G_law_views.fn[1]? = some (("_law_table" : Str), 1, R_law_table) := rfl
def vw (r : Rn) : Nat → Nat → D
  | 0, h => .tup [.int h, .int (r.num h)]
  | n + 1, h => .tup [.int h, .tup ((List.range r.many).map fun o => if o = h ∨ cm r o h (n + 1) = true then vw r n o else .non)]
def vwO (r : Rn) (n h : Nat) : D := if up r h n = true then vw r n h else .non
def part (r : Rn) (n h o : Nat) : D := if o = h ∨ cm r o h (n + 1) = true then vw r n o else .non
section
variable {r : Rn}
theorem vw_succ {n h : Nat} : vw r (n + 1) h = .tup [.int h, .tup ((List.range r.many).map (part r n h))] := rfl
theorem vw_imm : ∀ {n h : Nat}, imm (vw r n h) = true
  | 0, h => by simp [vw]
  | n + 1, h => by
    have : immL ((List.range r.many).map (part r n h)) = true := immL_map fun o _ => by
      unfold part; split
      · exact vw_imm
      · simp
    rw [vw_succ]; simp [this]
theorem vwO_imm {n h : Nat} : imm (vwO r n h) = true := by
  unfold vwO; split
  · exact vw_imm
  · simp
theorem up_down (K : r.Ok) {h m n : Nat} (hm : m ≤ n) (hu : up r h n = true) : up r h m = true := by
  unfold up at *
  cases e : r.tab h with
  | none => rfl
  | some p => rw [e] at hu; simp at hu ⊢; omega
theorem up_zero (K : r.Ok) {h : Nat} : up r h 0 = true := by
  unfold up
  cases e : r.tab h with
  | none => rfl
  | some p => have := (K.tab.ok h p e).1; simp; omega
theorem up_comes {o h n : Nat} (hc : cm r o h (n + 1) = true) : up r o n = true := by
  unfold cm at hc
  unfold up
  cases e : r.tab o with
  | none => rfl
  | some p =>
    rw [e] at hc
    simp at hc ⊢
    omega
theorem part_up (K : r.Ok) {o h n : Nat} (hu : up r h (n + 1) = true) (hc : o = h ∨ cm r o h (n + 1) = true) : vwO r n o = vw r n o := by
  have : up r o n = true := by
    rcases hc with rfl | hc
    · exact up_down K (by omega) hu
    · exact up_comes hc
  unfold vwO; rw [if_pos this]
end
theorem nv_step {rd V d : D} {h o a : Int} {b : Bool} {L : List D} (hc : R_comes [rd, .int o, .int h, .int a] = some (.bl b)) (hx : dIx V (.int o) = some d) (hl : L.length < lim) {v5 : Option Sl} :
    exs G_next_view false l_next_view_1 [some (.sh rd), some (.sh V), some (.sh (.int h)), some (.sh (.int a)), some (.ow (.lst L)), some (.sh (.int o))] = some (.nx [some (.sh rd), some (.sh V), some (.sh (.int h)), some (.sh (.int a)), some (.ow (.lst (L ++ [if o = h ∨ b = true then d else .non]))), some (.sh (.int o))]) := by
  by_cases e : o = h
  · simp [l_next_view_1, e, appR, owned, hl, e ▸ hx]
  · cases b <;> simp [l_next_view_1, e, hc, hx, appR, owned, hl]
theorem nv_top {rd V : D} {h a n : Int} {X L : List D} {v5 : Option Sl} (hu : R_is_up [rd, .int h, .int a] = some (.bl true)) (i0 : evi G_next_view (.rng1 (.call 0 (.cons (.var 0) .nil))) [some (.sh rd), some (.sh V), some (.sh (.int h)), some (.sh (.int a)), some (.ow (.lst [])), none] = some (false, X))
    (hw : forGo (.nm 5) (exs G_next_view false l_next_view_1) X [some (.sh rd), some (.sh V), some (.sh (.int h)), some (.sh (.int a)), some (.ow (.lst [])), none] = some (.nx [some (.sh rd), some (.sh V), some (.sh (.int h)), some (.sh (.int a)), some (.ow (.lst L)), v5])) (him : immL L = true) :
    R_next_view [rd, V, .int h, .int a] = some (.tup [.int h, .tup L]) := by
  rw [r_next_view]
  simp [b_next_view, hu, i0, hw, him]
theorem nv_not {rd V : D} {h a : Int} (hu : R_is_up [rd, .int h, .int a] = some (.bl false)) : R_next_view [rd, V, .int h, .int a] = some .non := by
  rw [r_next_view]
  simp [b_next_view, hu]
theorem e_next_view {r : Rn} (K : r.Ok) {n h : Nat} (hh : h < r.many) : R_next_view [r.d, .lst ((List.range r.many).map (vwO r n)), .int h, .int ((n + 1 : Nat) : Int)] = some (vwO r (n + 1) h) := by
  have hi := K.hi
  have hu := e_is_up K h (n + 1)
  cases u : up r h (n + 1) with
  | false =>
    rw [u] at hu
    rw [nv_not hu]
    unfold vwO; rw [u]; rfl
  | true =>
    rw [u] at hu
    obtain ⟨ρ2, hw, v5, e2⟩ := for_go (t := .nm 5) (body := exs G_next_view false l_next_view_1) (f := fun (o : Nat) => D.int o) (ρ := [some (.sh r.d), some (.sh (.lst ((List.range r.many).map (vwO r n)))), some (.sh (.int h)), some (.sh (.int ((n + 1 : Nat) : Int))), some (.ow (.lst [])), none]) (List.range r.many)
      (fun p ρ => ∃ v5, ρ = [some (.sh r.d), some (.sh (.lst ((List.range r.many).map (vwO r n)))), some (.sh (.int h)), some (.sh (.int ((n + 1 : Nat) : Int))), some (.ow (.lst (p.map (part r n h)))), v5]) ⟨none, rfl⟩ (by
        rintro p o q e ρ ⟨v5, rfl⟩
        have ho : o < r.many := List.mem_range.mp (by rw [e]; simp)
        have hp : p.length ≤ 5 := by
          have := congrArg List.length e
          rw [List.length_append, List.length_range] at this; omega
        have st := nv_step (v5 := none) (e_comes K o h (n + 1) hh) (ix_rangeL (f := vwO r n) ho) (L := p.map (part r n h)) (by rw [List.length_map]; exact Nat.lt_of_le_of_lt hp (by decide))
        refine ⟨_, _, rfl, st, some (.sh (.int o)), ?_⟩
        have e3 : (if ((o : Nat) : Int) = (h : Int) ∨ cm r o h (n + 1) = true then vwO r n o else .non) = part r n h o := by
          unfold part
          by_cases c : o = h ∨ cm r o h (n + 1) = true
          · rw [if_pos c, if_pos (by rcases c with c | c; exact .inl (by rw [c]); exact .inr c), part_up K u c]
          · rw [if_neg c, if_neg (fun z => c (by rcases z with z | z; exact .inl (by omega); exact .inr z))]
        rw [e3, List.map_append]; rfl)
    subst e2
    have i1 : ev G_next_view (.call 0 (.cons (.var 0) .nil)) [some (.sh r.d), some (.sh (.lst ((List.range r.many).map (vwO r n)))), some (.sh (.int h)), some (.sh (.int ((n + 1 : Nat) : Int))), some (.ow (.lst [])), none] = some (.fr, .int r.many) := by
      simp [e_many_hands K]
    have him : immL ((List.range r.many).map (part r n h)) = true := immL_map fun o _ => by
      unfold part; split
      · exact vw_imm
      · simp
    have e5 := nv_top (rd := r.d) (h := (h : Int)) (a := ((n + 1 : Nat) : Int)) (n := 0) hu (evi_rng1 i1 (by omega)) hw him
    rw [e5]
    unfold vwO; rw [u, if_pos rfl, vw_succ]
theorem vo_cell {r : Rn} {V : D} {n a h : Int} {d : D} (hn : R_next_view [r.d, V, .int h, .int a] = some d) : ev G_views_of e_views_of_1 [some (.sh r.d), some (.sh (.int n)), some (.ow V), some (.sh (.int a)), some (.sh (.int h))] = some (.fr, d) := by
  simp [e_views_of_1, hn]
theorem vo_cell0 {r : Rn} {n : Int} {h : Nat} (hh : h < r.many) : ev G_views_of e_views_of_3 [some (.sh r.d), some (.sh (.int n)), none, none, some (.sh (.int h))] = some (.fr, vw r 0 h) := by
  have x0 : dIx r.d (.int 0) = some (.tup r.numL) := by simp [Rn.d]
  have x1 : dIx (.tup r.numL) (.int h) = some (.int (r.num h)) := ix_rangeT (f := fun h => D.int (r.num h)) hh
  simp [e_views_of_3, x0, x1, vw]
theorem vo_step {r : Rn} {V L : List D} {n a : Int} {v4 : Option Sl} (h : ev G_views_of (.lc [("hand", 4)] (.nm 4) (.rng1 (.call 0 (.cons (.var 0) .nil))) (.bl true) e_views_of_1) [some (.sh r.d), some (.sh (.int n)), some (.ow (.lst V)), some (.sh (.int a)), none] = some (.fr, .lst L)) :
    exs G_views_of true l_views_of_2 [some (.sh r.d), some (.sh (.int n)), some (.ow (.lst V)), some (.sh (.int a)), none] = some (.nx [some (.sh r.d), some (.sh (.int n)), some (.ow (.lst L)), some (.sh (.int a)), none]) := by
  simp [l_views_of_2, h]
theorem vo_top {r : Rn} {V L X : List D} {n : Int} {v3 : Option Sl} (him : immL [r.d, .int n] = true) (h0 : ev G_views_of (.lc [("hand", 4)] (.nm 4) (.rng1 (.call 0 (.cons (.var 0) .nil))) (.bl true) e_views_of_3) [some (.sh r.d), some (.sh (.int n)), none, none, none] = some (.fr, .lst V))
    (hX : rng2Of (.int 1) (.int (n + 1)) = some X) (hw : forGo (.nm 3) (exs G_views_of true l_views_of_2) X [some (.sh r.d), some (.sh (.int n)), some (.ow (.lst V)), none, none] = some (.nx [some (.sh r.d), some (.sh (.int n)), some (.ow (.lst L)), v3, none])) (hL : immL L = true) :
    R_views_of [r.d, .int n] = some (.lst L) := by
  rw [r_views_of _ _ him]
  simp [b_views_of, h0, vi_rng2, hX, hw, hL]
theorem e_views_of {r : Rn} (K : r.Ok) {n : Nat} (hn : n ≤ 100) : R_views_of [r.d, .int n] = some (.lst ((List.range r.many).map (vwO r n))) := by
  have hi := K.hi
  have i1 : ∀ v2 v3 : Option Sl, ev G_views_of (.call 0 (.cons (.var 0) .nil)) [some (.sh r.d), some (.sh (.int n)), v2, v3, none] = some (.fr, .int r.many) := fun v2 v3 => by
    simp [e_many_hands K]
  have h0 := ev_lcy (own := [("hand", 4)]) (t := .nm 4) (e := e_views_of_3) (vw r 0) (fun h => [some (.sh r.d), some (.sh (.int n)), none, none, some (.sh (.int h))]) (evi_rng1 (i1 none none) (by omega)) (lim_range (by omega)) rfl
    (fun h hh => ⟨rfl, .fr, vo_cell0 (List.mem_range.mp hh), shb_fr⟩)
  have e0 : (List.range r.many).map (vw r 0) = (List.range r.many).map (vwO r 0) := List.map_congr_left fun h _ => by unfold vwO; rw [if_pos (up_zero K)]
  rw [e0] at h0
  obtain ⟨ρ2, hw, v3, e2⟩ := for_go (t := .nm 3) (body := exs G_views_of true l_views_of_2) (f := fun (k : Nat) => D.int ((1 + k : Nat) : Int)) (ρ := [some (.sh r.d), some (.sh (.int n)), some (.ow (.lst ((List.range r.many).map (vwO r 0)))), none, none]) (List.range n)
    (fun p ρ => ∃ v3, ρ = [some (.sh r.d), some (.sh (.int n)), some (.ow (.lst ((List.range r.many).map (vwO r p.length)))), v3, none]) ⟨none, rfl⟩ (by
      rintro p x q e ρ ⟨v3, rfl⟩
      obtain ⟨hx, hlt, _⟩ := range_at e
      subst hx
      have e1 : (1 + p.length : Nat) = p.length + 1 := by omega
      rw [e1]
      have h1 := ev_lcy (own := [("hand", 4)]) (t := .nm 4) (e := e_views_of_1) (vwO r (p.length + 1)) (fun h => [some (.sh r.d), some (.sh (.int n)), some (.ow (.lst ((List.range r.many).map (vwO r p.length)))), some (.sh (.int ((p.length + 1 : Nat) : Int))), some (.sh (.int h))])
        (evi_rng1 (i1 (some (.ow (.lst ((List.range r.many).map (vwO r p.length))))) (some (.sh (.int ((p.length + 1 : Nat) : Int))))) (by omega)) (lim_range (by omega)) rfl
        (fun h hh => ⟨rfl, .fr, vo_cell (e_next_view K (List.mem_range.mp hh)), shb_fr⟩)
      exact ⟨_, _, rfl, vo_step (v4 := none) h1, _, by rw [List.length_append, List.length_singleton]⟩)
  subst e2
  rw [List.length_range] at hw
  have hX := rng2_small (i := 1) (n := n) (by omega)
  have e3 : ((1 + n : Nat) : Int) = (n : Int) + 1 := by omega
  rw [e3] at hX
  exact vo_top (by simp only [immL_cons, immL_nil, r.imm, im_int, Bool.and_self]) h0 hX hw (immL_map fun h _ => vwO_imm)
end DD
set_option Elab.async false
set_option linter.all false
set_option maxRecDepth 100000
set_option maxHeartbeats 1000000
set_option Elab.async false
set_option linter.all false
set_option maxRecDepth 100000
set_option maxHeartbeats 1000000
namespace DD
open PySem L2
def c_heard_of_1 : CE := (.isN true (.var 2))
def e_heard_of_2 : CE := (.var 1)
def b_heard_of : CSs := (.cons (.ret (.call 0 (.cons (.lc [("hand", 1), ("part", 2)] (.tp [1, 2]) (.enum (.ix (.var 0) (.int 1))) c_heard_of_1 e_heard_of_2) .nil)))
  .nil)
noncomputable def G_heard_of : Gam := ⟨[("mask_of", 1, R_mask_of)], [], []⟩
@[simp] theorem gf_heard_of_0 : G_heard_of.fn[0]? = some (("mask_of" : Str), 1, R_mask_of) := rfl
noncomputable def R_heard_of : List D → Option D := runF G_heard_of false 3 b_heard_of
def b_is_clean : CSs := (.cons (.set 1 (.call 1 (.cons (.var 0) .nil)))
  (.cons (.ite (.cmp .eq (.var 1) (.int 0)) (.cons (.ret (.bl false))
  .nil) .nil)
  (.cons (.ite (.cmp .eq (.var 1) (.int 1)) (.cons (.ret (.cmp .notin .non (.ix (.var 0) (.int 1))))
  .nil) .nil)
  (.cons (.ret (.cmp .eq (.call 0 (.cons (.var 0) .nil)) (.call 0 (.cons (.ix (.ix (.var 0) (.int 1)) (.ix (.var 0) (.int 0))) .nil))))
  .nil))))
noncomputable def G_is_clean : Gam := ⟨[("heard_of", 1, R_heard_of), ("rounds_of", 1, R_rounds_of)], [], []⟩
@[simp] theorem gf_is_clean_0 : G_is_clean.fn[0]? = some (("heard_of" : Str), 1, R_heard_of) := rfl
@[simp] theorem gf_is_clean_1 : G_is_clean.fn[1]? = some (("rounds_of" : Str), 1, R_rounds_of) := rfl
noncomputable def R_is_clean : List D → Option D := runF G_is_clean false 2 b_is_clean
noncomputable def G_law_heard : Gam := ⟨[("_law_comes", 4, R_law_comes_2), ("_law_bit", 1, R_law_bit), ("_law_table", 1, R_law_table)], [], []⟩
@[simp] theorem gf_law_heard_0 : G_law_heard.fn[0]? = some (("_law_comes" : Str), 4, R_law_comes_2) := rfl
@[simp] theorem gf_law_heard_1 : G_law_heard.fn[1]? = some (("_law_bit" : Str), 1, R_law_bit) := rfl
@[simp] theorem gf_law_heard_2 : G_law_heard.fn[2]? = some (("_law_table" : Str), 1, R_law_table) := rfl
def Hp_ (r : Rn) (n h o : Nat) : Bool := decide (o = h) || cm r o h n
theorem vw_nd {r : Rn} {n h : Nat} : isND true (vw r n h) = true := by cases n <;> rfl
theorem zip_range {n : Nat} {g : Nat → D} : (List.range ((List.range n).map g).length).zipWith (fun (i : Nat) d => D.tup [.int i, d]) ((List.range n).map g) = (List.range n).map fun o => .tup [.int o, g o] := by
  rw [List.length_map, List.length_range, List.zipWith_map_right, List.zipWith_self]
theorem plain_vw {r : Rn} : ∀ {n h : Nat}, plainD (2 * n + 1) (vw r n h) = true
  | 0, h => by simp [vw, plainD, plainDs]
  | n + 1, h => by
    have e : plainD (2 * n + 2) (.tup ((List.range r.many).map (part r n h))) = true := by
      simp only [plainD, plainDs_iff]
      intro d hd
      obtain ⟨o, _, rfl⟩ := List.mem_map.mp hd
      unfold part; split
      · exact plain_vw
      · simp only [plainD]
    have e2 : 2 * (n + 1) + 1 = (2 * n + 2) + 1 := by omega
    rw [vw_succ, e2]
    generalize D.tup ((List.range r.many).map (part r n h)) = x at *
    simp only [plainD, plainDs, e, Bool.and_true, Bool.true_and]
end DD
set_option Elab.async false
set_option linter.all false
set_option maxRecDepth 100000
set_option maxHeartbeats 1000000
namespace DD
open PySem L2
noncomputable def G_alike_to : Gam := ⟨[("views_of", 2, R_views_of)], [], []⟩
@[simp] theorem gf_alike_to_0 : G_alike_to.fn[0]? = some (("views_of" : Str), 2, R_views_of) := rfl
def eqB (r s : Rn) : Nat → Nat → Bool
  | 0, h => decide (r.num h = s.num h)
  | n + 1, h => (List.range r.many).all fun o => (Hp_ r (n + 1) h o == Hp_ s (n + 1) h o) && (!Hp_ r (n + 1) h o || eqB r s n o)
theorem eqvAll_map {f g : Nat → D} : ∀ xs : List Nat, PyData.eqvAll (toPys (xs.map f)) (toPys (xs.map g)) = xs.all fun o => PyData.eqv (toPy (f o)) (toPy (g o))
  | [] => by simp [toPys, PyData.eqvAll]
  | x :: xs => by simp [toPys, PyData.eqvAll, eqvAll_map xs]
theorem part_case {r : Rn} {n h o : Nat} : part r n h o = if Hp_ r (n + 1) h o = true then vw r n o else .non := by
  unfold part Hp_
  by_cases c : o = h ∨ cm r o h (n + 1) = true
  · rw [if_pos c, if_pos (by rcases c with c | c <;> simp [c])]
  · rw [if_neg c, if_neg (by intro z; simp only [Bool.or_eq_true, decide_eq_true_eq] at z; exact c z)]
theorem eqv_non {r : Rn} {n h : Nat} : PyData.eqv (toPy (vw r n h)) .none = false ∧ PyData.eqv .none (toPy (vw r n h)) = false := by
  cases n <;> simp [vw, toPy, PyData.eqv]
theorem eqv_vw {r s : Rn} (hm : r.many = s.many) : ∀ {n h : Nat}, PyData.eqv (toPy (vw r n h)) (toPy (vw s n h)) = eqB r s n h
  | 0, h => by
    simp only [vw, toPy, toPys, PyData.eqv, PyData.eqvAll, eqB, beq_self_eq_true, Bool.true_and, Bool.and_true]
    rw [Bool.beq_eq_decide_eq]
  | n + 1, h => by
    have e : PyData.eqvAll (toPys ((List.range r.many).map (part r n h))) (toPys ((List.range s.many).map (part s n h))) = eqB r s (n + 1) h := by
      rw [← hm, eqvAll_map]
      show _ = (List.range r.many).all _
      congr 1
      funext o
      rw [part_case, part_case]
      have ih := eqv_vw hm (n := n) (h := o)
      cases a : Hp_ r (n + 1) h o <;> cases b : Hp_ s (n + 1) h o
      · simp [toPy, PyData.eqv]
      · simp [toPy, eqv_non.2]
      · simp [toPy, eqv_non.1]
      · simp [ih]
    rw [vw_succ, vw_succ]
    simp only [toPy, toPys, PyData.eqv, PyData.eqvAll, beq_self_eq_true, Bool.true_and, Bool.and_true, e]
theorem dEq_vw {r s : Rn} (hm : r.many = s.many) {n h : Nat} (hn : n ≤ 8) (hu : up r h n = true) : dCmp .eq (vwO r n h) (vwO s n h) = some (up s h n && eqB r s n h) := by
  have p1 : shp (vw r n h) = true := plain_shp (plain_vw (r := r) (n := n) (h := h)) (by omega)
  have p2 : shp (vwO s n h) = true := by
    unfold vwO; split
    · exact plain_shp (plain_vw (r := s) (n := n) (h := h)) (by omega)
    · exact plain_shp (n := 0) (by simp only [plainD])
  have e1 : vwO r n h = vw r n h := by unfold vwO; rw [if_pos hu]
  have e2 : dCmp .eq (vw r n h) (vwO s n h) = if shp (vw r n h) && shp (vwO s n h) then some (PyData.eqv (toPy (vw r n h)) (toPy (vwO s n h))) else none := by
    show dEq _ _ = _
    cases n <;> rfl
  rw [e1, e2, p1, p2]
  simp only [Bool.and_self, if_true]
  congr 1
  cases u : up s h n with
  | true => 
    have e3 : vwO s n h = vw s n h := by unfold vwO; rw [if_pos u]
    rw [e3, eqv_vw hm]; rfl
  | false =>
    have e3 : vwO s n h = .non := by unfold vwO; rw [if_neg (by rw [u]; exact Bool.false_ne_true)]
    rw [e3]
    simp only [toPy, Bool.false_and]
    exact eqv_non.1
theorem vwO_isN {r : Rn} {n h : Nat} : isND true (vwO r n h) = up r h n := by
  unfold vwO
  cases u : up r h n with
  | true => rw [if_pos rfl, vw_nd]
  | false => rw [if_neg Bool.false_ne_true]; rfl
end DD
set_option Elab.async false
set_option linter.all false
set_option maxRecDepth 100000
set_option maxHeartbeats 1000000
namespace DD
open PySem L2
noncomputable def G_law_alike_to : Gam := ⟨[("_law_comes", 4, R_law_comes_2), ("_law_table", 1, R_law_table)], [], []⟩
@[simp] theorem gf_law_alike_to_0 : G_law_alike_to.fn[0]? = some (("_law_comes" : Str), 4, R_law_comes_2) := rfl
@[simp] theorem gf_law_alike_to_1 : G_law_alike_to.fn[1]? = some (("_law_table" : Str), 1, R_law_table) := rfl
theorem d_notin_nats {hs : List Nat} {k : Nat} : dCmp .notin (.int k) (.lst (hs.map fun (h : Nat) => D.int h)) = some (!decide (k ∈ hs)) := by
  have h := d_isin_nats (hs := hs) (k := k)
  unfold dCmp at h ⊢
  simp only at h ⊢
  split at h
  · rename_i c
    rw [if_pos c]
    simp only [Option.some.injEq] at h ⊢
    rw [h]
  · cases h
end DD
set_option Elab.async false
set_option linter.all false
set_option maxRecDepth 100000
set_option maxHeartbeats 1000000
set_option Elab.async false
set_option linter.all false
set_option maxRecDepth 100000
set_option maxHeartbeats 1000000
set_option Elab.async false
set_option linter.all false
set_option maxRecDepth 100000
set_option maxHeartbeats 1000000
set_option Elab.async false
set_option linter.all false
set_option maxRecDepth 100000
set_option maxHeartbeats 1000000
namespace DD
open PySem L2
/-- a run with another number -/
def Rn.nu (r : Rn) (j : Nat) (v : Int) : Rn := ⟨r.many, fun x => if x = j then v else r.num x, r.tab⟩
theorem Rn.Ok.nu {r : Rn} (K : r.Ok) {j : Nat} {v : Int} (h : -(10 ^ 60) < v ∧ v < 10 ^ 60) : (r.nu j v).Ok :=
  ⟨K.lo, K.hi, fun x hx => by
    show -(10 ^ 60) < (if x = j then v else r.num x) ∧ (if x = j then v else r.num x) < 10 ^ 60
    split
    · exact h
    · exact K.num x hx, K.tab⟩
theorem sto_nu {r : Rn} {j : Nat} {v : Int} (hj : j < r.many) : dSto (.lst r.numL) (.int j) (.int v) = some (.lst (r.nu j v).numL) := by
  have l1 : r.numL.length = r.many := numL_len
  have ix : ixN r.many (j : Int) = some j := by unfold ixN; simp; omega
  have e1 : r.numL.set j (.int v) = (r.nu j v).numL := by
    have := set_range (f := fun h => D.int (r.num h)) (g := fun h => D.int (if h = j then v else r.num h)) (n := r.many) (k := j) (fun i _ hi => by rw [if_neg hi])
    rw [if_pos rfl] at this
    exact this
  simp only [dSto, l1, ix, Option.map_some, e1]
end DD
set_option Elab.async false
set_option linter.all false
set_option maxRecDepth 100000
set_option maxHeartbeats 1000000
namespace DD
open PySem L2
def l_gather_1 : CSs := (.cons (.ite (.isN true (.var 2)) (.cons (.mc 1 0 (.cons (.var 2) (.cons (.var 1) .nil)))
  .nil) .nil)
  .nil)
def b_gather : CSs := (.cons (.ite (.isi "tuple" (.ix (.var 0) (.int 1))) (.cons (.fors (.nm 2) (.val (.ix (.var 0) (.int 1))) l_gather_1)
  .nil) (.cons (.sto 1 (.ix (.var 0) (.int 0)) (.ix (.var 0) (.int 1)))
  .nil))
  .nil)
noncomputable def G_gather (f : List D → Option D) : Gam := ⟨[], [], [⟨"gather", 2, 1, false, f⟩]⟩
@[simp] theorem gm_gather_0 (f : List D → Option D) : (G_gather f).mf[0]? = some ⟨"gather", 2, 1, false, f⟩ := rfl
noncomputable def RB_gather (f : List D → Option D) : List D → Option D := runM (G_gather f) 1 false 3 b_gather
noncomputable def RR_gather : Nat → List D → Option D
  | 0 => fun _ => none
  | n + 1 => RB_gather (RR_gather n)
noncomputable def R_gather : List D → Option D := RR_gather 12
def b_known : CSs := (.cons (.set 1 .dnil)
  (.cons (.mc 1 0 (.cons (.var 0) (.cons (.var 1) .nil)))
  (.cons (.ret (.srt (.var 1)))
  .nil)))
noncomputable def G_known : Gam := ⟨[], [], [⟨"gather", 2, 1, false, R_gather⟩]⟩
@[simp] theorem gm_known_0 : G_known.mf[0]? = some ⟨"gather", 2, 1, false, R_gather⟩ := rfl
noncomputable def R_known : List D → Option D := runF G_known false 2 b_known
def e_least_known_1 : CE := (.ix (.var 1) (.int 1))
def b_least_known : CSs := (.cons (.ret (.bi .min (.cons (.lc [("pair", 1)] (.nm 1) (.val (.call 0 (.cons (.var 0) .nil))) (.bl true) e_least_known_1) .nil)))
  .nil)
noncomputable def G_least_known : Gam := ⟨[("known", 1, R_known)], [], []⟩
@[simp] theorem gf_least_known_0 : G_least_known.fn[0]? = some (("known" : Str), 1, R_known) := rfl
noncomputable def R_least_known : List D → Option D := runF G_least_known false 2 b_least_known
def kb (r : Rn) : Nat → Nat → Nat → Bool
  | 0, h, o => decide (o = h)
  | n + 1, h, o => (List.range r.many).any fun p => (decide (p = h) || cm r p h (n + 1)) && kb r n p o
def kI (k : Nat) : Key := .inl (k : Int)
def knL (r : Rn) (n h : Nat) : List Nat := (List.range r.many).filter (kb r n h)
end DD
set_option Elab.async false
set_option linter.all false
set_option maxRecDepth 100000
set_option maxHeartbeats 1000000
namespace DD
open PySem L2
def l_lacks_in_1 : CSs := (.cons (.ite (.isN true (.var 5)) (.cons (.set 3 (.bin .bor (.var 3) (.call 0 (.cons (.var 5) (.cons (.bin .sub (.var 1) (.int 1)) (.cons (.var 2) .nil))))))
  .nil) (.cons (.ite (.cmp .le (.var 1) (.var 2)) (.cons (.set 3 (.bin .bor (.var 3) (.call 1 (.cons (.lst (.cons (.var 4) .nil)) .nil))))
  .nil) .nil)
  .nil))
  .nil)
def b_lacks_in : CSs := (.cons (.ite (.cmp .eq (.var 1) (.int 0)) (.cons (.ret (.int 0))
  .nil) .nil)
  (.cons (.set 3 (.int 0))
  (.cons (.fors (.tp [4, 5]) (.enum (.ix (.var 0) (.int 1))) l_lacks_in_1)
  (.cons (.ret (.var 3))
  .nil))))
noncomputable def G_lacks_in (f : List D → Option D) : Gam := ⟨[("lacks_in", 3, f), ("mask_of", 1, R_mask_of)], [], []⟩
@[simp] theorem gf_lacks_in_0 (f : List D → Option D) : (G_lacks_in f).fn[0]? = some (("lacks_in" : Str), 3, f) := rfl
@[simp] theorem gf_lacks_in_1 (f : List D → Option D) : (G_lacks_in f).fn[1]? = some (("mask_of" : Str), 1, R_mask_of) := rfl
noncomputable def RB_lacks_in (f : List D → Option D) : List D → Option D := runF (G_lacks_in f) false 6 b_lacks_in
noncomputable def RR_lacks_in : Nat → List D → Option D
  | 0 => fun _ => none
  | n + 1 => RB_lacks_in (RR_lacks_in n)
noncomputable def R_lacks_in : List D → Option D := RR_lacks_in 12
def b_lacking : CSs := (.cons (.ret (.call 0 (.cons (.var 0) (.cons (.call 1 (.cons (.var 0) .nil)) (.cons (.var 1) .nil)))))
  .nil)
noncomputable def G_lacking : Gam := ⟨[("lacks_in", 3, R_lacks_in), ("rounds_of", 1, R_rounds_of)], [], []⟩
@[simp] theorem gf_lacking_0 : G_lacking.fn[0]? = some (("lacks_in" : Str), 3, R_lacks_in) := rfl
@[simp] theorem gf_lacking_1 : G_lacking.fn[1]? = some (("rounds_of" : Str), 1, R_rounds_of) := rfl
noncomputable def R_lacking : List D → Option D := runF G_lacking false 2 b_lacking
end DD
set_option Elab.async false
set_option linter.all false
set_option maxRecDepth 100000
set_option maxHeartbeats 1000000
namespace DD
open PySem L2
noncomputable def G_law_heard_behind : Gam := ⟨[("_law_comes", 4, R_law_comes_2), ("_law_table", 1, R_law_table)], [], []⟩
@[simp] theorem gf_law_heard_behind_0 : G_law_heard_behind.fn[0]? = some (("_law_comes" : Str), 4, R_law_comes_2) := rfl
@[simp] theorem gf_law_heard_behind_1 : G_law_heard_behind.fn[1]? = some (("_law_table" : Str), 1, R_law_table) := rfl
end DD
set_option Elab.async false
set_option linter.all false
set_option maxRecDepth 100000
set_option maxHeartbeats 1000000
namespace DD
open PySem L2
def n_law_mixed_2 : List Str := ["cell", "k", "mixed"]
def b_law_mixed_2 : CSs := (.cons (.set 2 (.bin .mod (.bin .add (.bin .add (.bin .mul (.bin .mod (.var 0) (.bin .pow (.int 10) (.int 64))) (.int 48271)) (.bin .mul (.bin .mul (.var 1) (.var 1)) (.int 7919))) (.int 1)) (.int 2147483647)))
  (.cons (.ret (.bin .mod (.bin .mul (.var 2) (.var 2)) (.int 2147483629)))
  .nil))
noncomputable def G_law_mixed_2 : Gam := ⟨[], [], []⟩
noncomputable def R_law_mixed_2 : List D → Option D := runF G_law_mixed_2 false 3 b_law_mixed_2
theorem r_law_mixed_2 (cell_ k_ : D) : R_law_mixed_2 [cell_, k_] = outR (exs G_law_mixed_2 false b_law_mixed_2 [some (.sh cell_), some (.sh k_), none]) := run_eq (fun z => by cases z)
def n_law_number_2 : List Str := ["cell"]
def b_law_number_2 : CSs := (.cons (.ite (.cmp .eq (.bin .mod (.var 0) (.int 3)) (.int 0)) (.cons (.ret (.bin .sub (.bin .mod (.bin .fdiv (.var 0) (.int 3)) (.int 4)) (.int 1)))
  .nil) .nil)
  (.cons (.ret (.bin .sub (.bin .mod (.bin .fdiv (.var 0) (.int 3)) (.bin .mul (.int 2) (.bin .pow (.int 10) (.int 59)))) (.bin .pow (.int 10) (.int 59))))
  .nil))
noncomputable def G_law_number_2 : Gam := ⟨[], [], []⟩
noncomputable def R_law_number_2 : List D → Option D := runF G_law_number_2 false 1 b_law_number_2
theorem r_law_number_2 (cell_ : D) : R_law_number_2 [cell_] = outR (exs G_law_number_2 false b_law_number_2 [some (.sh cell_)]) := run_eq (fun z => by cases z)
def n_law_fall : List Str := ["mixed", "hand", "hands", "early", "reached", "at"]
def b_law_fall : CSs := (.cons (.set 4 (.bin .mod (.var 0) (.ix (.lst (.cons (.int 4) (.cons (.int 8) (.cons (.int 16) (.cons (.int 32) .nil))))) (.bin .sub (.var 2) (.int 2)))))
  (.cons (.ite (.and (.cmp .eq (.bin .mod (.bin .fdiv (.var 0) (.int 32)) (.int 3)) (.int 0)) (.not (.var 3))) (.cons (.set 4 (.ix (.lst (.cons (.int 3) (.cons (.int 7) (.cons (.int 15) (.cons (.int 31) .nil))))) (.bin .sub (.var 2) (.int 2))))
  .nil) .nil)
  (.cons (.ite (.cmp .eq (.bin .band (.bin .shr (.var 4) (.var 1)) (.int 1)) (.int 1)) (.cons (.set 4 (.bin .sub (.var 4) (.bin .shl (.int 1) (.var 1))))
  .nil) .nil)
  (.cons (.set 5 (.bin .add (.int 1) (.bin .mod (.bin .fdiv (.var 0) (.int 96)) (.int 3))))
  (.cons (.ite (.cmp .eq (.bin .mod (.bin .fdiv (.var 0) (.int 288)) (.int 7)) (.int 0)) (.cons (.set 5 (.bin .add (.int 1) (.bin .mod (.bin .fdiv (.var 0) (.int 2016)) (.int 5))))
  .nil) .nil)
  (.cons (.ite (.var 3) (.cons (.set 5 (.int 1))
  .nil) .nil)
  (.frz 5 (.cons (.ret (.tup (.cons (.var 1) (.cons (.var 5) (.cons (.var 4) .nil)))))
  .nil))))))))
noncomputable def G_law_fall : Gam := ⟨[], [], []⟩
noncomputable def R_law_fall : List D → Option D := runF G_law_fall false 6 b_law_fall
theorem r_law_fall (mixed_ hand_ hands_ early_ : D) : R_law_fall [mixed_, hand_, hands_, early_] = outR (exs G_law_fall false b_law_fall [some (.sh mixed_), some (.sh hand_), some (.sh hands_), some (.sh early_), none, none]) := run_eq (fun z => by cases z)
def n_law_run_2 : List Str := ["cells", "most", "first", "hands", "falls", "early", "k", "hand", "mixed", "cell"]
def e_law_run_2_1 : CE := (.call 0 (.cons (.var 9) .nil))
def l_law_run_2_2 : CSs := (.cons (.set 7 (.bin .mod (.bin .add (.var 2) (.var 6)) (.var 3)))
  (.cons (.set 8 (.call 2 (.cons (.ix (.var 0) (.var 7)) (.cons (.var 7) .nil))))
  (.cons (.ite (.and (.cmp .lt (.bin .mod (.var 8) (.int 5)) (.int 4)) (.cmp .lt (.bi .len (.cons (.var 4) .nil)) (.var 1))) (.cons (.app 4 (.call 1 (.cons (.bin .fdiv (.var 8) (.int 5)) (.cons (.var 7) (.cons (.var 3) (.cons (.var 5) .nil))))))
  .nil) .nil)
  .nil)))
def b_law_run_2 : CSs := (.cons (.set 3 (.bi .len (.cons (.var 0) .nil)))
  (.cons (.set 4 (.lst .nil))
  (.cons (.set 5 (.cmp .eq (.bin .mod (.bin .fdiv (.var 2) (.int 8)) (.int 2)) (.int 1)))
  (.cons (.fors (.nm 6) (.rng1 (.var 3)) l_law_run_2_2)
  (.cons (.ret (.tup (.cons (.bi .tuple (.cons (.lc [("cell", 9)] (.nm 9) (.val (.var 0)) (.bl true) e_law_run_2_1) .nil)) (.cons (.bi .tuple (.cons (.bi .sorted (.cons (.var 4) .nil)) .nil)) .nil))))
  .nil)))))
noncomputable def G_law_run_2 : Gam := ⟨[("_law_number", 1, R_law_number_2), ("_law_fall", 4, R_law_fall), ("_law_mixed", 2, R_law_mixed_2)], [], []⟩
@[simp] theorem gf_law_run_2_0 : G_law_run_2.fn[0]? = some (("_law_number" : Str), 1, R_law_number_2) := rfl
@[simp] theorem gf_law_run_2_1 : G_law_run_2.fn[1]? = some (("_law_fall" : Str), 4, R_law_fall) := rfl
@[simp] theorem gf_law_run_2_2 : G_law_run_2.fn[2]? = some (("_law_mixed" : Str), 2, R_law_mixed_2) := rfl
noncomputable def R_law_run_2 : List D → Option D := runF G_law_run_2 false 10 b_law_run_2
theorem r_law_run_2 (cells_ most_ first_ : D) : R_law_run_2 [cells_, most_, first_] = outR (exs G_law_run_2 false b_law_run_2 [some (.sh cells_), some (.sh most_), some (.sh first_), none, none, none, none, none, none, none]) := run_eq (fun z => by cases z)
noncomputable def G_law_any_runs : Gam := ⟨[("_law_run", 3, R_law_run_2), ("_law_cell_at", 2, R_law_cell_at), ("_law_mixed", 2, R_law_mixed_2)], [], []⟩
@[simp] theorem gf_law_any_runs_0 : G_law_any_runs.fn[0]? = some (("_law_run" : Str), 3, R_law_run_2) := rfl
@[simp] theorem gf_law_any_runs_1 : G_law_any_runs.fn[1]? = some (("_law_cell_at" : Str), 2, R_law_cell_at) := rfl
@[simp] theorem gf_law_any_runs_2 : G_law_any_runs.fn[2]? = some (("_law_mixed" : Str), 2, R_law_mixed_2) := rfl
noncomputable def G_law_runs_2 : Gam := ⟨[("_law_run", 3, R_law_run_2), ("_law_cell_at", 2, R_law_cell_at), ("_law_mixed", 2, R_law_mixed_2)], [], []⟩
@[simp] theorem gf_law_runs_2_0 : G_law_runs_2.fn[0]? = some (("_law_run" : Str), 3, R_law_run_2) := rfl
@[simp] theorem gf_law_runs_2_1 : G_law_runs_2.fn[1]? = some (("_law_cell_at" : Str), 2, R_law_cell_at) := rfl
@[simp] theorem gf_law_runs_2_2 : G_law_runs_2.fn[2]? = some (("_law_mixed" : Str), 2, R_law_mixed_2) := rfl
def n_law_up : List Str := ["run", "hand", "rounds", "fall"]
def l_law_up_1 : CSs := (.cons (.ite (.and (.cmp .eq (.ix (.var 3) (.int 0)) (.var 1)) (.cmp .le (.ix (.var 3) (.int 1)) (.var 2))) (.cons (.ret (.bl false))
  .nil) .nil)
  .nil)
def b_law_up : CSs := (.cons (.fors (.nm 3) (.val (.ix (.var 0) (.int 1))) l_law_up_1)
  (.cons (.ret (.bl true))
  .nil))
noncomputable def G_law_up : Gam := ⟨[], [], []⟩
noncomputable def R_law_up : List D → Option D := runF G_law_up false 4 b_law_up
theorem r_law_up (run_ hand_ rounds_ : D) : R_law_up [run_, hand_, rounds_] = outR (exs G_law_up false b_law_up [some (.sh run_), some (.sh hand_), some (.sh rounds_), none]) := run_eq (fun z => by cases z)
theorem mix1b (n k m : Int) (p4 : dBin .mul (.int k) (.int k) = some (.int (k * k))) (hm : m = (n % 10000000000000000000000000000000000000000000000000000000000000000 * 48271 + (k : Int) * k * 7919 + 1) % 2147483647) (p7 : dBin .mul (.int m) (.int m) = some (.int (m * m))) :
   R_law_mixed_2 [.int n, .int k] = some (.int (m * m % 2147483629)) := by
  rw [r_law_mixed_2]
  simp [b_law_mixed_2, p4, ← hm, p7]
theorem e_law_mixed_2 (n : Int) {k : Nat} (hk : k ≤ 100) : ∃ x : Nat, x < 2147483629 ∧ R_law_mixed_2 [.int n, .int k] = some (.int x) := by
  obtain ⟨m, h0, h1, hm⟩ : ∃ m : Int, 0 ≤ m ∧ m < 2147483647 ∧ m = (n % 10000000000000000000000000000000000000000000000000000000000000000 * 48271 + (k : Int) * k * 7919 + 1) % 2147483647 :=
    ⟨_, Int.emod_nonneg _ (by decide), Int.emod_lt_of_pos _ (by decide), rfl⟩
  obtain ⟨x, hx, e⟩ := mix3 m
  refine ⟨x, hx, ?_⟩
  rw [mix1b n k m (d_mul (.inl (by omega))) hm (d_mul (.inl (by omega))), e]
theorem e_law_number_2 (c : Int) : ∃ v : Int, -(10 ^ 60) < v ∧ v < 10 ^ 60 ∧ R_law_number_2 [.int c] = some (.int v) := by
  have g0 : 0 ≤ c / 3 % 200000000000000000000000000000000000000000000000000000000000 := Int.emod_nonneg _ (by decide)
  have g1 : c / 3 % 200000000000000000000000000000000000000000000000000000000000 < 200000000000000000000000000000000000000000000000000000000000 := Int.emod_lt_of_pos _ (by decide)
  by_cases h : c % 3 = 0
  · refine ⟨c / 3 % 4 - 1, by omega, by omega, ?_⟩
    rw [r_law_number_2]
    simp [b_law_number_2, h]
  · refine ⟨c / 3 % 200000000000000000000000000000000000000000000000000000000000 - 100000000000000000000000000000000000000000000000000000000000, by omega, by omega, ?_⟩
    rw [r_law_number_2]
    simp [b_law_number_2, h]
theorem lfall_run {x h n y z m s : Int} {b : Bool} (hy : dIx (.lst [.int 4, .int 8, .int 16, .int 32]) (.int (n - 2)) = some (.int y)) (hy0 : 0 < y) (hz : dIx (.lst [.int 3, .int 7, .int 15, .int 31]) (.int (n - 2)) = some (.int z))
    (hm : m = if x / 32 % 3 = 0 ∧ b = false then z else x % y) {t B : Int} (hs : dBin .shr (.int m) (.int h) = some (.int s)) (ht : Builtin.bitAnd s 1 = t) (hB : dBin .shl (.int 1) (.int h) = some (.int B)) :
    R_law_fall [.int x, .int h, .int n, .bl b] = some (.tup [.int h, .int (if b then 1 else if x / 288 % 7 = 0 then 1 + x / 2016 % 5 else 1 + x / 96 % 3), .int (if t = 1 then m - B else m)]) := by
  rw [r_law_fall]
  have hmod := d_mod (i := x) hy0
  cases b with
  | true =>
    have : m = x % y := by rw [hm]; simp
    by_cases c1 : t = 1 <;> by_cases c2 : x / 288 % 7 = 0 <;> by_cases c3 : x / 32 % 3 = 0 <;> simp [b_law_fall, hy, hmod, c3, ← this, hs, ht, c1, hB, c2, frzR]
  | false =>
    by_cases c3 : x / 32 % 3 = 0
    · have : m = z := by rw [hm]; simp [c3]
      by_cases c1 : t = 1 <;> by_cases c2 : x / 288 % 7 = 0 <;> simp [b_law_fall, hy, hmod, c3, hz, ← this, hs, ht, c1, hB, c2, frzR]
    · have : m = x % y := by rw [hm]; simp [c3]
      by_cases c1 : t = 1 <;> by_cases c2 : x / 288 % 7 = 0 <;> simp [b_law_fall, hy, hmod, c3, ← this, hs, ht, c1, hB, c2, frzR]
theorem band1 : ∀ m : Fin 32, ∀ h : Fin 5, Builtin.bitAnd ((m.val : Int) / 2 ^ h.val) 1 = if m.val.testBit h.val = true then 1 else 0 := by decide +kernel
theorem unbit2 : ∀ m : Fin 32, ∀ h : Fin 5, m.val.testBit h.val = true → 2 ^ h.val ≤ m.val ∧ (m.val - 2 ^ h.val).testBit h.val = false := by decide +kernel
theorem unb {n h m : Nat} (hml : m < 2 ^ n) (b2 : m.testBit h = true → 2 ^ h ≤ m ∧ (m - 2 ^ h).testBit h = false) : ∃ m' : Nat, m' < 2 ^ n ∧ m'.testBit h = false ∧ (m' : Int) = if (if m.testBit h = true then (1 : Int) else 0) = 1 then (m : Int) - ((2 ^ h : Nat) : Int) else m := by
  generalize 2 ^ n = P at *
  cases hb : m.testBit h with
  | false => exact ⟨m, hml, hb, by simp⟩
  | true =>
    obtain ⟨c1, c2⟩ := b2 hb
    refine ⟨m - 2 ^ h, Nat.lt_of_le_of_lt (Nat.sub_le _ _) hml, c2, ?_⟩
    generalize 2 ^ h = B at *
    simp only [if_true]
    omega
theorem e_law_fall {x h n : Nat} (b : Bool) (hn : 2 ≤ n) (hn5 : n ≤ 5) (hh : h < n) : ∃ a m : Nat, 1 ≤ a ∧ a ≤ 5 ∧ m < 2 ^ n ∧ m.testBit h = false ∧ R_law_fall [.int x, .int h, .int n, .bl b] = some (fallD h (a, m)) := by
  have hy : dIx (.lst [.int 4, .int 8, .int 16, .int 32]) (.int ((n : Int) - 2)) = some (.int ((2 ^ n : Nat) : Int)) := by
    have hc : n = 2 ∨ n = 3 ∨ n = 4 ∨ n = 5 := by omega
    rcases hc with rfl | rfl | rfl | rfl <;> rfl
  have hz : dIx (.lst [.int 3, .int 7, .int 15, .int 31]) (.int ((n : Int) - 2)) = some (.int ((2 ^ n - 1 : Nat) : Int)) := by
    have hc : n = 2 ∨ n = 3 ∨ n = 4 ∨ n = 5 := by omega
    rcases hc with rfl | rfl | rfl | rfl <;> rfl
  have p32 := pow5 hn5
  have pos : 0 < 2 ^ n := Nat.pow_pos (by decide)
  have bb := band1
  have ub := unbit2
  have hB : dBin .shl (.int 1) (.int h) = some (.int ((2 ^ h : Nat) : Int)) := by
    rw [d_shl (by omega) (by omega) (by decide)]; simp
  have posh : 0 < 2 ^ h := Nat.pow_pos (by decide)
  obtain ⟨m, hml, hm⟩ : ∃ m : Nat, m < 2 ^ n ∧ (m : Int) = if (x : Int) / 32 % 3 = 0 ∧ b = false then ((2 ^ n - 1 : Nat) : Int) else (x : Int) % ((2 ^ n : Nat) : Int) := by
    generalize 2 ^ n = P at *
    by_cases c : (x : Int) / 32 % 3 = 0 ∧ b = false
    · exact ⟨P - 1, by omega, by rw [if_pos c]⟩
    · refine ⟨x % P, Nat.mod_lt _ pos, by rw [if_neg c]; omega⟩
  have b1 := bb ⟨m, by omega⟩ ⟨h, by omega⟩
  have b2 := ub ⟨m, by omega⟩ ⟨h, by omega⟩
  simp only [] at b1 b2
  have hs : dBin .shr (.int m) (.int h) = some (.int ((m : Int) / 2 ^ h)) := by rw [d_shr (by omega)]; simp
  have st := lfall_run (x := x) (h := h) (n := n) (b := b) hy (by omega) hz hm hs b1 hB
  rw [st]
  clear st hs hB b1 hy hz bb ub
  have ha : ∃ a : Nat, 1 ≤ a ∧ a ≤ 5 ∧ (a : Int) = if b = true then 1 else if (x : Int) / 288 % 7 = 0 then 1 + (x : Int) / 2016 % 5 else 1 + (x : Int) / 96 % 3 := by
    cases b with
    | true => exact ⟨1, by omega, by omega, by simp⟩
    | false =>
      by_cases c : (x : Int) / 288 % 7 = 0
      · exact ⟨1 + x / 2016 % 5, by omega, by omega, by simp [c]⟩
      · exact ⟨1 + x / 96 % 3, by omega, by omega, by simp [c]⟩
  obtain ⟨a, a1, a5, ea⟩ := ha
  rw [← ea]
  obtain ⟨m', u1, u2, u3⟩ := unb hml b2
  rw [← u3]
  exact ⟨a, m', a1, a5, u1, u2, rfl⟩
abbrev Q := Nat × (Nat × Nat)
def tabQ (L : List Q) (h : Nat) : Option (Nat × Nat) := (L.find? fun q => decide (q.1 = h)).map (·.2)
structure LOk (n : Nat) (L : List Q) : Prop where
  nd : (L.map (·.1)).Nodup
  ok : ∀ q ∈ L, q.1 < n ∧ 1 ≤ q.2.1 ∧ q.2.1 ≤ 5 ∧ q.2.2 < 2 ^ n ∧ q.2.2.testBit q.1 = false
theorem tabQ_mem {L : List Q} (nd : (L.map (·.1)).Nodup) {q : Q} : q ∈ L ↔ tabQ L q.1 = some q.2 := by
  unfold tabQ
  induction L with
  | nil => simp
  | cons p L ih =>
    rw [List.map_cons, List.nodup_cons] at nd
    by_cases e : p.1 = q.1
    · rw [List.find?_cons_of_pos (by simp [e])]
      simp only [Option.map_some, Option.some.injEq, List.mem_cons]
      constructor
      · rintro (rfl | z)
        · rfl
        · exact absurd (List.mem_map_of_mem (f := (·.1)) z) (by rw [← e]; exact nd.1)
      · intro z
        left
        exact (Prod.ext e z).symm
    · rw [List.find?_cons_of_neg (by simp [e]), ← ih nd.2, List.mem_cons]
      exact ⟨fun z => z.elim (fun w => absurd (congrArg (·.1) w).symm e) id, .inr⟩
theorem tabQ_perm {n : Nat} {L : List Q} (K : LOk n L) : (prs (tabQ L) (List.range n)).Perm L := by
  have nd2 : (prs (tabQ L) (List.range n)).Nodup := (prs_pw (List.pairwise_lt_range)).imp fun {a b} h e => by subst e; omega
  have nd1 : L.Nodup := (List.pairwise_map.mp K.nd).imp fun {a b} h e => h (by rw [e])
  refine (List.perm_ext_iff_of_nodup nd2 nd1).mpr fun q => ?_
  rw [tabQ_mem K.nd]
  constructor
  · exact fun h => (prs_mem h).2
  · intro h
    unfold prs
    rw [List.mem_filterMap]
    exact ⟨q.1, List.mem_range.mpr (K.ok q ((tabQ_mem K.nd).mpr h)).1, by rw [h]; rfl⟩
theorem LOk.tab {n : Nat} {L : List Q} (K : LOk n L) : TabOk n (tabQ L) :=
  ⟨fun h hh => by
    cases e : tabQ L h with
    | none => rfl
    | some p => have := (K.ok (h, p) ((tabQ_mem K.nd).mpr e)).1; simp only [] at this; omega,
   fun h p e => (K.ok (h, p) ((tabQ_mem K.nd).mpr e)).2⟩
theorem sorted_Q {n : Nat} (hn : n ≤ 5) {L : List Q} (K : LOk n L) : dBI .sorted [.lst (L.map fallQ)] = some (.lst (fallL (tabQ L) (List.range n))) := by
  by_cases h : L = []
  · subst h
    have hp := tabQ_perm K
    have : prs (tabQ []) (List.range n) = [] := hp.eq_nil
    unfold fallL
    rw [this]
    show dSorted [.lst []] = _
    simp [dSorted, intsOf, sortI]
  · exact sorted_falls K.tab hn (tabQ_perm K) h
theorem fallQ_len {L : List Q} : (L.map fallQ).length = L.length := List.length_map ..
theorem lr2_step {cs : D} {t first n h c x k : Int} {b : Bool} {F : List D} {d : D} {a7 a8 a9 : Option Sl} (hF : F.length ≤ 5) (hn : 0 < n) (hh : h = (first + k) % n) (hc : dIx cs (.int h) = some (.int c)) (hx : R_law_mixed_2 [.int c, .int h] = some (.int x))
    (hd : R_law_fall [.int (x / 5), .int h, .int n, .bl b] = some d) :
    exs G_law_run_2 false l_law_run_2_2 [some (.sh cs), some (.sh (.int t)), some (.sh (.int first)), some (.sh (.int n)), some (.ow (.lst F)), some (.sh (.bl b)), some (.sh (.int k)), a7, a8, a9] =
      some (.nx [some (.sh cs), some (.sh (.int t)), some (.sh (.int first)), some (.sh (.int n)), some (.ow (.lst (if x % 5 < 4 ∧ (F.length : Int) < t then F ++ [d] else F))), some (.sh (.bl b)), some (.sh (.int k)), some (.sh (.int h)), some (.sh (.int x)), a9]) := by
  subst hh
  have hl : F.length ≤ lim := Nat.le_trans hF (by decide)
  have hl2 : F.length < lim := Nat.lt_of_le_of_lt hF (by decide)
  have hm := d_mod (i := first + k) hn
  generalize (first + k) % n = h at *
  by_cases c1 : x % 5 < 4
  · by_cases c2 : (F.length : Int) < t
    · simp [l_law_run_2_2, hm, hc, hx, c1, c2, len_lst hl, hd, appR, owned, hl2]
    · simp [l_law_run_2_2, hm, hc, hx, c1, c2, len_lst hl]
  · simp [l_law_run_2_2, hm, hc, hx, c1]
theorem lr2_top {cs : D} {t first n : Int} {F N S X : List D} {a6 a7 a8 : Option Sl} (hl : dLen [cs] = some (.int n)) (hX : rng1Of (.int n) = some X)
    (hw : forGo (.nm 6) (exs G_law_run_2 false l_law_run_2_2) X [some (.sh cs), some (.sh (.int t)), some (.sh (.int first)), some (.sh (.int n)), some (.ow (.lst [])), some (.sh (.bl (decide (first / 8 % 2 = 1)))), none, none, none, none] =
      some (.nx [some (.sh cs), some (.sh (.int t)), some (.sh (.int first)), some (.sh (.int n)), some (.ow (.lst F)), some (.sh (.bl (decide (first / 8 % 2 = 1)))), a6, a7, a8, none]))
    (hN : ev G_law_run_2 (.lc [("cell", 9)] (.nm 9) (.val (.var 0)) (.bl true) e_law_run_2_1) [some (.sh cs), some (.sh (.int t)), some (.sh (.int first)), some (.sh (.int n)), some (.ow (.lst F)), some (.sh (.bl (decide (first / 8 % 2 = 1)))), a6, a7, a8, none] = some (.fr, .lst N))
    (hS : dBI .sorted [.lst F] = some (.lst S)) (i1 : immL N = true) (i2 : immL S = true) : R_law_run_2 [cs, .int t, .int first] = some (.tup [.tup N, .tup S]) := by
  rw [r_law_run_2]
  simp [b_law_run_2, hl, vi_rng1, hX, hw, hN, hS, i1, i2]
theorem lr2_cell {a0 a1 a2 a3 a4 a5 a6 a7 a8 : Option Sl} {c v : Int} (h : R_law_number_2 [.int c] = some (.int v)) : ev G_law_run_2 e_law_run_2_1 [a0, a1, a2, a3, a4, a5, a6, a7, a8, some (.sh (.int c))] = some (.fr, .int v) := by
  simp [e_law_run_2_1, h]
theorem map_range_getD {cs : List Int} : (List.range cs.length).map (fun h => cs.getD h 0) = cs := by
  apply List.ext_getElem
  · simp
  · intro i h1 h2
    simp at h1
    simp [List.getD, List.getElem?_eq_getElem h1]
theorem e_law_run_2 {cs : List Int} {n : Nat} (hn : 2 ≤ n) (hn5 : n ≤ 5) (hl : cs.length = n) (t : Int) (first : Nat) :
    ∃ r : Rn, r.Ok ∧ r.many = n ∧ ((0 ≤ t) → ((prs r.tab (List.range n)).length : Int) ≤ t) ∧ R_law_run_2 [.lst (cs.map .int), .int t, .int first] = some r.d := by
  have hc : ∀ h, h < cs.length → dIx (.lst (cs.map .int)) (.int h) = some (.int (cs.getD h 0)) := fun h hh => by
    rw [ix_mapL (x := cs[h]) (by rw [List.getElem?_eq_getElem])]
    simp [List.getElem?_eq_getElem hh]
  generalize hcs : D.lst (cs.map .int) = CS at hc
  generalize hb : decide ((first : Int) / 8 % 2 = 1) = b
  obtain ⟨ρ2, hw, L, a6, a7, a8, K, hlen, hk, e2⟩ := for_go (t := .nm 6) (body := exs G_law_run_2 false l_law_run_2_2) (f := fun (k : Nat) => D.int k) (ρ := [some (.sh CS), some (.sh (.int t)), some (.sh (.int first)), some (.sh (.int n)), some (.ow (.lst [])), some (.sh (.bl b)), none, none, none, none]) (List.range n)
    (fun p ρ => ∃ (L : List Q) (a6 a7 a8 : Option Sl), LOk n L ∧ (0 ≤ t → (L.length : Int) ≤ t) ∧ (∀ q ∈ L, ∃ j, j < p.length ∧ q.1 = (first + j) % n) ∧ ρ = [some (.sh CS), some (.sh (.int t)), some (.sh (.int first)), some (.sh (.int n)), some (.ow (.lst (L.map fallQ))), some (.sh (.bl b)), a6, a7, a8, none])
    ⟨[], none, none, none, ⟨List.nodup_nil, fun q h => by cases h⟩, fun h => h, (fun q h => by cases h), rfl⟩ (by
      rintro p x q e ρ ⟨L, a6, a7, a8, K, hlt, hk, rfl⟩
      obtain ⟨hx, hltn, _⟩ := range_at e
      subst hx
      generalize hkk : p.length = k at *
      have hhn : (first + k) % n < n := Nat.mod_lt _ (by omega)
      obtain ⟨y, hy, ey⟩ := e_law_mixed_2 (cs.getD ((first + k) % n) 0) (k := (first + k) % n) (by omega)
      obtain ⟨a, m, a1, a5, m1, m2, ed⟩ := e_law_fall (x := y / 5) b hn hn5 hhn
      have hLn : L.length ≤ 5 := by
        have h1 := (tabQ_perm K).length_eq
        have h2 := prs_len (tabQ L) (List.range n)
        rw [List.length_range] at h2
        omega
      have e5 : ((y / 5 : Nat) : Int) = (y : Int) / 5 := by omega
      have st := lr2_step (t := t) (first := first) (n := n) (k := k) (h := ((first + k) % n : Nat)) (x := y) (b := b) (F := L.map fallQ) (a7 := a7) (a8 := a8) (a9 := none) (by rw [fallQ_len]; exact hLn) (by omega) (by push_cast; rfl) (hc _ (by omega)) ey (e5 ▸ ed)
      refine ⟨_, _, rfl, st, ?_⟩
      rw [fallQ_len]
      by_cases cc : (y : Int) % 5 < 4 ∧ (L.length : Int) < t
      · rw [if_pos cc]
        refine ⟨L ++ [((first + k) % n, (a, m))], some (.sh (.int k)), some (.sh (.int ((first + k) % n : Nat))), some (.sh (.int y)), ⟨?_, ?_⟩, fun _ => ?_, ?_, ?_⟩
        · rw [List.map_append, List.nodup_append]
          refine ⟨K.nd, by simp, fun u hu w hw => ?_⟩
          simp only [List.map_cons, List.map_nil, List.mem_singleton] at hw
          subst hw
          obtain ⟨q', hq', rfl⟩ := List.mem_map.mp hu
          obtain ⟨j, hj, ej⟩ := hk q' hq'
          rw [ej]
          intro eq
          have h1 := Nat.div_add_mod (first + j) n
          have h2 := Nat.div_add_mod (first + k) n
          rw [eq] at h1
          have hkn : k < n := by omega
          have h3 : n * ((first + k) / n) - n * ((first + j) / n) = k - j := by omega
          rw [← Nat.mul_sub] at h3
          have h4 : 0 < k - j := by omega
          have h5 : k - j < n := by omega
          rcases Nat.eq_zero_or_pos ((first + k) / n - (first + j) / n) with z | z
          · rw [z] at h3; omega
          · have := Nat.le_mul_of_pos_right n z
            omega
        · intro q hq
          rcases List.mem_append.mp hq with z | z
          · exact K.ok q z
          · rw [List.mem_singleton] at z
            subst z
            exact ⟨hhn, a1, a5, m1, m2⟩
        · rw [List.length_append, List.length_singleton]
          omega
        · intro q hq
          rcases List.mem_append.mp hq with z | z
          · obtain ⟨j, hj, ej⟩ := hk q z
            exact ⟨j, by rw [List.length_append, List.length_singleton]; omega, ej⟩
          · rw [List.mem_singleton] at z
            subst z
            exact ⟨k, by rw [List.length_append, List.length_singleton]; omega, rfl⟩
        · rw [List.map_append]
          rfl
      · rw [if_neg cc]
        refine ⟨L, some (.sh (.int k)), some (.sh (.int ((first + k) % n : Nat))), some (.sh (.int y)), K, hlt, fun q hq => ?_, rfl⟩
        obtain ⟨j, hj, ej⟩ := hk q hq
        exact ⟨j, by rw [List.length_append, List.length_singleton]; omega, ej⟩)
  subst e2
  refine ⟨⟨n, fun h => Classical.choose (e_law_number_2 (cs.getD h 0)), tabQ L⟩, ⟨hn, hn5, fun h hh => ?_, K.tab⟩, rfl, fun h0 => ?_, ?_⟩
  · have := Classical.choose_spec (e_law_number_2 (cs.getD h 0))
    exact ⟨this.1, this.2.1⟩
  · rw [(tabQ_perm K).length_eq]
    exact hlen h0
  · have hN := ev_lcy (Γ := G_law_run_2) (own := [("cell", 9)]) (t := .nm 9) (it := .val (.var 0)) (e := e_law_run_2_1) (b := false) (ρ := [some (.sh CS), some (.sh (.int t)), some (.sh (.int first)), some (.sh (.int n)), some (.ow (.lst (L.map fallQ))), some (.sh (.bl b)), a6, a7, a8, none]) (xs := List.range n) (f := fun h => D.int (cs.getD h 0)) (fun h => D.int (Classical.choose (e_law_number_2 (cs.getD h 0))))
      (fun h => [some (.sh CS), some (.sh (.int t)), some (.sh (.int first)), some (.sh (.int n)), some (.ow (.lst (L.map fallQ))), some (.sh (.bl b)), a6, a7, a8, some (.sh (.int (cs.getD h 0)))])
      (by
        have : (List.range n).map (fun h => D.int (cs.getD h 0)) = cs.map .int := by
          have := congrArg (List.map D.int) (map_range_getD (cs := cs))
          rw [List.map_map, hl] at this
          exact this
        rw [this, ← hcs]
        simp [itemsOf]) (lim_range (by omega)) rfl (fun h hh => ⟨rfl, .fr, lr2_cell (Classical.choose_spec (e_law_number_2 (cs.getD h 0))).2.2, rfl⟩)
    have hlen2 : dLen [CS] = some (.int n) := by
      rw [← hcs, len_lst (by rw [List.length_map, hl]; exact lim_small (by omega)), List.length_map, hl]
    have hX := rng1_small (n := n) (by omega)
    subst hb
    exact lr2_top hlen2 hX hw hN (sorted_Q hn5 K) (immL_map fun _ _ => by simp) imm_falls
end DD
set_option Elab.async false
set_option linter.all false
set_option maxRecDepth 100000
set_option maxHeartbeats 1000000
set_option Elab.async false
set_option linter.all false
set_option maxRecDepth 100000
set_option maxHeartbeats 1000000
namespace DD
open PySem L2
def l_found_out_1 : CSs := (.cons (.ite (.and (.cmp .ne (.var 2) (.int 0)) (.cmp .lt (.var 5) (.var 1))) (.cons (.set 3 (.bin .bor (.var 3) (.call 0 (.cons (.lst (.cons (.var 4) .nil)) .nil))))
  .nil) (.cons (.ite (.and (.cmp .eq (.var 5) (.var 1)) (.cmp .ne (.bin .band (.var 2) (.var 6)) (.var 2))) (.cons (.set 3 (.bin .bor (.var 3) (.call 0 (.cons (.lst (.cons (.var 4) .nil)) .nil))))
  .nil) .nil)
  .nil))
  .nil)
def b_found_out : CSs := (.cons (.set 2 (.call 0 (.cons (.call 1 (.cons (.var 0) (.cons (.var 1) .nil))) .nil)))
  (.cons (.set 3 (.int 0))
  (.cons (.fors (.tp [4, 5, 6]) (.val (.ix (.var 0) (.int 1))) l_found_out_1)
  (.cons (.ret (.var 3))
  .nil))))
noncomputable def G_found_out : Gam := ⟨[("mask_of", 1, R_mask_of), ("who_is_up", 2, R_who_is_up)], [], []⟩
@[simp] theorem gf_found_out_0 : G_found_out.fn[0]? = some (("mask_of" : Str), 1, R_mask_of) := rfl
@[simp] theorem gf_found_out_1 : G_found_out.fn[1]? = some (("who_is_up" : Str), 2, R_who_is_up) := rfl
noncomputable def R_found_out : List D → Option D := runF G_found_out false 7 b_found_out
def l_waste_of_1 : CSs := (.cons (.set 1 (.bi .max (.cons (.var 1) (.cons (.bin .sub (.bi .len (.cons (.call 0 (.cons (.call 1 (.cons (.var 0) (.cons (.var 2) .nil))) .nil)) .nil)) (.var 2)) .nil))))
  .nil)
def b_waste_of : CSs := (.cons (.set 1 (.int 0))
  (.cons (.fors (.nm 2) (.rng2 (.int 1) (.bin .add (.glob 0) (.int 1))) l_waste_of_1)
  (.cons (.ret (.var 1))
  .nil)))
noncomputable def G_waste_of : Gam := ⟨[("hands_in", 1, R_hands_in), ("found_out", 2, R_found_out)], [("LAST", .int 5)], []⟩
@[simp] theorem gf_waste_of_0 : G_waste_of.fn[0]? = some (("hands_in" : Str), 1, R_hands_in) := rfl
@[simp] theorem gf_waste_of_1 : G_waste_of.fn[1]? = some (("found_out" : Str), 2, R_found_out) := rfl
@[simp] theorem gg_waste_of_0 : G_waste_of.gl[0]? = some (("LAST" : Str), D.int 5) := rfl
noncomputable def R_waste_of : List D → Option D := runF G_waste_of false 3 b_waste_of
def b_keeps : CSs := (.cons (.ret (.and (.call 0 (.cons (.var 1) .nil)) (.and (.cmp2 .le .le (.int 0) (.var 1) (.bin .sub (.call 1 (.cons (.var 0) .nil)) (.int 2))) (.cmp .le (.bi .len (.cons (.ix (.var 0) (.int 1)) .nil)) (.var 1)))))
  .nil)
noncomputable def G_keeps : Gam := ⟨[("is_whole", 1, R_is_whole), ("many_hands", 1, R_many_hands)], [], []⟩
@[simp] theorem gf_keeps_0 : G_keeps.fn[0]? = some (("is_whole" : Str), 1, R_is_whole) := rfl
@[simp] theorem gf_keeps_1 : G_keeps.fn[1]? = some (("many_hands" : Str), 1, R_many_hands) := rfl
noncomputable def R_keeps : List D → Option D := runF G_keeps false 2 b_keeps
def b_closing_round : CSs := (.cons (.ite (.not (.call 1 (.cons (.var 0) (.cons (.var 1) .nil)))) (.cons (.rais "NoBound")
  .nil) .nil)
  (.cons (.ret (.bin .sub (.bin .add (.var 1) (.int 1)) (.call 0 (.cons (.var 0) .nil))))
  .nil))
noncomputable def G_closing_round : Gam := ⟨[("waste_of", 1, R_waste_of), ("keeps", 2, R_keeps)], [], []⟩
@[simp] theorem gf_closing_round_0 : G_closing_round.fn[0]? = some (("waste_of" : Str), 1, R_waste_of) := rfl
@[simp] theorem gf_closing_round_1 : G_closing_round.fn[1]? = some (("keeps" : Str), 2, R_keeps) := rfl
noncomputable def R_closing_round : List D → Option D := runF G_closing_round false 2 b_closing_round
def b_is_open : CSs := (.cons (.ret (.cmp .lt (.var 2) (.call 0 (.cons (.var 0) (.cons (.var 1) .nil)))))
  .nil)
noncomputable def G_is_open : Gam := ⟨[("closing_round", 2, R_closing_round)], [], []⟩
@[simp] theorem gf_is_open_0 : G_is_open.fn[0]? = some (("closing_round" : Str), 2, R_closing_round) := rfl
noncomputable def R_is_open : List D → Option D := runF G_is_open false 3 b_is_open
noncomputable def G_law_waste : Gam := ⟨[("_law_up", 3, R_law_up)], [], []⟩
@[simp] theorem gf_law_waste_0 : G_law_waste.fn[0]? = some (("_law_up" : Str), 3, R_law_up) := rfl
def upL (r : Rn) (n : Nat) : List Nat := (List.range r.many).filter fun h => up r h n
theorem Rn.falls_Q (r : Rn) : r.falls = (prs r.tab (List.range r.many)).map fallQ := rfl
theorem falls_dLen {r : Rn} (K : r.Ok) : dLen [.tup r.falls] = some (.int (prs r.tab (List.range r.many)).length) := by
  have := prs_len r.tab (List.range r.many)
  rw [List.length_range] at this
  have := K.hi
  rw [Rn.falls_Q, len_tup (by rw [List.length_map]; exact lim_small (by omega)), List.length_map]
theorem lu_step {rd : D} {h n x a : Int} {m : D} : exs G_law_up false l_law_up_1 [some (.sh rd), some (.sh (.int h)), some (.sh (.int n)), some (.sh (.tup [.int x, .int a, m]))] =
    some (if x = h ∧ a ≤ n then .rt (.bl false) else .nx [some (.sh rd), some (.sh (.int h)), some (.sh (.int n)), some (.sh (.tup [.int x, .int a, m]))]) := by
  by_cases c1 : x = h
  · by_cases c2 : a ≤ n <;> simp [l_law_up_1, c1, c2, ix_t1]
  · simp [l_law_up_1, c1, ix_t1]
theorem lu_go {rd : D} {h n : Nat} : ∀ (L : List Q) (v : Option Sl), (L.any (fun q => decide (q.1 = h) && decide (q.2.1 ≤ n)) = true → forGo (.nm 3) (exs G_law_up false l_law_up_1) (L.map fallQ) [some (.sh rd), some (.sh (.int h)), some (.sh (.int n)), v] = some (.rt (.bl false))) ∧
    (L.any (fun q => decide (q.1 = h) && decide (q.2.1 ≤ n)) = false → ∃ v', forGo (.nm 3) (exs G_law_up false l_law_up_1) (L.map fallQ) [some (.sh rd), some (.sh (.int h)), some (.sh (.int n)), v] = some (.nx [some (.sh rd), some (.sh (.int h)), some (.sh (.int n)), v']))
  | [], v => ⟨fun z => by simp at z, fun _ => ⟨v, rfl⟩⟩
  | q :: L, v => by
    have st := lu_step (rd := rd) (h := (h : Int)) (n := (n : Int)) (x := (q.1 : Int)) (a := (q.2.1 : Int)) (m := .int q.2.2)
    have e1 : fallQ q = .tup [.int (q.1 : Int), .int (q.2.1 : Int), .int q.2.2] := rfl
    obtain ⟨i1, i2⟩ := lu_go L (some (.sh (fallQ q)))
    rw [List.map_cons, List.any_cons]
    simp only [forGo, bindT, setS, List.set_cons_zero, List.set_cons_succ, Option.bind_eq_bind, Option.bind_some]
    rw [e1, st]
    by_cases c : q.1 = h ∧ q.2.1 ≤ n
    · rw [if_pos ⟨by omega, by omega⟩]
      exact ⟨fun _ => rfl, fun z => by simp [c.1, c.2] at z⟩
    · rw [if_neg (fun z => c ⟨by omega, by omega⟩)]
      have : (decide (q.1 = h) && decide (q.2.1 ≤ n)) = false := by
        rw [Bool.eq_false_iff]; simp only [ne_eq, Bool.and_eq_true, decide_eq_true_eq]; exact c
      rw [this, Bool.false_or]
      exact ⟨i1, i2⟩
theorem lu_top {rd : D} {fs : List D} {h n : Int} {o : Option Out} (x1 : dIx rd (.int 1) = some (.tup fs)) (hw : forGo (.nm 3) (exs G_law_up false l_law_up_1) fs [some (.sh rd), some (.sh (.int h)), some (.sh (.int n)), none] = o) :
    R_law_up [rd, .int h, .int n] = outR (o.bind fun o => nxO o fun _ => some (.rt (.bl true))) := by
  rw [r_law_up]
  simp only [b_law_up, xs_cons, x_for, vi_val, v_ix, v_var, v_int, x_ret, v_bl, List.getElem?_cons_zero, varS_sh, Option.bind_some, x1, Option.map_some, itemsOf, Bool.false_eq_true, if_false, hw]
  cases o with
  | none => rfl
  | some o => cases o <;> simp
theorem e_law_up {r : Rn} (K : r.Ok) (h n : Nat) : R_law_up [r.d, .int h, .int n] = some (.bl (up r h n)) := by
  obtain ⟨i1, i2⟩ := lu_go (rd := r.d) (h := h) (n := n) (prs r.tab (List.range r.many)) none
  have x1 : dIx r.d (.int 1) = some (.tup r.falls) := by simp [Rn.d]
  have key : (prs r.tab (List.range r.many)).any (fun q => decide (q.1 = h) && decide (q.2.1 ≤ n)) = !up r h n := by
    rw [Bool.eq_iff_iff, List.any_eq_true]
    unfold up
    constructor
    · rintro ⟨q, hq, hc⟩
      rw [Bool.and_eq_true, decide_eq_true_eq, decide_eq_true_eq] at hc
      obtain ⟨_, ht⟩ := prs_mem hq
      rw [hc.1] at ht
      rw [ht]
      simp; exact hc.2
    · intro hu
      cases e : r.tab h with
      | none => rw [e] at hu; simp at hu
      | some p =>
        rw [e] at hu
        simp at hu
        have hh : h < r.many := by
          apply Classical.byContradiction
          intro z
          rw [K.tab.out h (by omega)] at e; cases e
        refine ⟨(h, p), ?_, by simp [hu]⟩
        unfold prs
        rw [List.mem_filterMap]
        exact ⟨h, List.mem_range.mpr hh, by rw [e]; rfl⟩
  cases hu : up r h n with
  | true =>
    obtain ⟨v', e⟩ := i2 (by rw [key, hu]; rfl)
    rw [lu_top x1 e]; rfl
  | false =>
    rw [lu_top x1 (i1 (by rw [key, hu]; rfl))]; rfl
end DD
set_option Elab.async false
set_option linter.all false
set_option maxRecDepth 100000
set_option maxHeartbeats 1000000
namespace DD
open PySem L2
def n_law_comes_3 : List Str := ["run", "by", "to", "at", "fall"]
def l_law_comes_3_1 : CSs := (.cons (.ite (.or (.and (.cmp .eq (.ix (.var 4) (.int 0)) (.var 2)) (.cmp .le (.ix (.var 4) (.int 1)) (.var 3))) (.and (.cmp .eq (.ix (.var 4) (.int 0)) (.var 1)) (.cmp .lt (.ix (.var 4) (.int 1)) (.var 3)))) (.cons (.ret (.bl false))
  .nil) .nil)
  (.cons (.ite (.and (.cmp .eq (.ix (.var 4) (.int 0)) (.var 1)) (.and (.cmp .eq (.ix (.var 4) (.int 1)) (.var 3)) (.cmp .eq (.bin .band (.bin .shr (.ix (.var 4) (.int 2)) (.var 2)) (.int 1)) (.int 0)))) (.cons (.ret (.bl false))
  .nil) .nil)
  .nil))
def b_law_comes_3 : CSs := (.cons (.fors (.nm 4) (.val (.ix (.var 0) (.int 1))) l_law_comes_3_1)
  (.cons (.ret (.bl true))
  .nil))
noncomputable def G_law_comes_3 : Gam := ⟨[], [], []⟩
noncomputable def R_law_comes_3 : List D → Option D := runF G_law_comes_3 false 5 b_law_comes_3
theorem r_law_comes_3 (run_ by_ to_ at_ : D) : R_law_comes_3 [run_, by_, to_, at_] = outR (exs G_law_comes_3 false b_law_comes_3 [some (.sh run_), some (.sh by_), some (.sh to_), some (.sh at_), none]) := run_eq (fun z => by cases z)
def n_law_views_2 : List Str := ["run", "rounds", "rows", "hands", "at", "row", "hand", "parts", "by", "number"]
def l_law_views_2_1 : CSs := (.cons (.ite (.or (.cmp .eq (.var 8) (.var 6)) (.call 1 (.cons (.var 0) (.cons (.var 8) (.cons (.var 6) (.cons (.var 4) .nil)))))) (.cons (.sto 7 (.var 8) (.ix (.ix (.var 2) (.neg (.int 1))) (.var 8)))
  .nil) .nil)
  .nil)
def l_law_views_2_2 : CSs := (.cons (.set 7 (.bin .mul (.lst (.cons .non .nil)) (.var 3)))
  (.cons (.fors (.nm 8) (.rng1 (.var 3)) l_law_views_2_1)
  (.cons (.ite (.call 0 (.cons (.var 0) (.cons (.var 6) (.cons (.var 4) .nil)))) (.cons (.app 5 (.tup (.cons (.var 6) (.cons (.bi .tuple (.cons (.var 7) .nil)) .nil))))
  .nil) (.cons (.app 5 .non)
  .nil))
  .nil)))
def l_law_views_2_3 : CSs := (.cons (.set 5 (.lst .nil))
  (.cons (.fors (.nm 6) (.rng1 (.var 3)) l_law_views_2_2)
  (.frz 5 (.cons (.app 2 (.var 5))
  .nil))))
def e_law_views_2_4 : CE := (.tup (.cons (.var 6) (.cons (.var 9) .nil)))
def b_law_views_2 : CSs := (.cons (.set 2 (.lst (.cons (.lc [("hand", 6), ("number", 9)] (.tp [6, 9]) (.enum (.ix (.var 0) (.int 0))) (.bl true) e_law_views_2_4) .nil)))
  (.cons (.set 3 (.bi .len (.cons (.ix (.var 0) (.int 0)) .nil)))
  (.cons (.fors (.nm 4) (.rng2 (.int 1) (.bin .add (.var 1) (.int 1))) l_law_views_2_3)
  (.cons (.ret (.var 2))
  .nil))))
noncomputable def G_law_views_2 : Gam := ⟨[("_law_up", 3, R_law_up), ("_law_comes", 4, R_law_comes_3)], [], []⟩
@[simp] theorem gf_law_views_2_0 : G_law_views_2.fn[0]? = some (("_law_up" : Str), 3, R_law_up) := rfl
@[simp] theorem gf_law_views_2_1 : G_law_views_2.fn[1]? = some (("_law_comes" : Str), 4, R_law_comes_3) := rfl
noncomputable def R_law_views_2 : List D → Option D := runF G_law_views_2 true 10 b_law_views_2
theorem r_law_views_2 (run_ rounds_ : D) (h : immL [run_, rounds_] = true) : R_law_views_2 [run_, rounds_] = outR (exs G_law_views_2 true b_law_views_2 [some (.sh run_), some (.sh rounds_), none, none, none, none, none, none, none, none]) := run_eq (fun _ => h)
noncomputable def G_law_lacks_3 (f : List D → Option D) : Gam := ⟨[], [], [⟨"_law_lacks", 3, 2, true, f⟩]⟩
@[simp] theorem gm_law_lacks_3_0 (f : List D → Option D) : (G_law_lacks_3 f).mf[0]? = some ⟨"_law_lacks", 3, 2, true, f⟩ := rfl
/-- a walk that ends with False at the first bad item -/
theorem chk_go {α : Type} {i : Nat} {body : Rho → Option Out} {f : α → D} (bad : α → Bool) : ∀ (L : List α) (ρ : Rho), (∀ q ∈ L, body (ρ.set i (some (.sh (f q)))) = some (if bad q = true then .rt (.bl false) else .nx (ρ.set i (some (.sh (f q)))))) →
    (L.any bad = true → forGo (.nm i) body (L.map f) ρ = some (.rt (.bl false))) ∧ (L.any bad = false → ∃ ρ2, forGo (.nm i) body (L.map f) ρ = some (.nx ρ2) ∧ (ρ2 = ρ ∨ ∃ v, ρ2 = ρ.set i v))
  | [], ρ, _ => ⟨fun z => by simp at z, fun _ => ⟨ρ, rfl, .inl rfl⟩⟩
  | q :: L, ρ, h => by
    have h1 := h q List.mem_cons_self
    obtain ⟨i1, i2⟩ := chk_go bad L (ρ.set i (some (.sh (f q)))) (fun x hx => by rw [List.set_set]; exact h x (List.mem_cons_of_mem _ hx))
    rw [List.any_cons]
    have e1 : forGo (.nm i) body ((q :: L).map f) ρ = (body (ρ.set i (some (.sh (f q))))).bind fun o => nxO o (forGo (.nm i) body (L.map f)) := by
      simp only [List.map_cons, forGo, bindT, setS, Option.bind_eq_bind, Option.bind_some]
      congr 1
    rw [e1, h1]
    cases c : bad q with
    | true =>
      rw [Bool.true_or, if_pos rfl, Option.bind_some, nxO_rt]
      exact ⟨fun _ => rfl, fun z => by cases z⟩
    | false =>
      rw [Bool.false_or, if_neg Bool.false_ne_true, Option.bind_some, nxO_nx]
      refine ⟨i1, fun z => ?_⟩
      obtain ⟨ρ2, h2, h3⟩ := i2 z
      refine ⟨ρ2, h2, .inr ?_⟩
      rcases h3 with rfl | ⟨v, rfl⟩
      · exact ⟨_, rfl⟩
      · exact ⟨v, by rw [List.set_set]⟩
def bad3 (b t n : Nat) (q : Q) : Bool := (decide (q.1 = t) && decide (q.2.1 ≤ n)) || (decide (q.1 = b) && decide (q.2.1 < n)) || (decide (q.1 = b) && decide (q.2.1 = n) && !q.2.2.testBit t)
theorem c3_step {rd : D} {b t n x a m s k : Int} (hs : dBin .shr (.int m) (.int t) = some (.int s)) (hk : Builtin.bitAnd s 1 = k) : exs G_law_comes_3 false l_law_comes_3_1 [some (.sh rd), some (.sh (.int b)), some (.sh (.int t)), some (.sh (.int n)), some (.sh (.tup [.int x, .int a, .int m]))] =
    some (if (x = t ∧ a ≤ n) ∨ (x = b ∧ a < n) ∨ (x = b ∧ a = n ∧ k = 0) then .rt (.bl false) else .nx [some (.sh rd), some (.sh (.int b)), some (.sh (.int t)), some (.sh (.int n)), some (.sh (.tup [.int x, .int a, .int m]))]) := by
  have x2 : dIx (.tup [.int x, .int a, .int m]) (.int 2) = some (.int m) := rfl
  by_cases c1 : x = t ∧ a ≤ n
  · simp [l_law_comes_3_1, c1.1, c1.2, ix_t1]
  · by_cases c2 : x = b ∧ a < n
    · rw [if_pos (.inr (.inl c2))]
      by_cases c3 : x = t
      · have c4 : ¬ a ≤ n := fun z => c1 ⟨c3, z⟩
        omega
      · simp [l_law_comes_3_1, c3, c2.1, c2.2, ix_t1] <;> simp_all
    · by_cases c5 : x = b ∧ a = n ∧ k = 0
      · rw [if_pos (.inr (.inr c5))]
        have c3 : ¬ x = t := fun z => c1 ⟨z, by omega⟩
        have c6 : ¬ b = t := fun z => c3 (by omega)
        obtain ⟨rfl, rfl, rfl⟩ := c5
        simp [l_law_comes_3_1, c3, c6, ix_t1, x2, hs, hk]
      · rw [if_neg (fun z => z.elim c1 fun z => z.elim c2 c5)]
        by_cases c3 : x = t
        · have c4 : ¬ a ≤ n := fun z => c1 ⟨c3, z⟩
          have c7 : ¬ a < n := by omega
          have c8 : ¬ a = n := by omega
          subst c3
          by_cases c9 : x = b <;> simp [l_law_comes_3_1, c4, c7, c8, c9, ix_t1] <;> simp_all
        · by_cases c9 : x = b
          · have c7 : ¬ a < n := fun z => c2 ⟨c9, z⟩
            by_cases c8 : a = n
            · have c10 : ¬ k = 0 := fun z => c5 ⟨c9, c8, z⟩
              subst c9; subst c8
              simp [l_law_comes_3_1, c3, ix_t1, x2, hs, hk, c10]
            · subst c9
              simp [l_law_comes_3_1, c3, c7, c8, ix_t1]
          · simp [l_law_comes_3_1, c3, c9, ix_t1]
theorem c3_top {rd : D} {fs : List D} {b t n : Int} {o : Option Out} (x1 : dIx rd (.int 1) = some (.tup fs)) (hw : forGo (.nm 4) (exs G_law_comes_3 false l_law_comes_3_1) fs [some (.sh rd), some (.sh (.int b)), some (.sh (.int t)), some (.sh (.int n)), none] = o) :
    R_law_comes_3 [rd, .int b, .int t, .int n] = outR (o.bind fun o => nxO o fun _ => some (.rt (.bl true))) := by
  rw [r_law_comes_3]
  simp only [b_law_comes_3, xs_cons, x_for, vi_val, v_ix, v_var, v_int, x_ret, v_bl, List.getElem?_cons_zero, varS_sh, Option.bind_some, x1, Option.map_some, itemsOf, Bool.false_eq_true, if_false, hw]
  cases o with
  | none => rfl
  | some o => cases o <;> simp
theorem e_law_comes_3 {r : Rn} (K : r.Ok) {b t n : Nat} (ht : t < r.many) (hb : b ≠ t) : R_law_comes_3 [r.d, .int b, .int t, .int n] = some (.bl (cm r b t n)) := by
  have hi := K.hi
  have p32 := pow5 hi
  obtain ⟨i1, i2⟩ := chk_go (i := 4) (body := exs G_law_comes_3 false l_law_comes_3_1) (f := fallQ) (bad3 b t n) (prs r.tab (List.range r.many)) [some (.sh r.d), some (.sh (.int b)), some (.sh (.int t)), some (.sh (.int n)), none] (fun q hq => by
    have ok := K.tab.ok q.1 q.2 (prs_mem hq).2
    have b1 := band1 ⟨q.2.2, by omega⟩ ⟨t, by omega⟩
    simp only [] at b1
    have hs : dBin .shr (.int q.2.2) (.int t) = some (.int ((q.2.2 : Int) / 2 ^ t)) := by rw [d_shr (by omega)]; simp
    have st := c3_step (rd := r.d) (b := b) (n := n) (x := (q.1 : Nat)) (a := (q.2.1 : Nat)) hs b1
    have e1 : fallQ q = .tup [.int (q.1 : Int), .int (q.2.1 : Int), .int q.2.2] := rfl
    show exs _ _ _ [some (.sh r.d), some (.sh (.int b)), some (.sh (.int t)), some (.sh (.int n)), some (.sh (fallQ q))] = _
    rw [e1, st]
    have hc : (((q.1 : Nat) : Int) = (t : Int) ∧ ((q.2.1 : Nat) : Int) ≤ (n : Int) ∨ ((q.1 : Nat) : Int) = (b : Int) ∧ ((q.2.1 : Nat) : Int) < (n : Int) ∨ ((q.1 : Nat) : Int) = (b : Int) ∧ ((q.2.1 : Nat) : Int) = (n : Int) ∧ (if q.2.2.testBit t = true then (1 : Int) else 0) = 0) ↔ bad3 b t n q = true := by
      unfold bad3
      simp only [Bool.or_eq_true, Bool.and_eq_true, decide_eq_true_eq, Bool.not_eq_true', Int.natCast_inj, Int.ofNat_le, Int.ofNat_lt]
      cases q.2.2.testBit t <;> simp <;> omega
    by_cases c : bad3 b t n q = true
    · rw [if_pos (hc.mpr c), if_pos c]
    · rw [if_neg (fun z => c (hc.mp z)), if_neg c]; rfl)
  have x1 : dIx r.d (.int 1) = some (.tup r.falls) := by simp [Rn.d]
  have mem : ∀ {x : Nat} {p : Nat × Nat}, r.tab x = some p → (x, p) ∈ prs r.tab (List.range r.many) := fun {x p} e => by
    have hh : x < r.many := by
      apply Classical.byContradiction
      intro z
      rw [K.tab.out x (by omega)] at e; cases e
    unfold prs
    rw [List.mem_filterMap]
    exact ⟨x, List.mem_range.mpr hh, by rw [e]; rfl⟩
  have key : (prs r.tab (List.range r.many)).any (bad3 b t n) = !cm r b t n := by
    rw [Bool.eq_iff_iff, List.any_eq_true, Bool.not_eq_true']
    unfold cm up
    constructor
    · rintro ⟨q, hq, hc⟩
      obtain ⟨_, hq2⟩ := prs_mem hq
      unfold bad3 at hc
      simp only [Bool.or_eq_true, Bool.and_eq_true, decide_eq_true_eq, Bool.not_eq_true'] at hc
      rcases hc with (⟨e1, e2⟩ | ⟨e1, e2⟩) | ⟨⟨e1, e2⟩, e3⟩
      · rw [e1] at hq2
        rw [hq2]
        simp [Nat.not_lt.mpr e2]
      · rw [e1] at hq2
        rw [hq2]
        have e4 : ¬ n < q.2.1 := by omega
        have e5 : ¬ q.2.1 = n := by omega
        simp [e4, e5]
      · rw [e1] at hq2
        rw [hq2]
        have e4 : ¬ n < q.2.1 := by omega
        simp [e4, e3]
    · intro hc
      rw [decide_eq_false hb] at hc
      simp only [Bool.not_false, Bool.true_and, Bool.and_eq_false_iff] at hc
      rcases hc with hc | hc
      · cases e : r.tab t with
        | none => rw [e] at hc; cases hc
        | some p =>
          rw [e] at hc
          simp at hc
          exact ⟨(t, p), mem e, by simp [bad3, hc]⟩
      · cases e : r.tab b with
        | none => rw [e] at hc; cases hc
        | some p =>
          rw [e] at hc
          simp at hc
          refine ⟨(b, p), mem e, ?_⟩
          unfold bad3
          simp only [Bool.or_eq_true, Bool.and_eq_true, decide_eq_true_eq, Bool.not_eq_true']
          rcases Nat.lt_or_ge p.1 n with z | z
          · exact .inl (.inr ⟨trivial, z⟩)
          · exact .inr ⟨⟨trivial, by omega⟩, by simpa using hc.2 (by omega)⟩
  cases hu : cm r b t n with
  | true =>
    obtain ⟨ρ2, e, _⟩ := i2 (by rw [key, hu]; rfl)
    rw [← Rn.falls_Q] at e
    rw [c3_top x1 e]; rfl
  | false =>
    have e := i1 (by rw [key, hu]; rfl)
    rw [← Rn.falls_Q] at e
    rw [c3_top x1 e]; rfl
def pt (r : Rn) (n h o : Nat) : D := if o = h ∨ cm r o h (n + 1) = true then vwO r n o else .non
def rowD (r : Rn) (n : Nat) : D := .lst ((List.range r.many).map (vwO r n))
theorem lv_l1 {rd R W P d : D} {n a h b m : Int} {a5 a9 : Option Sl} {c : Bool} (hc : b ≠ h → R_law_comes_3 [rd, .int b, .int h, .int a] = some (.bl c)) (hr : dIx R (.int (-1)) = some W) (hd : dIx W (.int b) = some d) {P' : D} (hs : dSto P (.int b) d = some P') :
    exs G_law_views_2 true l_law_views_2_1 [some (.sh rd), some (.sh (.int n)), some (.ow R), some (.sh (.int m)), some (.sh (.int a)), a5, some (.sh (.int h)), some (.ow P), some (.sh (.int b)), a9] =
      some (.nx [some (.sh rd), some (.sh (.int n)), some (.ow R), some (.sh (.int m)), some (.sh (.int a)), a5, some (.sh (.int h)), some (.ow (if b = h ∨ c = true then P' else P)), some (.sh (.int b)), a9]) := by
  by_cases e : b = h
  · subst e
    simp [l_law_views_2_1, hr, hd, stoR, owned, hs]
  · have := hc e
    cases c <;> simp [l_law_views_2_1, e, this, hr, hd, stoR, owned, hs]
theorem lv_l2 {rd R : D} {n a h m : Int} {P P' W X : List D} {a7 a8 b8 a9 : Option Sl} {u : Bool} (hm : dBin .mul (.lst [.non]) (.int m) = some (.lst P)) (hX : rng1Of (.int m) = some X)
    (hw : forGo (.nm 8) (exs G_law_views_2 true l_law_views_2_1) X [some (.sh rd), some (.sh (.int n)), some (.ow R), some (.sh (.int m)), some (.sh (.int a)), some (.ow (.lst W)), some (.sh (.int h)), some (.ow (.lst P)), a8, a9] =
      some (.nx [some (.sh rd), some (.sh (.int n)), some (.ow R), some (.sh (.int m)), some (.sh (.int a)), some (.ow (.lst W)), some (.sh (.int h)), some (.ow (.lst P')), b8, a9])) (hu : R_law_up [rd, .int h, .int a] = some (.bl u)) (hl : W.length < lim) :
    exs G_law_views_2 true l_law_views_2_2 [some (.sh rd), some (.sh (.int n)), some (.ow R), some (.sh (.int m)), some (.sh (.int a)), some (.ow (.lst W)), some (.sh (.int h)), a7, a8, a9] =
      some (.nx [some (.sh rd), some (.sh (.int n)), some (.ow R), some (.sh (.int m)), some (.sh (.int a)), some (.ow (.lst (W ++ [if u = true then .tup [.int h, .tup P'] else .non]))), some (.sh (.int h)), some (.ow (.lst P')), b8, a9]) := by
  cases u <;> simp [l_law_views_2_2, hm, vi_rng1, hX, hw, hu, appR, owned, hl]
theorem lv_l3 {rd : D} {n a m : Int} {R W X : List D} {a5 a6 a7 a8 b6 b7 b8 a9 : Option Sl} (hX : rng1Of (.int m) = some X)
    (hw : forGo (.nm 6) (exs G_law_views_2 true l_law_views_2_2) X [some (.sh rd), some (.sh (.int n)), some (.ow (.lst R)), some (.sh (.int m)), some (.sh (.int a)), some (.ow (.lst [])), a6, a7, a8, a9] =
      some (.nx [some (.sh rd), some (.sh (.int n)), some (.ow (.lst R)), some (.sh (.int m)), some (.sh (.int a)), some (.ow (.lst W)), b6, b7, b8, a9])) (hl : R.length < lim) :
    exs G_law_views_2 true l_law_views_2_3 [some (.sh rd), some (.sh (.int n)), some (.ow (.lst R)), some (.sh (.int m)), some (.sh (.int a)), a5, a6, a7, a8, a9] =
      some (.nx [some (.sh rd), some (.sh (.int n)), some (.ow (.lst (R ++ [.lst W]))), some (.sh (.int m)), some (.sh (.int a)), some (.sh (.lst W)), b6, b7, b8, a9]) := by
  simp [l_law_views_2_3, vi_rng1, hX, hw, frzR, appR, owned, hl]
theorem lvw_top {rd N : D} {n m : Int} {W0 R X : List D} {a4 a5 a6 a7 a8 : Option Sl} (him : immL [rd, .int n] = true) (h0 : ev G_law_views_2 (.lc [("hand", 6), ("number", 9)] (.tp [6, 9]) (.enum (.ix (.var 0) (.int 0))) (.bl true) e_law_views_2_4) [some (.sh rd), some (.sh (.int n)), none, none, none, none, none, none, none, none] = some (.fr, .lst W0))
    (x0 : dIx rd (.int 0) = some N) (hl : dLen [N] = some (.int m)) (hX : rng2Of (.int 1) (.int (n + 1)) = some X)
    (hw : forGo (.nm 4) (exs G_law_views_2 true l_law_views_2_3) X [some (.sh rd), some (.sh (.int n)), some (.ow (.lst [.lst W0])), some (.sh (.int m)), none, none, none, none, none, none] =
      some (.nx [some (.sh rd), some (.sh (.int n)), some (.ow (.lst R)), some (.sh (.int m)), a4, a5, a6, a7, a8, none])) : R_law_views_2 [rd, .int n] = some (.lst R) := by
  rw [r_law_views_2 _ _ him]
  simp [b_law_views_2, h0, x0, hl, vi_rng2, hX, hw, retR, retOk]
theorem ix_last {L : List D} {d : D} (hl : L.length ≤ 1000) : dIx (.lst (L ++ [d])) (.int (-1)) = some d := by
  show atI (L ++ [d]) (-1) = some d
  unfold atI
  have : ixN (L ++ [d]).length (-1) = some L.length := by
    unfold ixN
    simp <;> omega
  rw [this, Option.bind_some]
  simp
theorem lv_hand {r : Rn} (K : r.Ok) {n h : Nat} (hh : h < r.many) {nn : Int} {RL W : List D} (hRL : RL.length ≤ 100) (hW : W.length ≤ 5) {a7 a8 a9 : Option Sl} :
    ∃ b7 b8, exs G_law_views_2 true l_law_views_2_2 [some (.sh r.d), some (.sh (.int nn)), some (.ow (.lst (RL ++ [rowD r n]))), some (.sh (.int r.many)), some (.sh (.int ((n + 1 : Nat) : Int))), some (.ow (.lst W)), some (.sh (.int h)), a7, a8, a9] =
      some (.nx [some (.sh r.d), some (.sh (.int nn)), some (.ow (.lst (RL ++ [rowD r n]))), some (.sh (.int r.many)), some (.sh (.int ((n + 1 : Nat) : Int))), some (.ow (.lst (W ++ [vwO r (n + 1) h]))), some (.sh (.int h)), b7, b8, a9]) := by
  have hi := K.hi
  obtain ⟨ρ2, hw, b8, e2⟩ := for_go (t := .nm 8) (body := exs G_law_views_2 true l_law_views_2_1) (f := fun (o : Nat) => D.int o) (ρ := [some (.sh r.d), some (.sh (.int nn)), some (.ow (.lst (RL ++ [rowD r n]))), some (.sh (.int r.many)), some (.sh (.int ((n + 1 : Nat) : Int))), some (.ow (.lst W)), some (.sh (.int h)), some (.ow (.lst ((List.range r.many).map fun _ => .non))), a8, a9]) (List.range r.many)
    (fun p ρ => ∃ b8, ρ = [some (.sh r.d), some (.sh (.int nn)), some (.ow (.lst (RL ++ [rowD r n]))), some (.sh (.int r.many)), some (.sh (.int ((n + 1 : Nat) : Int))), some (.ow (.lst W)), some (.sh (.int h)), some (.ow (.lst ((List.range r.many).map fun o => if o < p.length then pt r n h o else .non))), b8, a9]) ⟨a8, rfl⟩ (by
      rintro p o q e ρ ⟨b8, rfl⟩
      obtain ⟨hx, hlt, _⟩ := range_at e
      subst hx
      generalize hk : p.length = k at *
      have ixk : ixN ((List.range r.many).map fun o => if o < k then pt r n h o else D.non).length (k : Int) = some k := by
        unfold ixN; simp; omega
      have hs : dSto (.lst ((List.range r.many).map fun o => if o < k then pt r n h o else .non)) (.int k) (vwO r n k) = some (.lst (((List.range r.many).map fun o => if o < k then pt r n h o else .non).set k (vwO r n k))) := by
        simp only [dSto, ixk, Option.map_some]
      have st := lv_l1 (n := nn) (m := r.many) (a5 := some (.ow (.lst W))) (a9 := a9) (b := (k : Int)) (h := (h : Int)) (c := cm r k h (n + 1)) (fun z => e_law_comes_3 K hh (by omega)) (ix_last (L := RL) (d := rowD r n) (by omega)) (ix_rangeL (f := vwO r n) hlt) hs
      refine ⟨_, _, rfl, st, some (.sh (.int k)), ?_⟩
      have e3 : (if (k : Int) = (h : Int) ∨ cm r k h (n + 1) = true then D.lst (((List.range r.many).map fun o => if o < k then pt r n h o else .non).set k (vwO r n k)) else .lst ((List.range r.many).map fun o => if o < k then pt r n h o else .non)) = .lst ((List.range r.many).map fun o => if o < (p ++ [k]).length then pt r n h o else .non) := by
        rw [List.length_append, List.length_singleton, hk]
        by_cases c : k = h ∨ cm r k h (n + 1) = true
        · rw [if_pos (by rcases c with c | c; exact .inl (by omega); exact .inr c)]
          have e4 : vwO r n k = (fun o => if o < k + 1 then pt r n h o else .non) k := by
            show _ = if k < k + 1 then pt r n h k else .non
            rw [if_pos (by omega)]
            unfold pt
            rw [if_pos c]
          refine congrArg D.lst ?_
          rw [e4]
          exact set_range (f := fun o => if o < k then pt r n h o else .non) (g := fun o => if o < k + 1 then pt r n h o else .non) (n := r.many) (k := k) (fun i hi hne => by
            show (if i < k then pt r n h i else D.non) = if i < k + 1 then pt r n h i else D.non
            by_cases l : i < k
            · rw [if_pos l, if_pos (by omega)]
            · rw [if_neg l, if_neg (by omega)])
        · rw [if_neg (by rintro (z | z); exact c (.inl (by omega)); exact c (.inr z))]
          congr 1
          refine List.map_congr_left fun o ho => ?_
          by_cases l : o < k
          · rw [if_pos l, if_pos (by omega)]
          · rw [if_neg l]
            by_cases l2 : o = k
            · subst l2
              rw [if_pos (by omega)]
              unfold pt; rw [if_neg c]
            · rw [if_neg (by omega)]
      rw [e3])
  subst e2
  rw [List.length_range] at hw
  have e5 : ((List.range r.many).map fun o => if o < r.many then pt r n h o else D.non) = (List.range r.many).map (pt r n h) := List.map_congr_left fun o ho => by rw [if_pos (List.mem_range.mp ho)]
  rw [e5] at hw
  have st := lv_l2 (a7 := a7) (d_mulL (d := .non) (n := r.many) (by omega)) (rng1_small (n := r.many) (by omega)) hw (e_law_up K h (n + 1)) (Nat.lt_of_le_of_lt hW (by decide))
  refine ⟨some (.ow (.lst ((List.range r.many).map (pt r n h)))), b8, st.trans ?_⟩
  have e6 : (if up r h (n + 1) = true then D.tup [.int h, .tup ((List.range r.many).map (pt r n h))] else .non) = vwO r (n + 1) h := by
    unfold vwO
    by_cases u : up r h (n + 1) = true
    · rw [if_pos u, if_pos u, vw_succ]
      congr 3
      refine congrArg D.tup (List.map_congr_left fun o _ => ?_)
      unfold pt part
      by_cases c : o = h ∨ cm r o h (n + 1) = true
      · rw [if_pos c, if_pos c, part_up K u c]
      · rw [if_neg c, if_neg c]
    · rw [if_neg u, if_neg u]
  rw [e6]
theorem lv_round {r : Rn} (K : r.Ok) {n : Nat} {nn : Int} {RL : List D} (hRL : RL.length ≤ 100) {a5 a6 a7 a8 a9 : Option Sl} :
    ∃ b5 b6 b7 b8, exs G_law_views_2 true l_law_views_2_3 [some (.sh r.d), some (.sh (.int nn)), some (.ow (.lst (RL ++ [rowD r n]))), some (.sh (.int r.many)), some (.sh (.int ((n + 1 : Nat) : Int))), a5, a6, a7, a8, a9] =
      some (.nx [some (.sh r.d), some (.sh (.int nn)), some (.ow (.lst (RL ++ [rowD r n] ++ [rowD r (n + 1)]))), some (.sh (.int r.many)), some (.sh (.int ((n + 1 : Nat) : Int))), b5, b6, b7, b8, a9]) := by
  have hi := K.hi
  obtain ⟨ρ2, hw, b6, b7, b8, e2⟩ := for_go (t := .nm 6) (body := exs G_law_views_2 true l_law_views_2_2) (f := fun (o : Nat) => D.int o) (ρ := [some (.sh r.d), some (.sh (.int nn)), some (.ow (.lst (RL ++ [rowD r n]))), some (.sh (.int r.many)), some (.sh (.int ((n + 1 : Nat) : Int))), some (.ow (.lst [])), a6, a7, a8, a9]) (List.range r.many)
    (fun p ρ => ∃ b6 b7 b8, ρ = [some (.sh r.d), some (.sh (.int nn)), some (.ow (.lst (RL ++ [rowD r n]))), some (.sh (.int r.many)), some (.sh (.int ((n + 1 : Nat) : Int))), some (.ow (.lst (p.map (vwO r (n + 1))))), b6, b7, b8, a9]) ⟨a6, a7, a8, rfl⟩ (by
      rintro p h q e ρ ⟨b6, b7, b8, rfl⟩
      have hh : h < r.many := List.mem_range.mp (by rw [e]; simp)
      have hp : p.length ≤ 5 := by
        have := congrArg List.length e
        rw [List.length_append, List.length_range] at this; omega
      obtain ⟨c7, c8, st⟩ := lv_hand K hh (n := n) (nn := nn) (RL := RL) (W := p.map (vwO r (n + 1))) hRL (by rw [List.length_map]; exact hp) (a7 := b7) (a8 := b8) (a9 := a9)
      refine ⟨_, _, rfl, st, some (.sh (.int h)), c7, c8, ?_⟩
      rw [List.map_append]; rfl)
  subst e2
  exact ⟨_, _, _, _, lv_l3 (rng1_small (by omega)) hw (by rw [List.length_append, List.length_singleton]; exact Nat.lt_of_le_of_lt (show RL.length + 1 ≤ 101 by omega) (by decide))⟩
theorem lv_cell {r : Rn} {a0 a1 a2 a3 a4 a5 a7 a8 : Option Sl} {h v : Int} : ev G_law_views_2 e_law_views_2_4 [a0, a1, a2, a3, a4, a5, some (.sh (.int h)), a7, a8, some (.sh (.int v))] = some (.fr, .tup [.int h, .int v]) := by
  simp [e_law_views_2_4]
theorem e_law_views_2 {r : Rn} (K : r.Ok) {n : Nat} (hn : n ≤ 50) : R_law_views_2 [r.d, .int n] = some (.lst ((List.range (n + 1)).map (rowD r))) := by
  have hi := K.hi
  have x0 : dIx r.d (.int 0) = some (.tup r.numL) := by simp [Rn.d]
  have hen : evi G_law_views_2 (.enum (.ix (.var 0) (.int 0))) [some (.sh r.d), some (.sh (.int n)), none, none, none, none, none, none, none, none] = some (false, (List.range r.many).map fun (h : Nat) => D.tup [.int h, .int (r.num h)]) := by
    have z := zip_range (n := r.many) (g := fun h => D.int (r.num h))
    simp only [vi_enum, v_ix, v_var, v_int, List.getElem?_cons_zero, varS_sh, Option.bind_some, x0, Option.map_some, enumOf]
    exact congrArg (fun l => some (false, l)) z
  have h0 := ev_lcy (Γ := G_law_views_2) (own := [("hand", 6), ("number", 9)]) (t := .tp [6, 9]) (e := e_law_views_2_4) (vw r 0) (fun (h : Nat) => [some (.sh r.d), some (.sh (.int n)), none, none, none, none, some (.sh (.int h)), none, none, some (.sh (.int (r.num h)))]) hen (lim_range (by omega)) rfl
    (fun h hh => ⟨rfl, .fr, lv_cell (r := r), rfl⟩)
  have e0 : (List.range r.many).map (vw r 0) = (List.range r.many).map (vwO r 0) := List.map_congr_left fun h _ => by unfold vwO; rw [if_pos (up_zero K)]
  rw [e0] at h0
  obtain ⟨ρ2, hw, b4, b5, b6, b7, b8, e2⟩ := for_go (t := .nm 4) (body := exs G_law_views_2 true l_law_views_2_3) (f := fun (k : Nat) => D.int ((1 + k : Nat) : Int)) (ρ := [some (.sh r.d), some (.sh (.int n)), some (.ow (.lst [rowD r 0])), some (.sh (.int r.many)), none, none, none, none, none, none]) (List.range n)
    (fun p ρ => ∃ b4 b5 b6 b7 b8, ρ = [some (.sh r.d), some (.sh (.int n)), some (.ow (.lst ((List.range (p.length + 1)).map (rowD r)))), some (.sh (.int r.many)), b4, b5, b6, b7, b8, none]) ⟨none, none, none, none, none, rfl⟩ (by
      rintro p x q e ρ ⟨b4, b5, b6, b7, b8, rfl⟩
      obtain ⟨hx, hlt, _⟩ := range_at e
      subst hx
      have e1 : (1 + p.length : Nat) = p.length + 1 := by omega
      rw [e1]
      generalize hk : p.length = k at *
      have e3 : (List.range (k + 1)).map (rowD r) = (List.range k).map (rowD r) ++ [rowD r k] := by rw [List.range_succ, List.map_append]; rfl
      obtain ⟨c5, c6, c7, c8, st⟩ := lv_round K (n := k) (nn := n) (RL := (List.range k).map (rowD r)) (by rw [List.length_map, List.length_range]; omega) (a5 := b5) (a6 := b6) (a7 := b7) (a8 := b8) (a9 := none)
      rw [← e3] at st
      refine ⟨_, _, rfl, st, some (.sh (.int ((k + 1 : Nat) : Int))), c5, c6, c7, c8, ?_⟩
      have e4 : (List.range (k + 1)).map (rowD r) ++ [rowD r (k + 1)] = (List.range ((p ++ [k]).length + 1)).map (rowD r) := by
        rw [List.length_append, List.length_singleton, hk, List.range_succ (n := k + 1), List.map_append]; rfl
      rw [← e4])
  subst e2
  rw [List.length_range] at hw
  have hX := rng2_small (i := 1) (n := n) (by omega)
  have e3 : ((1 + n : Nat) : Int) = (n : Int) + 1 := by omega
  rw [e3] at hX
  have hl : dLen [.tup r.numL] = some (.int r.many) := by rw [len_tup (by rw [numL_len]; exact lim_small (by omega)), numL_len]
  exact lvw_top (by simp only [immL_cons, immL_nil, r.imm, im_int, Bool.and_self]) h0 x0 hl hX hw
def lb (r : Rn) : Nat → Nat → Nat → Bool
  | 0, _, _ => false
  | n + 1, h, o => (List.range r.many).any fun x => if x = h ∨ cm r x h (n + 1) = true then lb r n x o else decide (o = x)
end DD
set_option Elab.async false
set_option linter.all false
set_option maxRecDepth 100000
set_option maxHeartbeats 1000000
namespace DD
open PySem L2
def b_is_number : CSs := (.cons (.ret (.and (.call 0 (.cons (.var 0) .nil)) (.cmp .lt (.bi .abs (.cons (.var 0) .nil)) (.bin .pow (.int 10) (.int 60)))))
  .nil)
noncomputable def G_is_number : Gam := ⟨[("is_whole", 1, R_is_whole)], [], []⟩
@[simp] theorem gf_is_number_0 : G_is_number.fn[0]? = some (("is_whole" : Str), 1, R_is_whole) := rfl
noncomputable def R_is_number : List D → Option D := runF G_is_number false 1 b_is_number
def l_are_numbers_1 : CSs := (.cons (.ite (.not (.call 0 (.cons (.var 1) .nil))) (.cons (.ret (.bl false))
  .nil) .nil)
  .nil)
def b_are_numbers : CSs := (.cons (.ite (.or (.not (.isi "tuple" (.var 0))) (.not (.cmp2 .le .le (.int 2) (.bi .len (.cons (.var 0) .nil)) (.glob 0)))) (.cons (.ret (.bl false))
  .nil) .nil)
  (.cons (.fors (.nm 1) (.val (.var 0)) l_are_numbers_1)
  (.cons (.ret (.bl true))
  .nil)))
noncomputable def G_are_numbers : Gam := ⟨[("is_number", 1, R_is_number)], [("MOST_HANDS", .int 5)], []⟩
@[simp] theorem gf_are_numbers_0 : G_are_numbers.fn[0]? = some (("is_number" : Str), 1, R_is_number) := rfl
@[simp] theorem gg_are_numbers_0 : G_are_numbers.gl[0]? = some (("MOST_HANDS" : Str), D.int 5) := rfl
noncomputable def R_are_numbers : List D → Option D := runF G_are_numbers false 2 b_are_numbers
def b_is_fall : CSs := (.cons (.ite (.or (.not (.isi "tuple" (.var 0))) (.cmp .ne (.bi .len (.cons (.var 0) .nil)) (.int 3))) (.cons (.ret (.bl false))
  .nil) .nil)
  (.cons (.unp [2, 3, 4] (.var 0))
  (.cons (.ite (.or (.not (.call 1 (.cons (.var 2) .nil))) (.or (.not (.call 1 (.cons (.var 3) .nil))) (.not (.call 1 (.cons (.var 4) .nil))))) (.cons (.ret (.bl false))
  .nil) .nil)
  (.cons (.ite (.or (.not (.cmp2 .le .lt (.int 0) (.var 2) (.var 1))) (.not (.cmp2 .le .le (.int 1) (.var 3) (.glob 0)))) (.cons (.ret (.bl false))
  .nil) .nil)
  (.cons (.ret (.and (.cmp2 .le .lt (.int 0) (.var 4) (.bin .shl (.int 1) (.var 1))) (.not (.call 0 (.cons (.var 4) (.cons (.var 2) .nil))))))
  .nil)))))
noncomputable def G_is_fall : Gam := ⟨[("has_hand", 2, R_has_hand), ("is_whole", 1, R_is_whole)], [("MOST_ROUNDS", .int 5)], []⟩
@[simp] theorem gf_is_fall_0 : G_is_fall.fn[0]? = some (("has_hand" : Str), 2, R_has_hand) := rfl
@[simp] theorem gf_is_fall_1 : G_is_fall.fn[1]? = some (("is_whole" : Str), 1, R_is_whole) := rfl
@[simp] theorem gg_is_fall_0 : G_is_fall.gl[0]? = some (("MOST_ROUNDS" : Str), D.int 5) := rfl
noncomputable def R_is_fall : List D → Option D := runF G_is_fall false 5 b_is_fall
def l_is_run_1 : CSs := (.cons (.ite (.or (.not (.call 0 (.cons (.var 2) (.cons (.bi .len (.cons (.var 3) .nil)) .nil)))) (.cmp .le (.ix (.var 2) (.int 0)) (.var 1))) (.cons (.ret (.bl false))
  .nil) .nil)
  (.cons (.set 1 (.ix (.var 2) (.int 0)))
  .nil))
def b_is_run : CSs := (.cons (.ite (.or (.not (.isi "tuple" (.var 0))) (.cmp .ne (.bi .len (.cons (.var 0) .nil)) (.int 2))) (.cons (.ret (.bl false))
  .nil) .nil)
  (.cons (.unp [3, 4] (.var 0))
  (.cons (.ite (.or (.not (.call 1 (.cons (.var 3) .nil))) (.not (.isi "tuple" (.var 4)))) (.cons (.ret (.bl false))
  .nil) .nil)
  (.cons (.set 1 (.neg (.int 1)))
  (.cons (.fors (.nm 2) (.val (.var 4)) l_is_run_1)
  (.cons (.ret (.bl true))
  .nil))))))
noncomputable def G_is_run : Gam := ⟨[("is_fall", 2, R_is_fall), ("are_numbers", 1, R_are_numbers)], [], []⟩
@[simp] theorem gf_is_run_0 : G_is_run.fn[0]? = some (("is_fall" : Str), 2, R_is_fall) := rfl
@[simp] theorem gf_is_run_1 : G_is_run.fn[1]? = some (("are_numbers" : Str), 1, R_are_numbers) := rfl
noncomputable def R_is_run : List D → Option D := runF G_is_run false 5 b_is_run
def b_law_whole : CSs := (.cons (.ret (.and (.isi "int" (.var 0)) (.not (.isi "bool" (.var 0)))))
  .nil)
noncomputable def G_law_whole : Gam := ⟨[], [], []⟩
noncomputable def R_law_whole : List D → Option D := runF G_law_whole false 1 b_law_whole
theorem r_law_whole (thing_ : D) : R_law_whole [thing_] = outR (exs G_law_whole false b_law_whole [some (.sh thing_)]) := run_eq (fun z => by cases z)
def c_law_is_fall_1 : CE := (.not (.call 1 (.cons (.var 3) .nil)))
def e_law_is_fall_2 : CE := (.var 3)
def b_law_is_fall : CSs := (.cons (.ite (.or (.not (.isi "tuple" (.var 0))) (.or (.cmp .ne (.bi .len (.cons (.var 0) .nil)) (.int 3)) (.cmp .gt (.bi .len (.cons (.lc [("part", 3)] (.nm 3) (.val (.var 0)) c_law_is_fall_1 e_law_is_fall_2) .nil)) (.int 0)))) (.cons (.ret (.bl false))
  .nil) .nil)
  (.cons (.ite (.or (.not (.cmp2 .lt .lt (.var 2) (.ix (.var 0) (.int 0)) (.var 1))) (.or (.not (.cmp2 .le .le (.int 1) (.ix (.var 0) (.int 1)) (.int 5))) (.not (.cmp2 .le .lt (.int 0) (.ix (.var 0) (.int 2)) (.bin .mul (.int 2) (.call 0 (.cons (.bin .sub (.var 1) (.int 1)) .nil))))))) (.cons (.ret (.bl false))
  .nil) .nil)
  (.cons (.ret (.cmp .eq (.bin .mod (.bin .fdiv (.ix (.var 0) (.int 2)) (.call 0 (.cons (.ix (.var 0) (.int 0)) .nil))) (.int 2)) (.int 0)))
  .nil)))
noncomputable def G_law_is_fall : Gam := ⟨[("_law_bit", 1, R_law_bit), ("_law_whole", 1, R_law_whole)], [], []⟩
@[simp] theorem gf_law_is_fall_0 : G_law_is_fall.fn[0]? = some (("_law_bit" : Str), 1, R_law_bit) := rfl
@[simp] theorem gf_law_is_fall_1 : G_law_is_fall.fn[1]? = some (("_law_whole" : Str), 1, R_law_whole) := rfl
noncomputable def R_law_is_fall : List D → Option D := runF G_law_is_fall false 4 b_law_is_fall
noncomputable def G_law_is_run : Gam := ⟨[("_law_is_fall", 3, R_law_is_fall), ("_law_whole", 1, R_law_whole)], [], []⟩
@[simp] theorem gf_law_is_run_0 : G_law_is_run.fn[0]? = some (("_law_is_fall" : Str), 3, R_law_is_fall) := rfl
@[simp] theorem gf_law_is_run_1 : G_law_is_run.fn[1]? = some (("_law_whole" : Str), 1, R_law_whole) := rfl
noncomputable def G_law_bent_fall : Gam := ⟨[("_law_bit", 1, R_law_bit)], [], []⟩
@[simp] theorem gf_law_bent_fall_0 : G_law_bent_fall.fn[0]? = some (("_law_bit" : Str), 1, R_law_bit) := rfl
def isNumB : D → Bool
  | .int i => decide (-(10 ^ 60) < i) && decide (i < 10 ^ 60)
  | _ => false
def isFallB (m : Nat) : D → Bool
  | .tup [.int h, .int a, .int x] => decide (0 ≤ h) && decide (h < m) && decide (1 ≤ a) && decide (a ≤ 5) && decide (0 ≤ x) && decide (x < ((2 ^ m : Nat) : Int)) && !x.toNat.testBit h.toNat
  | _ => false
def fallH : D → Int
  | .tup (.int h :: _) => h
  | _ => 0
def fallsB (m : Nat) : Int → List D → Bool
  | _, [] => true
  | l, d :: ds => isFallB m d && decide (l < fallH d) && fallsB m (fallH d) ds
def runB : D → Bool
  | .tup [.tup ns, .tup fs] => decide (2 ≤ ns.length) && decide (ns.length ≤ 5) && ns.all isNumB && fallsB ns.length (-1) fs
  | _ => false
theorem two {ds : List D} (h : ds.length = 2) : ∃ a b, ds = [a, b] := by
  match ds, h with
  | [a, b], _ => exact ⟨a, b, rfl⟩
@[simp] theorem e_law_whole {d : D} : R_law_whole [d] = some (.bl (isIt d)) := by
  rw [r_law_whole]
  cases d <;> simp [b_law_whole]
end DD
set_option Elab.async false
set_option linter.all false
set_option maxRecDepth 100000
set_option maxHeartbeats 1000000
namespace DD
open PySem L2
def c_without_fall_1 : CE := (.cmp .ne (.ix (.var 2) (.int 0)) (.var 1))
def e_without_fall_2 : CE := (.var 2)
def b_without_fall : CSs := (.cons (.ret (.tup (.cons (.ix (.var 0) (.int 0)) (.cons (.bi .tuple (.cons (.lc [("fall", 2)] (.nm 2) (.val (.ix (.var 0) (.int 1))) c_without_fall_1 e_without_fall_2) .nil)) .nil))))
  .nil)
noncomputable def G_without_fall : Gam := ⟨[], [], []⟩
noncomputable def R_without_fall : List D → Option D := runF G_without_fall false 3 b_without_fall
def b_with_fall : CSs := (.cons (.set 4 (.call 0 (.cons (.var 0) (.cons (.var 1) .nil))))
  (.cons (.ret (.tup (.cons (.ix (.var 0) (.int 0)) (.cons (.bi .tuple (.cons (.bi .sorted (.cons (.bin .add (.bi .list (.cons (.ix (.var 4) (.int 1)) .nil)) (.lst (.cons (.tup (.cons (.var 1) (.cons (.var 2) (.cons (.var 3) .nil)))) .nil))) .nil)) .nil)) .nil))))
  .nil))
noncomputable def G_with_fall : Gam := ⟨[("without_fall", 2, R_without_fall)], [], []⟩
@[simp] theorem gf_with_fall_0 : G_with_fall.fn[0]? = some (("without_fall" : Str), 2, R_without_fall) := rfl
noncomputable def R_with_fall : List D → Option D := runF G_with_fall false 5 b_with_fall
def c_standing_1 : CE := (.and (.cmp .ne (.var 2) (.var 1)) (.isN false (.call 1 (.cons (.var 0) (.cons (.var 2) .nil)))))
def e_standing_2 : CE := (.var 2)
def b_standing : CSs := (.cons (.ret (.lc [("one", 2)] (.nm 2) (.rng1 (.call 0 (.cons (.var 0) .nil))) c_standing_1 e_standing_2))
  .nil)
noncomputable def G_standing : Gam := ⟨[("many_hands", 1, R_many_hands), ("fall_of", 2, R_fall_of)], [], []⟩
@[simp] theorem gf_standing_0 : G_standing.fn[0]? = some (("many_hands" : Str), 1, R_many_hands) := rfl
@[simp] theorem gf_standing_1 : G_standing.fn[1]? = some (("fall_of" : Str), 2, R_fall_of) := rfl
noncomputable def R_standing : List D → Option D := runF G_standing false 3 b_standing
def c_hushed_1 : CE := (.cmp .ne (.var 5) (.lst .nil))
def l_hushed_2 : CSs := (.cons (.pop 7 5)
  (.cons (.set 8 (.call 1 (.cons (.var 0) (.cons (.var 1) (.cons (.var 2) (.cons (.call 2 (.cons (.var 5) .nil)) .nil))))))
  (.cons (.ext 4 (.sl (.call 0 (.cons (.var 6) (.cons (.var 7) (.cons (.bin .add (.var 2) (.int 1)) (.cons (.var 3) .nil))))) (.some (.int 1)) .none))
  (.cons (.ext 4 (.lrv (.call 0 (.cons (.var 8) (.cons (.var 7) (.cons (.bin .add (.var 2) (.int 1)) (.cons (.var 3) .nil)))))))
  (.cons (.mv 6 8)
  .nil)))))
def b_hushed : CSs := (.cons (.ite (.cmp .gt (.var 2) (.var 3)) (.cons (.ret (.lst (.cons (.var 0) .nil)))
  .nil) .nil)
  (.cons (.set 4 (.call 0 (.cons (.var 0) (.cons (.var 1) (.cons (.bin .add (.var 2) (.int 1)) (.cons (.var 3) .nil))))))
  (.cons (.set 5 (.call 3 (.cons (.var 0) (.cons (.var 1) .nil))))
  (.cons (.set 6 (.call 1 (.cons (.var 0) (.cons (.var 1) (.cons (.var 2) (.cons (.call 2 (.cons (.var 5) .nil)) .nil))))))
  (.frz 6 (.cons (.app 4 (.var 6))
  (.cons (.whl FUEL c_hushed_1 l_hushed_2)
  (.cons (.ret (.var 4))
  .nil))))))))
noncomputable def G_hushed (f : List D → Option D) : Gam := ⟨[("hushed", 4, f), ("with_fall", 4, R_with_fall), ("mask_of", 1, R_mask_of), ("standing", 2, R_standing)], [], []⟩
@[simp] theorem gf_hushed_0 (f : List D → Option D) : (G_hushed f).fn[0]? = some (("hushed" : Str), 4, f) := rfl
@[simp] theorem gf_hushed_1 (f : List D → Option D) : (G_hushed f).fn[1]? = some (("with_fall" : Str), 4, R_with_fall) := rfl
@[simp] theorem gf_hushed_2 (f : List D → Option D) : (G_hushed f).fn[2]? = some (("mask_of" : Str), 1, R_mask_of) := rfl
@[simp] theorem gf_hushed_3 (f : List D → Option D) : (G_hushed f).fn[3]? = some (("standing" : Str), 2, R_standing) := rfl
noncomputable def RB_hushed (f : List D → Option D) : List D → Option D := runF (G_hushed f) false 9 b_hushed
noncomputable def RR_hushed : Nat → List D → Option D
  | 0 => fun _ => none
  | n + 1 => RB_hushed (RR_hushed n)
noncomputable def R_hushed : List D → Option D := RR_hushed 12
def Rn.wo (r : Rn) (h : Nat) : Rn := ⟨r.many, r.num, fun x => if x = h then none else r.tab x⟩
theorem Rn.Ok.wo {r : Rn} (K : r.Ok) (h : Nat) : (r.wo h).Ok :=
  ⟨K.lo, K.hi, K.num, ⟨fun x hx => by
    show (if x = h then none else r.tab x) = none
    split
    · rfl
    · exact K.tab.out x hx, fun x q hq => by
    have hq' : (if x = h then none else r.tab x) = some q := hq
    by_cases e : x = h
    · rw [if_pos e] at hq'; cases hq'
    · rw [if_neg e] at hq'; exact K.tab.ok x q hq'⟩⟩
theorem falls_wo {r : Rn} {h : Nat} : (r.wo h).falls = ((prs r.tab (List.range r.many)).filter (fun q => !decide (q.1 = h))).map fallQ := by
  rw [prs_gone]; rfl
theorem d_parts {r : Rn} : dIx r.d (.int 0) = some (.tup r.numL) ∧ dIx r.d (.int 1) = some (.tup r.falls) := by simp [Rn.d]
theorem imm_parts (r : Rn) : immL r.numL = true ∧ immL r.falls = true := by
  have := r.imm
  unfold Rn.d at this
  simpa using this
def hlen : Nat → Nat → Nat
  | 0, _ => 1
  | d + 1, s => hlen d s + 1 + s * (2 * hlen d (s - 1) - 1)
end DD
set_option Elab.async false
set_option linter.all false
set_option maxRecDepth 100000
set_option maxHeartbeats 1000000
namespace DD
open PySem L2
def n_law_whole_3 : List Str := ["found"]
def b_law_whole_3 : CSs := (.cons (.ret (.and (.isi "int" (.var 0)) (.not (.isi "bool" (.var 0)))))
  .nil)
noncomputable def G_law_whole_3 : Gam := ⟨[], [], []⟩
noncomputable def R_law_whole_3 : List D → Option D := runF G_law_whole_3 false 1 b_law_whole_3
theorem r_law_whole_3 (found_ : D) : R_law_whole_3 [found_] = outR (exs G_law_whole_3 false b_law_whole_3 [some (.sh found_)]) := run_eq (fun z => by cases z)
noncomputable def G_law_good : Gam := ⟨[("_law_whole", 1, R_law_whole_3)], [], []⟩
@[simp] theorem gf_law_good_0 : G_law_good.fn[0]? = some (("_law_whole" : Str), 1, R_law_whole_3) := rfl
theorem e_law_whole_3 (i : Int) : R_law_whole_3 [.int i] = some (.bl true) := by
  rw [r_law_whole_3]
  simp [b_law_whole_3]
def fD (ks : List Nat) (v : Nat → D) : D := .dic (ks.map kI) (ks.map v)
end DD
set_option Elab.async false
set_option linter.all false
set_option maxRecDepth 100000
set_option maxHeartbeats 1000000
namespace DD
open PySem L2
def eE (r : Rn) (x : Nat) : Nat × Nat := (r.tab x).getD (9, 0)
def eV (r : Rn) (x : Nat) : D := .tup [.int (eE r x).1, .int (eE r x).2]
def eD (r : Rn) : D := fD ((prs r.tab (List.range r.many)).map (·.1)) (eV r)
def Alk (R : Nat) (r s : Rn) : Prop := ∃ k, k < r.many ∧ up r k R = true ∧ up s k R = true ∧ vw r R k = vw s R k
theorem Alk.symm {R : Nat} {r s : Rn} (hm : r.many = s.many) (h : Alk R r s) : Alk R s r := by
  obtain ⟨k, h1, h2, h3, h4⟩ := h
  exact ⟨k, by omega, h3, h2, h4.symm⟩
inductive Pth (G : Rn → Prop) (A : Rn → Rn → Prop) : List Rn → Rn → Rn → Prop
  | one {x : Rn} : G x → Pth G A [x] x x
  | cons {x y z : Rn} {l : List Rn} : G x → A x y → Pth G A l y z → Pth G A (x :: l) x z
section
variable {G : Rn → Prop} {A : Rn → Rn → Prop} {l m : List Rn} {x y z w : Rn}
theorem Pth.app (h : Pth G A l x y) (a : A y z) (h2 : Pth G A m z w) : Pth G A (l ++ m) x w := by
  induction h with
  | one g => exact .cons g a h2
  | cons g a' _ ih => exact .cons g a' (ih a)
theorem Pth.all (h : Pth G A l x y) : ∀ z ∈ l, G z := by
  induction h with
  | one g => intro z hz; rw [List.mem_singleton] at hz; subst hz; exact g
  | cons g a _ ih =>
    intro z hz
    rcases List.mem_cons.mp hz with rfl | hz
    · exact g
    · exact ih z hz
theorem Pth.head (h : Pth G A l x y) : l.head? = some x := by cases h <;> rfl
theorem Pth.step (h : Pth G A l x y) : ∀ (p : List Rn) (a b : Rn) (q : List Rn), l = p ++ a :: b :: q → A a b := by
  induction h with
  | one g =>
    intro p a b q e
    have := congrArg List.length e
    simp at this; omega
  | @cons x y z l g a h ih =>
    intro p u v q e
    cases p with
    | nil =>
      simp only [List.nil_append, List.cons.injEq] at e
      obtain ⟨rfl, rfl⟩ := e
      have := h.head
      simp at this
      rw [this]; exact a
    | cons p0 p =>
      simp only [List.cons_append, List.cons.injEq] at e
      exact ih p u v q e.2
theorem Pth.ne (h : Pth G A l x y) : l ≠ [] := by cases h <;> simp
theorem Pth.mono {G' : Rn → Prop} {A' : Rn → Rn → Prop} (h : Pth G A l x y) (hG : ∀ x, G x → G' x) (hA : ∀ x y, G x → G y → A x y → A' x y) : Pth G' A' l x y := by
  induction h with
  | one g => exact .one (hG _ g)
  | @cons x y z l g a h ih =>
    have gy : G y := by cases h <;> assumption
    exact .cons (hG _ g) (hA _ _ g gy a) ih
end
/-- good runs of so many hands, with at most so many falls -/
def Gd_ (n t : Nat) (r : Rn) : Prop := r.Ok ∧ r.many = n ∧ (prs r.tab (List.range n)).length ≤ t
end DD
set_option Elab.async false
set_option linter.all false
set_option maxRecDepth 100000
set_option maxHeartbeats 1000000
namespace DD
open PySem L2
def nf (r : Rn) : Nat := (prs r.tab (List.range r.many)).length
theorem other {l : List Nat} (hn : l.Nodup) (h2 : 2 ≤ l.length) (o : Nat) : ∃ w ∈ l, w ≠ o := by
  match l, h2 with
  | a :: b :: l, _ =>
    by_cases e : a = o
    · refine ⟨b, by simp, fun z => ?_⟩
      rw [List.nodup_cons] at hn
      exact hn.1 (by rw [e, ← z]; simp)
    · exact ⟨a, by simp, e⟩
theorem Gd_.le {n s t : Nat} {r : Rn} (h : Gd_ n s r) (l : s ≤ t) : Gd_ n t r := ⟨h.1, h.2.1, Nat.le_trans h.2.2 l⟩
theorem plain_d (r : Rn) : plainD 4 r.d = true := by
  unfold Rn.d
  simp only [plainD, plainDs, Bool.and_true, Bool.and_eq_true, plainDs_iff]
  constructor
  · intro d hd
    obtain ⟨h, _, rfl⟩ := List.mem_map.mp hd
    rfl
  · intro d hd
    unfold Rn.falls fallL at hd
    obtain ⟨q, _, rfl⟩ := List.mem_map.mp hd
    rfl
end DD
set_option Elab.async false
set_option linter.all false
set_option maxRecDepth 100000
set_option maxHeartbeats 1000000
namespace DD
open PySem L2
section
variable {Γ : Gam} {m : Bool} {i j : Nat} {e c : CE} {p q ss : CSs} {ρ ρ2 : Rho} {d : D} {b : Bool}
theorem st_set (h : (ev Γ e ρ).map (·.2) = some d) (hd : isMut d = false) : exs Γ m (.cons (.set i e) ss) ρ = exs Γ m ss (ρ.set i (some (.sh d))) := by
  cases h1 : ev Γ e ρ with
  | none => rw [h1] at h; cases h
  | some r =>
    obtain ⟨f, d'⟩ := r
    rw [h1] at h
    simp only [Option.map_some, Option.some.injEq] at h
    subst h
    rw [xs_cons, x_set, h1, Option.bind_some, asg_d hd]; rfl
theorem st_setL {L : List D} (h : ev Γ e ρ = some (.fr, .lst L)) : exs Γ m (.cons (.set i e) ss) ρ = exs Γ m ss (ρ.set i (some (.ow (.lst L)))) := by
  rw [xs_cons, x_set, h, Option.bind_some, asg_fr]; rfl
theorem st_skip (h : toB (ev Γ c ρ) = some false) : exs Γ m (.cons (.ite c p .nil) ss) ρ = exs Γ m ss ρ := by
  rw [xs_cons, x_ite, h, Option.bind_some, if_neg Bool.false_ne_true, xs_nil]; rfl
theorem st_else (h : toB (ev Γ c ρ) = some false) (h2 : exs Γ m q ρ = some (.nx ρ2)) : exs Γ m (.cons (.ite c p q) ss) ρ = exs Γ m ss ρ2 := by
  rw [xs_cons, x_ite, h, Option.bind_some, if_neg Bool.false_ne_true, h2]; rfl
theorem st_into (h : toB (ev Γ c ρ) = some true) (h2 : exs Γ m p ρ = some (.nx ρ2)) : exs Γ m (.cons (.ite c p q) ss) ρ = exs Γ m ss ρ2 := by
  rw [xs_cons, x_ite, h, Option.bind_some, if_pos rfl, h2]; rfl
theorem st_whl {n : Nat} (h : whlGo (fun y => toB (ev Γ c y)) (exs Γ m p) n ρ = some (.nx ρ2)) : exs Γ m (.cons (.whl n c p) ss) ρ = exs Γ m ss ρ2 := by
  rw [xs_cons, x_whl, h]; rfl
theorem st_for {t : Tg} {it : CI} {ds : List D} (h : evi Γ it ρ = some (false, ds)) (h2 : forGo t (exs Γ m p) ds ρ = some (.nx ρ2)) : exs Γ m (.cons (.fors t it p) ss) ρ = exs Γ m ss ρ2 := by
  rw [xs_cons, x_for, h, Option.bind_some, if_neg Bool.false_ne_true, h2]; rfl
theorem st_one {s : CS} (h : ex Γ m s ρ = some (.nx ρ2)) : exs Γ m (.cons s ss) ρ = exs Γ m ss ρ2 := by
  rw [xs_cons, h]; rfl
end
end DD
set_option Elab.async false
set_option linter.all false
set_option maxRecDepth 100000
set_option maxHeartbeats 1000000
namespace DD
open PySem L2
/-- a while that ends: it ends where its test is false -/
theorem whl_gox {c : Rho → Option Bool} {body : Rho → Option Out} (I : Nat → Rho → Prop) (h : ∀ n ρ, I n ρ → ∃ b, c ρ = some b ∧ (b = true → ∃ m ρ2, n = m + 1 ∧ body ρ = some (.nx ρ2) ∧ I m ρ2)) :
    ∀ (f n : Nat) (ρ : Rho), n < f → I n ρ → ∃ ρ2 m, whlGo c body f ρ = some (.nx ρ2) ∧ I m ρ2 ∧ c ρ2 = some false
  | 0, n, ρ, hf, _ => by omega
  | f + 1, n, ρ, hf, hI => by
    obtain ⟨b, hb, hn⟩ := h n ρ hI
    cases b with
    | false => exact ⟨ρ, n, by simp [whlGo, hb], hI, hb⟩
    | true =>
      obtain ⟨m, ρ2, rfl, h2, hI2⟩ := hn rfl
      obtain ⟨ρ3, k, h3, hI3⟩ := whl_gox I h f m ρ2 (by omega) hI2
      exact ⟨ρ3, k, by simp [whlGo, hb, h2, h3], hI3⟩
/-- two of a path -/
theorem Pth.two {G : Rn → Prop} {A : Rn → Rn → Prop} {l : List Rn} {x y : Rn} (h : Pth G A l x y) {k : Nat} (hk : k + 1 < l.length) : ∃ a b, (l.drop k).take 2 = [a, b] ∧ Pth G A [a, b] a b := by
  have h1 : k < l.length := by omega
  have e : l.drop k = l[k] :: l[k + 1] :: l.drop (k + 2) := by
    rw [List.drop_eq_getElem_cons h1, List.drop_eq_getElem_cons hk]
  refine ⟨l[k], l[k + 1], by rw [e]; rfl, ?_⟩
  have hs := h.step (l.take k) l[k] l[k + 1] (l.drop (k + 2)) (by rw [← e, List.take_append_drop])
  exact .cons (h.all _ (List.getElem_mem h1)) hs (.one (h.all _ (List.getElem_mem hk)))
end DD
set_option Elab.async false
set_option linter.all false
set_option maxRecDepth 100000
set_option maxHeartbeats 1000000
namespace DD
open PySem L2
def b_with_number : CSs := (.cons (.ret (.tup (.cons (.bin .add (.bin .add (.sl (.ix (.var 0) (.int 0)) .none (.some (.var 1))) (.tup (.cons (.var 2) .nil))) (.sl (.ix (.var 0) (.int 0)) (.some (.bin .add (.var 1) (.int 1))) .none)) (.cons (.ix (.var 0) (.int 1)) .nil))))
  .nil)
noncomputable def G_with_number : Gam := ⟨[], [], []⟩
noncomputable def R_with_number : List D → Option D := runF G_with_number false 3 b_with_number
def l_renumbered_1 : CSs := (.cons (.set 5 (.ix (.var 3) (.neg (.int 1))))
  (.cons (.ite (.cmp .ne (.ix (.ix (.var 5) (.int 0)) (.var 4)) (.ix (.var 1) (.var 4))) (.cons (.set 6 (.call 2 (.cons (.var 5) (.cons (.var 4) (.cons (.ix (.var 1) (.var 4)) .nil)))))
  (.cons (.ext 3 (.sl (.call 1 (.cons (.var 5) (.cons (.var 4) (.cons (.int 1) (.cons (.var 2) .nil))))) (.some (.int 1)) .none))
  (.cons (.ext 3 (.lrv (.call 1 (.cons (.var 6) (.cons (.var 4) (.cons (.int 1) (.cons (.var 2) .nil)))))))
  .nil))) .nil)
  .nil))
def b_renumbered : CSs := (.cons (.set 3 (.lst (.cons (.var 0) .nil)))
  (.cons (.fors (.nm 4) (.rng1 (.call 0 (.cons (.var 0) .nil))) l_renumbered_1)
  (.cons (.ret (.var 3))
  .nil)))
noncomputable def G_renumbered : Gam := ⟨[("many_hands", 1, R_many_hands), ("hushed", 4, R_hushed), ("with_number", 3, R_with_number)], [], []⟩
@[simp] theorem gf_renumbered_0 : G_renumbered.fn[0]? = some (("many_hands" : Str), 1, R_many_hands) := rfl
@[simp] theorem gf_renumbered_1 : G_renumbered.fn[1]? = some (("hushed" : Str), 4, R_hushed) := rfl
@[simp] theorem gf_renumbered_2 : G_renumbered.fn[2]? = some (("with_number" : Str), 3, R_with_number) := rfl
noncomputable def R_renumbered : List D → Option D := runF G_renumbered false 7 b_renumbered
end DD
set_option Elab.async false
set_option linter.all false
set_option maxRecDepth 100000
set_option maxHeartbeats 1000000
namespace DD
open PySem L2
def c_falls_of_round_1 : CE := (.cmp .eq (.ix (.var 2) (.int 1)) (.var 1))
def e_falls_of_round_2 : CE := (.var 2)
def b_falls_of_round : CSs := (.cons (.ret (.lc [("fall", 2)] (.nm 2) (.val (.ix (.var 0) (.int 1))) c_falls_of_round_1 e_falls_of_round_2))
  .nil)
noncomputable def G_falls_of_round : Gam := ⟨[], [], []⟩
noncomputable def R_falls_of_round : List D → Option D := runF G_falls_of_round false 3 b_falls_of_round
def c_unseen_1 : CE := (.cmp .notin (.var 6) (.var 5))
def e_unseen_2 : CE := (.var 6)
def l_unseen_3 : CSs := (.cons (.set 5 (.call 1 (.cons (.ix (.var 4) (.int 2)) .nil)))
  (.cons (.ite (.cmp .eq (.bi .len (.cons (.lc [("one", 6)] (.nm 6) (.val (.var 2)) c_unseen_1 e_unseen_2) .nil)) (.int 0)) (.cons (.app 3 (.ix (.var 4) (.int 0)))
  .nil) .nil)
  .nil))
def b_unseen : CSs := (.cons (.set 2 (.call 2 (.cons (.var 0) (.cons (.var 1) .nil))))
  (.cons (.set 3 (.lst .nil))
  (.cons (.fors (.nm 4) (.val (.call 0 (.cons (.var 0) (.cons (.var 1) .nil)))) l_unseen_3)
  (.cons (.ret (.var 3))
  .nil))))
noncomputable def G_unseen : Gam := ⟨[("falls_of_round", 2, R_falls_of_round), ("hands_in", 1, R_hands_in), ("who_is_up", 2, R_who_is_up)], [], []⟩
@[simp] theorem gf_unseen_0 : G_unseen.fn[0]? = some (("falls_of_round" : Str), 2, R_falls_of_round) := rfl
@[simp] theorem gf_unseen_1 : G_unseen.fn[1]? = some (("hands_in" : Str), 1, R_hands_in) := rfl
@[simp] theorem gf_unseen_2 : G_unseen.fn[2]? = some (("who_is_up" : Str), 2, R_who_is_up) := rfl
noncomputable def R_unseen : List D → Option D := runF G_unseen false 7 b_unseen
def l_put_off_1 : CSs := (.cons (.set 0 (.call 2 (.cons (.var 0) (.cons (.var 3) .nil))))
  (.cons (.ite (.cmp .lt (.var 1) (.var 2)) (.cons (.set 0 (.call 1 (.cons (.var 0) (.cons (.var 3) (.cons (.bin .add (.var 1) (.int 1)) (.cons (.int 0) .nil))))))
  .nil) .nil)
  .nil))
def b_put_off : CSs := (.cons (.fors (.nm 3) (.val (.call 0 (.cons (.var 0) (.cons (.var 1) .nil)))) l_put_off_1)
  (.cons (.ret (.var 0))
  .nil))
noncomputable def G_put_off : Gam := ⟨[("unseen", 2, R_unseen), ("with_fall", 4, R_with_fall), ("without_fall", 2, R_without_fall)], [], []⟩
@[simp] theorem gf_put_off_0 : G_put_off.fn[0]? = some (("unseen" : Str), 2, R_unseen) := rfl
@[simp] theorem gf_put_off_1 : G_put_off.fn[1]? = some (("with_fall" : Str), 4, R_with_fall) := rfl
@[simp] theorem gf_put_off_2 : G_put_off.fn[2]? = some (("without_fall" : Str), 2, R_without_fall) := rfl
noncomputable def R_put_off : List D → Option D := runF G_put_off false 4 b_put_off
def l_without_later_1 : CSs := (.cons (.set 3 (.call 2 (.cons (.var 0) (.cons (.var 2) .nil))))
  (.cons (.ite (.and (.isN true (.var 3)) (.cmp .gt (.ix (.var 3) (.int 1)) (.var 1))) (.cons (.set 0 (.call 1 (.cons (.var 0) (.cons (.var 2) .nil))))
  .nil) .nil)
  .nil))
def b_without_later : CSs := (.cons (.fors (.nm 2) (.rng1 (.call 0 (.cons (.var 0) .nil))) l_without_later_1)
  (.cons (.ret (.var 0))
  .nil))
noncomputable def G_without_later : Gam := ⟨[("many_hands", 1, R_many_hands), ("without_fall", 2, R_without_fall), ("fall_of", 2, R_fall_of)], [], []⟩
@[simp] theorem gf_without_later_0 : G_without_later.fn[0]? = some (("many_hands" : Str), 1, R_many_hands) := rfl
@[simp] theorem gf_without_later_1 : G_without_later.fn[1]? = some (("without_fall" : Str), 2, R_without_fall) := rfl
@[simp] theorem gf_without_later_2 : G_without_later.fn[2]? = some (("fall_of" : Str), 2, R_fall_of) := rfl
noncomputable def R_without_later : List D → Option D := runF G_without_later false 4 b_without_later
theorem Rn.Ok.sub {r s : Rn} (K : r.Ok) (hm : s.many = r.many) (hn : s.num = r.num) (ht : ∀ x p, s.tab x = some p → r.tab x = some p) : s.Ok :=
  ⟨by rw [hm]; exact K.lo, by rw [hm]; exact K.hi, fun h hh => by rw [hn]; exact K.num h (by rw [← hm]; exact hh), ⟨(fun x hx => by
    cases e : s.tab x with
    | none => rfl
    | some p =>
      exact absurd ((K.tab.out x (by rw [← hm]; exact hx)).symm.trans (ht x p e)) (by simp)), (fun x p e => by rw [hm]; exact K.tab.ok x p (ht x p e))⟩⟩
def frs (r : Rn) (a : Nat) : List (Nat × (Nat × Nat)) := (prs r.tab (List.range r.many)).filter fun q => decide (q.2.1 = a)
def allHeard (r : Rn) (a m : Nat) : Bool := ((upL r a).filter fun o => !m.testBit o).isEmpty
def un (r : Rn) (a : Nat) : List Nat := ((frs r a).filter fun q => allHeard r a q.2.2).map (·.1)
end DD
set_option Elab.async false
set_option linter.all false
set_option maxRecDepth 100000
set_option maxHeartbeats 1000000
namespace DD
open PySem L2
def l_given_back_1 : CSs := (.cons (.ite (.cmp .notin (.var 6) (.var 5)) (.cons (.app 5 (.var 6))
  (.cons (.set 10 (.call 3 (.cons (.var 3) (.cons (.var 7) (.cons (.var 8) (.cons (.call 4 (.cons (.var 5) .nil)) .nil))))))
  (.cons (.ext 4 (.sl (.call 0 (.cons (.var 3) (.cons (.var 6) (.cons (.bin .add (.var 8) (.int 1)) (.cons (.var 2) .nil))))) (.some (.int 1)) .none))
  (.cons (.ext 4 (.lrv (.call 0 (.cons (.var 10) (.cons (.var 6) (.cons (.bin .add (.var 8) (.int 1)) (.cons (.var 2) .nil)))))))
  (.cons (.mv 3 10)
  .nil))))) .nil)
  .nil)
def b_given_back : CSs := (.cons (.unp [7, 8, 9] (.var 1))
  (.cons (.mv 3 0)
  (.cons (.set 4 (.lst (.cons (.var 0) .nil)))
  (.cons (.set 5 (.call 5 (.cons (.var 9) .nil)))
  (.cons (.fors (.nm 6) (.val (.call 2 (.cons (.var 0) (.cons (.var 7) .nil)))) l_given_back_1)
  (.cons (.ext 4 (.lrv (.call 0 (.cons (.call 1 (.cons (.var 3) (.cons (.var 7) .nil))) (.cons (.var 7) (.cons (.bin .add (.var 8) (.int 1)) (.cons (.var 2) .nil)))))))
  (.cons (.ret (.var 4))
  .nil)))))))
noncomputable def G_given_back : Gam := ⟨[("hushed", 4, R_hushed), ("without_fall", 2, R_without_fall), ("standing", 2, R_standing), ("with_fall", 4, R_with_fall), ("mask_of", 1, R_mask_of), ("hands_in", 1, R_hands_in)], [], []⟩
@[simp] theorem gf_given_back_0 : G_given_back.fn[0]? = some (("hushed" : Str), 4, R_hushed) := rfl
@[simp] theorem gf_given_back_1 : G_given_back.fn[1]? = some (("without_fall" : Str), 2, R_without_fall) := rfl
@[simp] theorem gf_given_back_2 : G_given_back.fn[2]? = some (("standing" : Str), 2, R_standing) := rfl
@[simp] theorem gf_given_back_3 : G_given_back.fn[3]? = some (("with_fall" : Str), 4, R_with_fall) := rfl
@[simp] theorem gf_given_back_4 : G_given_back.fn[4]? = some (("mask_of" : Str), 1, R_mask_of) := rfl
@[simp] theorem gf_given_back_5 : G_given_back.fn[5]? = some (("hands_in" : Str), 1, R_hands_in) := rfl
noncomputable def R_given_back : List D → Option D := runF G_given_back false 11 b_given_back
end DD
set_option Elab.async false
set_option linter.all false
set_option maxRecDepth 100000
set_option maxHeartbeats 1000000
namespace DD
open PySem L2
def l_healed_round_1 : CSs := (.cons (.ext 3 (.sl (.call 1 (.cons (.ix (.var 3) (.neg (.int 1))) (.cons (.var 5) (.cons (.var 2) .nil)))) (.some (.int 1)) .none))
  .nil)
def l_healed_round_2 : CSs := (.cons (.set 7 (.call 3 (.cons (.ix (.var 3) (.neg (.int 1))) (.cons (.var 6) .nil))))
  (.cons (.ext 3 (.sl (.lrv (.call 2 (.cons (.var 7) (.cons (.var 6) (.cons (.bin .add (.var 1) (.int 1)) (.cons (.var 2) .nil)))))) (.some (.int 1)) .none))
  .nil))
def b_healed_round : CSs := (.cons (.set 3 (.lst (.cons (.var 0) .nil)))
  (.cons (.set 4 (.call 5 (.cons (.var 0) (.cons (.var 1) .nil))))
  (.cons (.ite (.cmp .ne (.var 4) (.lst .nil)) (.cons (.app 3 (.call 4 (.cons (.var 0) (.cons (.var 1) (.cons (.var 2) .nil)))))
  (.cons (.ite (.cmp .lt (.var 1) (.var 2)) (.frz 4 (.cons (.fors (.nm 6) (.val (.var 4)) l_healed_round_2)
  .nil)) .nil)
  .nil)) .nil)
  (.cons (.fors (.nm 5) (.val (.call 0 (.cons (.ix (.var 3) (.neg (.int 1))) (.cons (.var 1) .nil)))) l_healed_round_1)
  (.cons (.ret (.var 3))
  .nil)))))
noncomputable def G_healed_round : Gam := ⟨[("falls_of_round", 2, R_falls_of_round), ("given_back", 3, R_given_back), ("hushed", 4, R_hushed), ("without_fall", 2, R_without_fall), ("put_off", 3, R_put_off), ("unseen", 2, R_unseen)], [], []⟩
@[simp] theorem gf_healed_round_0 : G_healed_round.fn[0]? = some (("falls_of_round" : Str), 2, R_falls_of_round) := rfl
@[simp] theorem gf_healed_round_1 : G_healed_round.fn[1]? = some (("given_back" : Str), 3, R_given_back) := rfl
@[simp] theorem gf_healed_round_2 : G_healed_round.fn[2]? = some (("hushed" : Str), 4, R_hushed) := rfl
@[simp] theorem gf_healed_round_3 : G_healed_round.fn[3]? = some (("without_fall" : Str), 2, R_without_fall) := rfl
@[simp] theorem gf_healed_round_4 : G_healed_round.fn[4]? = some (("put_off" : Str), 3, R_put_off) := rfl
@[simp] theorem gf_healed_round_5 : G_healed_round.fn[5]? = some (("unseen" : Str), 2, R_unseen) := rfl
noncomputable def R_healed_round : List D → Option D := runF G_healed_round false 8 b_healed_round
end DD
set_option Elab.async false
set_option linter.all false
set_option maxRecDepth 100000
set_option maxHeartbeats 1000000
namespace DD
open PySem L2
def l_healed_1 : CSs := (.cons (.ext 3 (.sl (.call 0 (.cons (.ix (.var 3) (.neg (.int 1))) (.cons (.var 5) (.cons (.var 2) .nil)))) (.some (.int 1)) .none))
  .nil)
def b_healed : CSs := (.cons (.set 3 (.lst (.cons (.var 0) .nil)))
  (.cons (.set 4 (.call 1 (.cons (.var 0) (.cons (.var 2) .nil))))
  (.cons (.ite (.cmp .ne (.var 4) (.var 0)) (.frz 4 (.cons (.app 3 (.var 4))
  .nil)) .nil)
  (.cons (.fors (.nm 5) (.rrng2 (.int 1) (.bin .add (.var 2) (.int 1))) l_healed_1)
  (.cons (.ret (.var 3))
  .nil)))))
noncomputable def G_healed : Gam := ⟨[("healed_round", 3, R_healed_round), ("without_later", 2, R_without_later)], [], []⟩
@[simp] theorem gf_healed_0 : G_healed.fn[0]? = some (("healed_round" : Str), 3, R_healed_round) := rfl
@[simp] theorem gf_healed_1 : G_healed.fn[1]? = some (("without_later" : Str), 2, R_without_later) := rfl
noncomputable def R_healed : List D → Option D := runF G_healed false 6 b_healed
end DD
set_option Elab.async false
set_option linter.all false
set_option maxRecDepth 100000
set_option maxHeartbeats 1000000
set_option Elab.async false
set_option linter.all false
set_option maxRecDepth 100000
set_option maxHeartbeats 1000000
namespace DD
open PySem L2
noncomputable def G_chain_of : Gam := ⟨[("renumbered", 3, R_renumbered), ("healed", 3, R_healed), ("is_open", 3, R_is_open), ("is_run", 1, R_is_run), ("many_hands", 1, R_many_hands), ("keeps", 2, R_keeps)], [], []⟩
@[simp] theorem gf_chain_of_0 : G_chain_of.fn[0]? = some (("renumbered" : Str), 3, R_renumbered) := rfl
@[simp] theorem gf_chain_of_1 : G_chain_of.fn[1]? = some (("healed" : Str), 3, R_healed) := rfl
@[simp] theorem gf_chain_of_2 : G_chain_of.fn[2]? = some (("is_open" : Str), 3, R_is_open) := rfl
@[simp] theorem gf_chain_of_3 : G_chain_of.fn[3]? = some (("is_run" : Str), 1, R_is_run) := rfl
@[simp] theorem gf_chain_of_4 : G_chain_of.fn[4]? = some (("many_hands" : Str), 1, R_many_hands) := rfl
@[simp] theorem gf_chain_of_5 : G_chain_of.fn[5]? = some (("keeps" : Str), 2, R_keeps) := rfl
noncomputable def G_law_own : Gam := ⟨[("_law_cell_at", 2, R_law_cell_at)], [], []⟩
@[simp] theorem gf_law_own_0 : G_law_own.fn[0]? = some (("_law_cell_at" : Str), 2, R_law_cell_at) := rfl
end DD
set_option Elab.async false
set_option linter.all false
set_option maxRecDepth 100000
set_option maxHeartbeats 1000000
namespace DD
open PySem L2
def l_waste_seen_1 : CSs := (.cons (.set 1 (.bi .max (.cons (.var 1) (.cons (.bin .sub (.bi .len (.cons (.call 1 (.cons (.call 2 (.cons (.var 0) (.cons (.var 2) .nil))) .nil)) .nil)) (.var 2)) .nil))))
  .nil)
def b_waste_seen : CSs := (.cons (.set 1 (.int 0))
  (.cons (.fors (.nm 2) (.rng2 (.int 1) (.call 0 (.cons (.var 0) .nil))) l_waste_seen_1)
  (.cons (.ret (.var 1))
  .nil)))
noncomputable def G_waste_seen : Gam := ⟨[("rounds_of", 1, R_rounds_of), ("hands_in", 1, R_hands_in), ("lacking", 2, R_lacking)], [], []⟩
@[simp] theorem gf_waste_seen_0 : G_waste_seen.fn[0]? = some (("rounds_of" : Str), 1, R_rounds_of) := rfl
@[simp] theorem gf_waste_seen_1 : G_waste_seen.fn[1]? = some (("hands_in" : Str), 1, R_hands_in) := rfl
@[simp] theorem gf_waste_seen_2 : G_waste_seen.fn[2]? = some (("lacking" : Str), 2, R_lacking) := rfl
noncomputable def R_waste_seen : List D → Option D := runF G_waste_seen false 3 b_waste_seen
def b_together : CSs := (.cons (.ite (.cmp .gt (.bin .add (.call 0 (.cons (.var 0) .nil)) (.call 1 (.cons (.var 0) .nil))) (.var 1)) (.cons (.ret (.call 2 (.cons (.var 0) .nil)))
  .nil) .nil)
  (.cons (.ret .non)
  .nil))
noncomputable def G_together : Gam := ⟨[("rounds_of", 1, R_rounds_of), ("waste_seen", 1, R_waste_seen), ("least_known", 1, R_least_known)], [], []⟩
@[simp] theorem gf_together_0 : G_together.fn[0]? = some (("rounds_of" : Str), 1, R_rounds_of) := rfl
@[simp] theorem gf_together_1 : G_together.fn[1]? = some (("waste_seen" : Str), 1, R_waste_seen) := rfl
@[simp] theorem gf_together_2 : G_together.fn[2]? = some (("least_known" : Str), 1, R_least_known) := rfl
noncomputable def R_together : List D → Option D := runF G_together false 2 b_together
def l_sure_1 : CSs := (.cons (.ite (.call 1 (.cons (.call 2 (.cons (.var 0) (.cons (.var 2) .nil))) .nil)) (.cons (.ret (.call 3 (.cons (.var 0) .nil)))
  .nil) .nil)
  .nil)
def b_sure : CSs := (.cons (.ite (.cmp .gt (.call 0 (.cons (.var 0) .nil)) (.var 1)) (.cons (.ret (.call 3 (.cons (.var 0) .nil)))
  .nil) .nil)
  (.cons (.fors (.nm 2) (.rng2 (.int 1) (.call 0 (.cons (.var 0) .nil))) l_sure_1)
  (.cons (.ret .non)
  .nil)))
noncomputable def G_sure : Gam := ⟨[("rounds_of", 1, R_rounds_of), ("is_clean", 1, R_is_clean), ("own_past", 2, R_own_past), ("least_known", 1, R_least_known)], [], []⟩
@[simp] theorem gf_sure_0 : G_sure.fn[0]? = some (("rounds_of" : Str), 1, R_rounds_of) := rfl
@[simp] theorem gf_sure_1 : G_sure.fn[1]? = some (("is_clean" : Str), 1, R_is_clean) := rfl
@[simp] theorem gf_sure_2 : G_sure.fn[2]? = some (("own_past" : Str), 2, R_own_past) := rfl
@[simp] theorem gf_sure_3 : G_sure.fn[3]? = some (("least_known" : Str), 1, R_least_known) := rfl
noncomputable def R_sure : List D → Option D := runF G_sure false 3 b_sure
def b_soon : CSs := (.cons (.ite (.or (.cmp .gt (.call 0 (.cons (.var 0) .nil)) (.var 1)) (.call 1 (.cons (.var 0) .nil))) (.cons (.ret (.call 2 (.cons (.var 0) .nil)))
  .nil) .nil)
  (.cons (.ret .non)
  .nil))
noncomputable def G_soon : Gam := ⟨[("rounds_of", 1, R_rounds_of), ("is_clean", 1, R_is_clean), ("least_known", 1, R_least_known)], [], []⟩
@[simp] theorem gf_soon_0 : G_soon.fn[0]? = some (("rounds_of" : Str), 1, R_rounds_of) := rfl
@[simp] theorem gf_soon_1 : G_soon.fn[1]? = some (("is_clean" : Str), 1, R_is_clean) := rfl
@[simp] theorem gf_soon_2 : G_soon.fn[2]? = some (("least_known" : Str), 1, R_least_known) := rfl
noncomputable def R_soon : List D → Option D := runF G_soon false 2 b_soon
def b_plain : CSs := (.cons (.ite (.cmp .gt (.call 0 (.cons (.var 0) .nil)) (.var 1)) (.cons (.ret (.call 1 (.cons (.var 0) .nil)))
  .nil) .nil)
  (.cons (.ret .non)
  .nil))
noncomputable def G_plain : Gam := ⟨[("rounds_of", 1, R_rounds_of), ("least_known", 1, R_least_known)], [], []⟩
@[simp] theorem gf_plain_0 : G_plain.fn[0]? = some (("rounds_of" : Str), 1, R_rounds_of) := rfl
@[simp] theorem gf_plain_1 : G_plain.fn[1]? = some (("least_known" : Str), 1, R_least_known) := rfl
noncomputable def R_plain : List D → Option D := runF G_plain false 2 b_plain
theorem Hp_or {r : Rn} {n h x : Nat} : Hp_ r n h x = true ↔ x = h ∨ cm r x h n = true := by
  unfold Hp_
  rw [Bool.or_eq_true, decide_eq_true_eq]
theorem rng2_one {n : Nat} (h : n ≤ 1000) : rng2Of (.int 1) (.int n) = some ((List.range (n - 1)).map fun (k : Nat) => D.int ((1 + k : Nat) : Int)) := by
  have b : ∀ m : Nat, m ≤ 1000 → big62 (m : Int) = true := fun m hm => by unfold big62; rw [Bool.and_eq_true, dte, dte]; omega
  have e : rng2Of (.int 1) (.int n) = some (ups 1 ((n : Int) - 1).toNat) := if_pos (by rw [b n h]; have := b 1 (by omega); simpa using this)
  rw [e]
  have e2 : ((n : Int) - 1).toNat = n - 1 := by omega
  rw [e2]
  refine congrArg some (List.map_congr_left fun k _ => congrArg D.int ?_)
  omega
/-- the least number that a view knows -/
def mnI (r : Rn) (n h : Nat) : Int := match (knL r n h).map r.num with | [] => 0 | a :: as => as.foldl min a
end DD
set_option Elab.async false
set_option linter.all false
set_option maxRecDepth 100000
set_option maxHeartbeats 1000000
namespace DD
open PySem L2
def b_law_told_2 : CSs := (.cons (.ite (.not (.var 2)) (.cons (.ret (.isN false (.var 0)))
  .nil) .nil)
  (.cons (.ret (.and (.isi "int" (.var 0)) (.and (.not (.isi "bool" (.var 0))) (.cmp .eq (.var 0) (.var 1)))))
  .nil))
noncomputable def G_law_told_2 : Gam := ⟨[], [], []⟩
noncomputable def R_law_told_2 : List D → Option D := runF G_law_told_2 false 3 b_law_told_2
def e_law_heard_2_1 : CE := (.isN true (.var 1))
def b_law_heard_2 : CSs := (.cons (.ret (.lc [("part", 1)] (.nm 1) (.val (.ix (.var 0) (.int 1))) (.bl true) e_law_heard_2_1))
  .nil)
noncomputable def G_law_heard_2 : Gam := ⟨[], [], []⟩
noncomputable def R_law_heard_2 : List D → Option D := runF G_law_heard_2 false 2 b_law_heard_2
def b_law_clean : CSs := (.cons (.ite (.cmp .eq (.var 1) (.int 0)) (.cons (.ret (.bl false))
  .nil) .nil)
  (.cons (.ite (.cmp .eq (.var 1) (.int 1)) (.cons (.ret (.cmp .notin (.bl false) (.call 0 (.cons (.var 0) .nil))))
  .nil) .nil)
  (.cons (.ret (.cmp .eq (.call 0 (.cons (.var 0) .nil)) (.call 0 (.cons (.ix (.ix (.var 0) (.int 1)) (.ix (.var 0) (.int 0))) .nil))))
  .nil)))
noncomputable def G_law_clean : Gam := ⟨[("_law_heard", 1, R_law_heard_2)], [], []⟩
@[simp] theorem gf_law_clean_0 : G_law_clean.fn[0]? = some (("_law_heard" : Str), 1, R_law_heard_2) := rfl
noncomputable def R_law_clean : List D → Option D := runF G_law_clean false 2 b_law_clean
def c_law_later_1 : CE := (.cmp .gt (.var 1) (.int 1))
def l_law_later_2 : CSs := (.cons (.set 0 (.ix (.ix (.var 0) (.int 1)) (.ix (.var 0) (.int 0))))
  (.cons (.set 1 (.bin .sub (.var 1) (.int 1)))
  (.cons (.ite (.call 0 (.cons (.var 0) (.cons (.var 1) .nil))) (.cons (.ret (.bl true))
  .nil) .nil)
  .nil)))
def b_law_later : CSs := (.cons (.whl FUEL c_law_later_1 l_law_later_2)
  (.cons (.ret (.bl false))
  .nil))
noncomputable def G_law_later : Gam := ⟨[("_law_clean", 2, R_law_clean)], [], []⟩
@[simp] theorem gf_law_later_0 : G_law_later.fn[0]? = some (("_law_clean" : Str), 2, R_law_clean) := rfl
noncomputable def R_law_later : List D → Option D := runF G_law_later false 2 b_law_later
def l_law_lacks_2_1 : CSs := (.cons (.ite (.isN false (.var 5)) (.cons (.sto 3 (.var 4) (.or (.dget2 (.var 3) (.var 4) (.bl false)) (.cmp .le (.var 1) (.var 2))))
  .nil) (.cons (.mc 3 0 (.cons (.var 5) (.cons (.bin .sub (.var 1) (.int 1)) (.cons (.var 2) (.cons (.var 3) .nil)))))
  .nil))
  .nil)
def b_law_lacks_2 : CSs := (.cons (.ite (.cmp .eq (.var 1) (.int 0)) (.cons (.retP 3)
  .nil) .nil)
  (.cons (.fors (.tp [4, 5]) (.enum (.ix (.var 0) (.int 1))) l_law_lacks_2_1)
  (.cons (.retP 3)
  .nil)))
noncomputable def G_law_lacks_2 (f : List D → Option D) : Gam := ⟨[], [], [⟨"_law_lacks", 4, 3, true, f⟩]⟩
@[simp] theorem gm_law_lacks_2_0 (f : List D → Option D) : (G_law_lacks_2 f).mf[0]? = some ⟨"_law_lacks", 4, 3, true, f⟩ := rfl
noncomputable def RB_law_lacks_2 (f : List D → Option D) : List D → Option D := runM (G_law_lacks_2 f) 3 true 6 b_law_lacks_2
noncomputable def RR_law_lacks_2 : Nat → List D → Option D
  | 0 => fun _ => none
  | n + 1 => RB_law_lacks_2 (RR_law_lacks_2 n)
noncomputable def R_law_lacks_2 : List D → Option D := RR_law_lacks_2 12
def c_law_many_lack_1 : CE := (.ix (.var 3) (.var 4))
def e_law_many_lack_2 : CE := (.var 4)
def b_law_many_lack : CSs := (.cons (.set 3 (.mcl 0 (.cons (.var 0) (.cons (.var 1) (.cons (.var 2) (.cons .dnil .nil))))))
  (.cons (.ret (.bi .len (.cons (.lcd [("hand", 4)] (.nm 4) 3 c_law_many_lack_1 e_law_many_lack_2) .nil)))
  .nil))
noncomputable def G_law_many_lack : Gam := ⟨[], [], [⟨"_law_lacks", 4, 3, true, R_law_lacks_2⟩]⟩
@[simp] theorem gm_law_many_lack_0 : G_law_many_lack.mf[0]? = some ⟨"_law_lacks", 4, 3, true, R_law_lacks_2⟩ := rfl
noncomputable def R_law_many_lack : List D → Option D := runF G_law_many_lack false 5 b_law_many_lack
def l_law_seen_1 : CSs := (.cons (.set 2 (.bi .max (.cons (.var 2) (.cons (.bin .sub (.call 0 (.cons (.var 0) (.cons (.var 1) (.cons (.var 3) .nil)))) (.var 3)) .nil))))
  .nil)
def b_law_seen : CSs := (.cons (.set 2 (.int 0))
  (.cons (.fors (.nm 3) (.rng2 (.int 1) (.var 1)) l_law_seen_1)
  (.cons (.ret (.var 2))
  .nil)))
noncomputable def G_law_seen : Gam := ⟨[("_law_many_lack", 3, R_law_many_lack)], [], []⟩
@[simp] theorem gf_law_seen_0 : G_law_seen.fn[0]? = some (("_law_many_lack" : Str), 3, R_law_many_lack) := rfl
noncomputable def R_law_seen : List D → Option D := runF G_law_seen false 4 b_law_seen
def l_law_beginnings_1 : CSs := (.cons (.ite (.isN true (.var 2)) (.cons (.mc 1 0 (.cons (.var 2) (.cons (.var 1) .nil)))
  .nil) .nil)
  .nil)
def b_law_beginnings : CSs := (.cons (.ite (.not (.isi "tuple" (.ix (.var 0) (.int 1)))) (.cons (.sto 1 (.ix (.var 0) (.int 0)) (.ix (.var 0) (.int 1)))
  (.cons (.retP 1)
  .nil)) .nil)
  (.cons (.fors (.nm 2) (.val (.ix (.var 0) (.int 1))) l_law_beginnings_1)
  (.cons (.retP 1)
  .nil)))
noncomputable def G_law_beginnings (f : List D → Option D) : Gam := ⟨[], [], [⟨"_law_beginnings", 2, 1, true, f⟩]⟩
@[simp] theorem gm_law_beginnings_0 (f : List D → Option D) : (G_law_beginnings f).mf[0]? = some ⟨"_law_beginnings", 2, 1, true, f⟩ := rfl
noncomputable def RB_law_beginnings (f : List D → Option D) : List D → Option D := runM (G_law_beginnings f) 1 true 3 b_law_beginnings
noncomputable def RR_law_beginnings : Nat → List D → Option D
  | 0 => fun _ => none
  | n + 1 => RB_law_beginnings (RR_law_beginnings n)
noncomputable def R_law_beginnings : List D → Option D := RR_law_beginnings 12
noncomputable def G_law_view_fits : Gam := ⟨[("_law_told", 3, R_law_told_2), ("together", 2, R_together), ("sure", 2, R_sure), ("_law_later", 2, R_law_later), ("soon", 2, R_soon), ("_law_clean", 2, R_law_clean), ("plain", 2, R_plain), ("waste_seen", 1, R_waste_seen), ("_law_seen", 2, R_law_seen)], [], [⟨"_law_beginnings", 2, 1, true, R_law_beginnings⟩]⟩
@[simp] theorem gf_law_view_fits_0 : G_law_view_fits.fn[0]? = some (("_law_told" : Str), 3, R_law_told_2) := rfl
@[simp] theorem gf_law_view_fits_1 : G_law_view_fits.fn[1]? = some (("together" : Str), 2, R_together) := rfl
@[simp] theorem gf_law_view_fits_2 : G_law_view_fits.fn[2]? = some (("sure" : Str), 2, R_sure) := rfl
@[simp] theorem gf_law_view_fits_3 : G_law_view_fits.fn[3]? = some (("_law_later" : Str), 2, R_law_later) := rfl
@[simp] theorem gf_law_view_fits_4 : G_law_view_fits.fn[4]? = some (("soon" : Str), 2, R_soon) := rfl
@[simp] theorem gf_law_view_fits_5 : G_law_view_fits.fn[5]? = some (("_law_clean" : Str), 2, R_law_clean) := rfl
@[simp] theorem gf_law_view_fits_6 : G_law_view_fits.fn[6]? = some (("plain" : Str), 2, R_plain) := rfl
@[simp] theorem gf_law_view_fits_7 : G_law_view_fits.fn[7]? = some (("waste_seen" : Str), 1, R_waste_seen) := rfl
@[simp] theorem gf_law_view_fits_8 : G_law_view_fits.fn[8]? = some (("_law_seen" : Str), 2, R_law_seen) := rfl
@[simp] theorem gm_law_view_fits_0 : G_law_view_fits.mf[0]? = some ⟨"_law_beginnings", 2, 1, true, R_law_beginnings⟩ := rfl
end DD
set_option Elab.async false
set_option linter.all false
set_option maxRecDepth 100000
set_option maxHeartbeats 4000000
namespace DD
open PySem L2 PyProof.Rows
section
variable [Tb : Tbl]
/-- parameters without defaults, none beside -/
def parB (ps : List Str) (a : Arguments) : Bool := match a with
  | ⟨[], [x], none, [], [], none, []⟩ => decide (ps = [x.arg])
  | _ => false
noncomputable def lamR (Γb : Gam) (cb : CE) (np nf n : Nat) : Clo := fun ds args =>
  if args.length = np ∧ ds.length = nf then (ev Γb cb (args.map (fun d => some (.sh d)) ++ (ds.map (fun d => some (.sh d)) ++ List.replicate (n - args.length - ds.length) none))).bind fun r => if imm r.2 then some r.2 else none else none
noncomputable def lmOf (Γb : Gam) (ps fr N : List Str) (cb : CE) : LM where
  φ := lamR Γb cb ps.length fr.length N.length
  ck := fun sc N' cap params body lsc => NdefX.nscB N ps fr lsc && (lsc.names.all fun y => !decide (y.2 = .free) || decide (sc.names.lookup y.1 = some .cell) || decide (sc.names.lookup y.1 = some .free)) && decide (cap.map (fun j => N'[j]?) = fr.map some) && fr.all (fun y => decide ((y, NameKind.free) ∈ lsc.names)) && parB ps params && chk false Γb lsc N cb body
end
end DD
namespace DD
open PySem L2 PyProof.Rows
section
variable [Tb : Tbl]
noncomputable def runC (Γ : Gam) (n : Nat) (b : CSs) (v : CV) (ds : List D) : Option D :=
  match exs Γ false b (some (.cl v) :: (ds.map (fun d => some (.sh d)) ++ List.replicate (n - ds.length - 1) none)) with
  | some (.nx _) => some .non
  | some (.rt d) => some d
  | _ => none
section
variable {P : Program} {w : World} {K : PySem.W.Frag} {mg : Str → Option Value} {base : Heap}
theorem FnTk.at {kc k : Nat} {q : FC} {cl : ClM} (T : FnTk P w K mg kc k q) (hm : Mod K mg base) (hc : ClOk P w K mg base kc cl) : FnTt P w K mg base k q.nm q.n (q.F cl) := by
  obtain ⟨f, fd, ps, h1, h2, h3, h4, h5⟩ := T.ex
  exact ⟨f, fd, ps, h1, h2 base cl hm hc, h3, h4, h5⟩
def TcsOk (P : Program) (w : World) (K : PySem.W.Frag) (mg : Str → Option Value) (base : Heap) (k : Nat) : List (Str × Nat × (CV → List D → Option D)) → Prop
  | [] => True
  | q :: qs => FnTt P w K mg base k q.1 q.2.1 q.2.2 ∧ TcsOk P w K mg base k qs
theorem TcsOk.get {k : Nat} : ∀ {fs : List (Str × Nat × (CV → List D → Option D))} {j : Nat} {x : Str} {n : Nat} {F : CV → List D → Option D}, TcsOk P w K mg base k fs → fs[j]? = some (x, n, F) → FnTt P w K mg base k x n F
  | [], j, x, n, F, _, e => by simp at e
  | q :: qs, 0, x, n, F, h, e => by
    simp only [List.getElem?_cons_zero, Option.some.injEq] at e
    subst e
    exact h.1
  | q :: qs, j + 1, x, n, F, h, e => TcsOk.get (j := j) h.2 (by simpa using e)
def FcsOk (P : Program) (w : World) (K : PySem.W.Frag) (mg : Str → Option Value) (kc k : Nat) : List FC → Prop
  | [] => True
  | q :: qs => FnTk P w K mg kc k q ∧ FcsOk P w K mg kc k qs
theorem FcsOk.get {kc k : Nat} : ∀ {fs : List FC} {j : Nat} {q : FC}, FcsOk P w K mg kc k fs → fs[j]? = some q → FnTk P w K mg kc k q
  | [], j, q, _, e => by simp at e
  | q :: qs, 0, _, h, e => by
    simp only [List.getElem?_cons_zero, Option.some.injEq] at e
    subst e
    exact h.1
  | q :: qs, j + 1, _, h, e => FcsOk.get (j := j) h.2 (by simpa using e)
def LmsOk (P : Program) (w : World) (K : PySem.W.Frag) (mg : Str → Option Value) (kc : Nat) : List LM → Prop
  | [] => True
  | q :: qs => LmOk P w K mg kc q ∧ LmsOk P w K mg kc qs
theorem LmsOk.get {kc : Nat} : ∀ {fs : List LM} {j : Nat} {q : LM}, LmsOk P w K mg kc fs → fs[j]? = some q → LmOk P w K mg kc q
  | [], j, q, _, e => by simp at e
  | q :: qs, 0, _, h, e => by
    simp only [List.getElem?_cons_zero, Option.some.injEq] at e
    subst e
    exact h.1
  | q :: qs, j + 1, _, h, e => LmsOk.get (j := j) h.2 (by simpa using e)
end
section
variable {P : Program} {w : World} {K : PySem.W.Frag} {mg : Str → Option Value} {base : Heap}
def FbsOk (P : Program) (w : World) (K : PySem.W.Frag) (mg : Str → Option Value) (kc k : Nat) : List FC → Prop
  | [] => True
  | q :: qs => FnTk1 P w K mg kc k q ∧ FbsOk P w K mg kc k qs
theorem FbsOk.get {kc k : Nat} : ∀ {fs : List FC} {j : Nat} {q : FC}, FbsOk P w K mg kc k fs → fs[j]? = some q → FnTk1 P w K mg kc k q
  | [], j, q, _, e => by simp at e
  | q :: qs, 0, _, h, e => by
    simp only [List.getElem?_cons_zero, Option.some.injEq] at e
    subst e
    exact h.1
  | q :: qs, j + 1, _, h, e => FbsOk.get (j := j) h.2 (by simpa using e)
end
end
end DD
set_option Elab.async false
set_option linter.all false
set_option maxRecDepth 100000
set_option maxHeartbeats 4000000
set_option Elab.async false
set_option linter.all false
set_option maxRecDepth 100000
set_option maxHeartbeats 1000000
namespace DD
open PySem L2
def l_choice_by_1 : CSs := (.cons (.set 3 (.app 0 (.cons (.call 1 (.cons (.var 1) (.cons (.var 2) .nil))) .nil)))
  (.cons (.ite (.isN true (.var 3)) (.cons (.ret (.tup (.cons (.var 2) (.cons (.var 3) .nil))))
  .nil) .nil)
  .nil))
def b_choice_by : CSs := (.cons (.fors (.nm 2) (.rng1 (.bin .add (.call 0 (.cons (.var 1) .nil)) (.int 1))) l_choice_by_1)
  (.cons (.ret .non)
  .nil))
noncomputable def G_choice_by (cl : ClM) : Gam := @Gam.mk [("rounds_of", 1, R_rounds_of), ("own_past", 2, R_own_past)] [] [] ⟨cl, [], [], [], 0⟩
@[simp] theorem gf_choice_by_0 (cl : ClM) : (G_choice_by cl).fn[0]? = some (("rounds_of" : Str), 1, R_rounds_of) := rfl
@[simp] theorem gf_choice_by_1 (cl : ClM) : (G_choice_by cl).fn[1]? = some (("own_past" : Str), 2, R_own_past) := rfl
@[simp] theorem gcl_choice_by (cl : ClM) : (G_choice_by cl).ex.cl = cl := rfl
noncomputable def R_choice_by (cl : ClM) : CV → List D → Option D := runC (G_choice_by cl) 4 b_choice_by
noncomputable def G_law_table_2 : Gam := ⟨[("_law_mixed", 2, R_law_mixed_2), ("_law_cell_at", 2, R_law_cell_at)], [], []⟩
@[simp] theorem gf_law_table_2_0 : G_law_table_2.fn[0]? = some (("_law_mixed" : Str), 2, R_law_mixed_2) := rfl
@[simp] theorem gf_law_table_2_1 : G_law_table_2.fn[1]? = some (("_law_cell_at" : Str), 2, R_law_cell_at) := rfl
def e_choices_1 : CE := (.callC 0 0 (.cons (.var 6) .nil))
def l_choices_2 : CSs := (.cons (.ite (.isN true (.var 6)) (.cons (.sto 3 (.var 5) (.var 6))
  .nil) .nil)
  .nil)
def l_choices_3 : CSs := (.cons (.fors (.tp [5, 6]) (.enum (.call 0 (.cons (.var 1) (.cons (.var 4) .nil)))) l_choices_2)
  .nil)
def b_choices : CSs := (.cons (.set 3 (.call 0 (.cons (.var 1) (.cons (.int 0) .nil))))
  (.cons (.fors (.nm 4) (.rng2 (.int 1) (.bin .add (.var 2) (.int 1))) l_choices_3)
  (.cons (.ret (.lc [("view", 6)] (.nm 6) (.val (.var 3)) (.bl true) e_choices_1))
  .nil)))
noncomputable def G_choices (cl : ClM) : Gam := @Gam.mk [("views_of", 2, R_views_of)] [] [] ⟨cl, [("choice_by", 2, R_choice_by cl)], [], [], 0⟩
@[simp] theorem gf_choices_0 (cl : ClM) : (G_choices cl).fn[0]? = some (("views_of" : Str), 2, R_views_of) := rfl
@[simp] theorem gcl_choices (cl : ClM) : (G_choices cl).ex.cl = cl := rfl
@[simp] theorem gt_choices_0 (cl : ClM) : (G_choices cl).ex.tc[0]? = some (("choice_by" : Str), 2, R_choice_by cl) := rfl
noncomputable def R_choices (cl : ClM) : CV → List D → Option D := runC (G_choices cl) 7 b_choices
theorem imm_mut {d : D} (h : imm d = true) : isMut d = false := by cases d <;> simp [imm] at h <;> rfl
theorem find_go {α : Type} {t : Tg} {body : Rho → Option Out} {f : α → D} (I : Rho → Prop) (p : α → Bool) (res : α → D) : ∀ (L : List α) (ρ : Rho), I ρ →
    (∀ x ∈ L, ∀ ρ, I ρ → ∃ ρ1, bindT t (f x) ρ = some ρ1 ∧ if p x = true then body ρ1 = some (.rt (res x)) else ∃ ρ2, body ρ1 = some (.nx ρ2) ∧ I ρ2) →
    match L.find? p with | some x => forGo t body (L.map f) ρ = some (.rt (res x)) | none => ∃ ρ2, forGo t body (L.map f) ρ = some (.nx ρ2) ∧ I ρ2
  | [], ρ, h, _ => ⟨ρ, rfl, h⟩
  | x :: L, ρ, h, hs => by
    obtain ⟨ρ1, b1, b2⟩ := hs x List.mem_cons_self ρ h
    rw [List.find?_cons]
    cases e : p x with
    | true =>
      rw [if_pos e] at b2
      show forGo t body (f x :: L.map f) ρ = _
      simp only [forGo, b1, b2, Option.bind_eq_bind, Option.bind_some]
    | false =>
      rw [if_neg (by rw [e]; exact Bool.false_ne_true)] at b2
      obtain ⟨ρ2, b3, b4⟩ := b2
      have ih := find_go I p res L ρ2 b4 (fun y hy => hs y (List.mem_cons_of_mem _ hy))
      have e1 : forGo t body ((x :: L).map f) ρ = forGo t body (L.map f) ρ2 := by
        show forGo t body (f x :: L.map f) ρ = _
        simp only [forGo, b1, b3, Option.bind_eq_bind, Option.bind_some]
      dsimp only
      rw [e1]
      exact ih
end DD
set_option Elab.async false
set_option linter.all false
set_option maxRecDepth 100000
set_option maxHeartbeats 1000000
namespace DD
open PySem L2
/-- a round in which everybody who was up is heard by everybody who is -/
def clear (r : Rn) (m : Nat) : Prop := ∀ x h, x < r.many → h < r.many → up r x m = true → up r h (m + 1) = true → x = h ∨ cm r x h (m + 1) = true
theorem Hp_iff {r : Rn} {n h x : Nat} : Hp_ r n h x = true ↔ x = h ∨ cm r x h n = true := Hp_or
end DD
set_option Elab.async false
set_option linter.all false
set_option maxRecDepth 100000
set_option maxHeartbeats 1000000
namespace DD
open PySem L2
/-- what hands choose that all choose at the round L -/
def fnd (r : Rn) (L h : Nat) : D := if up r h L = true then .tup [.int L, .int (mnI r L h)] else .non
end DD
set_option Elab.async false
set_option linter.all false
set_option maxRecDepth 100000
set_option maxHeartbeats 1000000
namespace DD
open PySem L2
noncomputable def G_law_all_chosen : Gam := ⟨[("_law_up", 3, R_law_up)], [], []⟩
@[simp] theorem gf_law_all_chosen_0 : G_law_all_chosen.fn[0]? = some (("_law_up" : Str), 3, R_law_up) := rfl
end DD
set_option Elab.async false
set_option linter.all false
set_option maxRecDepth 100000
set_option maxHeartbeats 1000000
namespace DD
open PySem L2
def n_law_meet : List Str := ["one", "other", "k"]
def l_law_meet_1 : CSs := (.cons (.ite (.and (.isN true (.ix (.var 0) (.var 2))) (.cmp .eq (.ix (.var 0) (.var 2)) (.ix (.var 1) (.var 2)))) (.cons (.ret (.bl true))
  .nil) .nil)
  .nil)
def b_law_meet : CSs := (.cons (.fors (.nm 2) (.rng1 (.bi .len (.cons (.var 0) .nil))) l_law_meet_1)
  (.cons (.ret (.bl false))
  .nil))
noncomputable def G_law_meet : Gam := ⟨[], [], []⟩
noncomputable def R_law_meet : List D → Option D := runF G_law_meet false 3 b_law_meet
theorem r_law_meet (one_ other_ : D) : R_law_meet [one_, other_] = outR (exs G_law_meet false b_law_meet [some (.sh one_), some (.sh other_), none]) := run_eq (fun z => by cases z)
def n_law_changed_2 : List Str := ["run", "mixed", "cell", "numbers", "hands", "hand", "falls", "other", "fall", "one", "at", "reached"]
def c_law_changed_2_1 : CE := (.cmp .ne (.ix (.var 8) (.int 0)) (.var 9))
def e_law_changed_2_2 : CE := (.var 8)
def c_law_changed_2_3 : CE := (.cmp .ne (.ix (.var 8) (.int 0)) (.var 5))
def e_law_changed_2_4 : CE := (.var 8)
def b_law_changed_2 : CSs := (.cons (.set 3 (.bi .list (.cons (.ix (.var 0) (.int 0)) .nil)))
  (.cons (.set 4 (.bi .len (.cons (.var 3) .nil)))
  (.cons (.set 5 (.bin .mod (.bin .fdiv (.var 1) (.int 4)) (.var 4)))
  (.cons (.set 6 (.lc [("fall", 8)] (.nm 8) (.val (.ix (.var 0) (.int 1))) c_law_changed_2_3 e_law_changed_2_4))
  (.cons (.ite (.cmp .eq (.bin .mod (.var 1) (.int 4)) (.int 0)) (.cons (.sto 3 (.var 5) (.call 1 (.cons (.var 2) .nil)))
  (.cons (.ret (.tup (.cons (.bi .tuple (.cons (.var 3) .nil)) (.cons (.ix (.var 0) (.int 1)) .nil))))
  .nil)) .nil)
  (.cons (.ite (.and (.cmp .eq (.bin .mod (.var 1) (.int 4)) (.int 1)) (.cmp .gt (.bi .len (.cons (.ix (.var 0) (.int 1)) .nil)) (.int 0))) (.cons (.unp [9, 10, 11] (.ix (.ix (.var 0) (.int 1)) (.bin .mod (.bin .fdiv (.var 1) (.int 4)) (.bi .len (.cons (.ix (.var 0) (.int 1)) .nil)))))
  (.cons (.set 7 (.bin .mod (.bin .add (.bin .add (.var 9) (.int 1)) (.bin .mod (.bin .fdiv (.var 1) (.int 20)) (.bin .sub (.var 4) (.int 1)))) (.var 4)))
  (.cons (.set 6 (.lc [("fall", 8)] (.nm 8) (.val (.ix (.var 0) (.int 1))) c_law_changed_2_1 e_law_changed_2_2))
  (.cons (.ite (.cmp .eq (.bin .band (.bin .shr (.var 11) (.var 7)) (.int 1)) (.int 1)) (.cons (.app 6 (.tup (.cons (.var 9) (.cons (.var 10) (.cons (.bin .sub (.var 11) (.bin .shl (.int 1) (.var 7))) .nil)))))
  .nil) (.cons (.app 6 (.tup (.cons (.var 9) (.cons (.var 10) (.cons (.bin .add (.var 11) (.bin .shl (.int 1) (.var 7))) .nil)))))
  .nil))
  .nil)))) (.cons (.ite (.cmp .lt (.bin .mod (.var 1) (.int 4)) (.int 3)) (.cons (.app 6 (.call 0 (.cons (.bin .fdiv (.var 1) (.int 20)) (.cons (.var 5) (.cons (.var 4) (.cons (.bl false) .nil))))))
  .nil) .nil)
  .nil))
  (.cons (.ret (.tup (.cons (.ix (.var 0) (.int 0)) (.cons (.bi .tuple (.cons (.bi .sorted (.cons (.var 6) .nil)) .nil)) .nil))))
  .nil)))))))
noncomputable def G_law_changed_2 : Gam := ⟨[("_law_fall", 4, R_law_fall), ("_law_number", 1, R_law_number_2)], [], []⟩
@[simp] theorem gf_law_changed_2_0 : G_law_changed_2.fn[0]? = some (("_law_fall" : Str), 4, R_law_fall) := rfl
@[simp] theorem gf_law_changed_2_1 : G_law_changed_2.fn[1]? = some (("_law_number" : Str), 1, R_law_number_2) := rfl
noncomputable def R_law_changed_2 : List D → Option D := runF G_law_changed_2 false 12 b_law_changed_2
theorem r_law_changed_2 (run_ mixed_ cell_ : D) : R_law_changed_2 [run_, mixed_, cell_] = outR (exs G_law_changed_2 false b_law_changed_2 [some (.sh run_), some (.sh mixed_), some (.sh cell_), none, none, none, none, none, none, none, none, none]) := run_eq (fun z => by cases z)
def bl_law_told_6_1 : CE := (.call 0 (.cons (.var 0) (.cons (.var 1) .nil)))
noncomputable def Gl_law_told_6_1 : Gam := ⟨[("together", 2, R_together)], [], []⟩
@[simp] theorem gfl_law_told_6_1_0 : Gl_law_told_6_1.fn[0]? = some (("together" : Str), 2, R_together) := rfl
noncomputable def lm_law_told_6_1 : LM := lmOf Gl_law_told_6_1 ["view"] ["bound"] ["view", "bound"] bl_law_told_6_1
def l_law_told_6_1 : CSs := (.cons (.ite (.call 0 (.cons (.var 0) (.cons (.var 4) (.cons (.var 2) .nil)))) (.cons (.ite (.isN false (.var 5)) (.cons (.ret .non)
  .nil) .nil)
  (.cons (.ite (.cmp .notin (.ix (.var 5) (.int 1)) (.var 3)) (.cons (.app 3 (.ix (.var 5) (.int 1)))
  .nil) .nil)
  .nil)) .nil)
  .nil)
def b_law_told_6 : CSs := (.cons (.set 3 (.lst .nil))
  (.cons (.fors (.tp [4, 5]) (.enum (.callL 0 0 [1] (.cons (.var 0) (.cons (.var 2) .nil)))) l_law_told_6_1)
  (.cons (.ret (.var 3))
  .nil)))
noncomputable def G_law_told_6 : Gam := @Gam.mk [("_law_up", 3, R_law_up)] [] [] ⟨fun _ => none, [], [⟨"choices", 3, R_choices⟩], [lm_law_told_6_1], 17⟩
@[simp] theorem gf_law_told_6_0 : G_law_told_6.fn[0]? = some (("_law_up" : Str), 3, R_law_up) := rfl
@[simp] theorem gfc_law_told_6_0 : G_law_told_6.ex.fc[0]? = some ⟨"choices", 3, R_choices⟩ := rfl
@[simp] theorem glm_law_told_6_0 : G_law_told_6.ex.lm[0]? = some lm_law_told_6_1 := rfl
noncomputable def R_law_told_6 : List D → Option D := runF G_law_told_6 false 6 b_law_told_6
noncomputable def G_law_pair_fits : Gam := ⟨[("_law_meet", 2, R_law_meet), ("_law_told", 3, R_law_told_6), ("is_open", 3, R_is_open), ("_law_views", 2, R_law_views_2)], [], []⟩
@[simp] theorem gf_law_pair_fits_0 : G_law_pair_fits.fn[0]? = some (("_law_meet" : Str), 2, R_law_meet) := rfl
@[simp] theorem gf_law_pair_fits_1 : G_law_pair_fits.fn[1]? = some (("_law_told" : Str), 3, R_law_told_6) := rfl
@[simp] theorem gf_law_pair_fits_2 : G_law_pair_fits.fn[2]? = some (("is_open" : Str), 3, R_is_open) := rfl
@[simp] theorem gf_law_pair_fits_3 : G_law_pair_fits.fn[3]? = some (("_law_views" : Str), 2, R_law_views_2) := rfl
section
variable {Γ : Gam} {m : Bool} {c : CE} {p q ss : CSs} {ρ : Rho} {d : D}
theorem st_rt (h : toB (ev Γ c ρ) = some true) (h2 : exs Γ m p ρ = some (.rt d)) : exs Γ m (.cons (.ite c p q) ss) ρ = some (.rt d) := by
  rw [xs_cons, x_ite, h, Option.bind_some, if_pos rfl, h2]; rfl
end
theorem ch_end {rd : D} {N F S : List D} {a1 a2 a3 a4 a5 a7 a8 a9 a10 a11 : Option Sl} (h0 : dIx rd (.int 0) = some (.tup N)) (hs : dBI .sorted [.lst F] = some (.lst S)) (hN : immL N = true) (hS : immL S = true) :
    exs G_law_changed_2 false (.cons (.ret (.tup (.cons (.ix (.var 0) (.int 0)) (.cons (.bi .tuple (.cons (.bi .sorted (.cons (.var 6) .nil)) .nil)) .nil)))) .nil) [some (.sh rd), a1, a2, a3, a4, a5, some (.ow (.lst F)), a7, a8, a9, a10, a11] = some (.rt (.tup [.tup N, .tup S])) := by
  have ht : dBI .tuple [.lst S] = some (.tup S) := rfl
  simp [h0, hs, ht, hN, hS]
theorem ch_cell {a0 a1 a2 a3 a4 a6 a7 a9 a10 a11 : Option Sl} {y z : D} {q h : Int} : toB (ev G_law_changed_2 c_law_changed_2_3 [a0, a1, a2, a3, a4, some (.sh (.int h)), a6, a7, some (.sh (.tup [.int q, y, z])), a9, a10, a11]) = some (!decide (q = h)) ∧
    ev G_law_changed_2 e_law_changed_2_4 [a0, a1, a2, a3, a4, some (.sh (.int h)), a6, a7, some (.sh (.tup [.int q, y, z])), a9, a10, a11] = some (.sh, .tup [.int q, y, z]) := by
  constructor
  · simp [c_law_changed_2_3]
  · simp [e_law_changed_2_4]
theorem ch_cell2 {a0 a1 a2 a3 a4 a5 a6 a7 a10 a11 : Option Sl} {y z : D} {q h : Int} : toB (ev G_law_changed_2 c_law_changed_2_1 [a0, a1, a2, a3, a4, a5, a6, a7, some (.sh (.tup [.int q, y, z])), some (.sh (.int h)), a10, a11]) = some (!decide (q = h)) ∧
    ev G_law_changed_2 e_law_changed_2_2 [a0, a1, a2, a3, a4, a5, a6, a7, some (.sh (.tup [.int q, y, z])), some (.sh (.int h)), a10, a11] = some (.sh, .tup [.int q, y, z]) := by
  constructor
  · simp [c_law_changed_2_1]
  · simp [e_law_changed_2_2]
theorem ch_lc {r : Rn} (K : r.Ok) {h : Nat} {a1 a2 a3 a4 a7 a9 a10 a11 : Option Sl} {F : Option Sl} : ev G_law_changed_2 (.lc [("fall", 8)] (.nm 8) (.val (.ix (.var 0) (.int 1))) c_law_changed_2_3 e_law_changed_2_4) [some (.sh r.d), a1, a2, a3, a4, some (.sh (.int h)), F, a7, none, a9, a10, a11] = some (.fr, .lst (r.wo h).falls) := by
  have hi := K.hi
  have h1 := ev_lcm (Γ := G_law_changed_2) (own := [("fall", 8)]) (t := .nm 8) (it := .val (.ix (.var 0) (.int 1))) (c := c_law_changed_2_3) (e := e_law_changed_2_4) (ρ := [some (.sh r.d), a1, a2, a3, a4, some (.sh (.int h)), F, a7, none, a9, a10, a11]) (b := false) (xs := prs r.tab (List.range r.many)) (f := fallQ) fallQ (fun q => !decide (q.1 = h)) (fun q => [some (.sh r.d), a1, a2, a3, a4, some (.sh (.int h)), F, a7, some (.sh (fallQ q)), a9, a10, a11])
    (by simp [d_parts.2, itemsOf]; rfl) (lim_small (by have := prs_len r.tab (List.range r.many); rw [List.length_range] at this; omega)) rfl
    (fun q hq => ⟨rfl, by
      have := (ch_cell (a0 := some (.sh r.d)) (a1 := a1) (a2 := a2) (a3 := a3) (a4 := a4) (a6 := F) (a7 := a7) (a9 := a9) (a10 := a10) (a11 := a11) (y := .int q.2.1) (z := .int q.2.2) (q := q.1) (h := h)).1
      have e : (!decide (q.1 = h)) = !decide ((q.1 : Int) = (h : Int)) := by simp
      rw [e]; exact this, fun _ => ⟨.sh, (ch_cell (y := .int q.2.1) (z := .int q.2.2) (q := q.1) (h := h)).2, shb_sh⟩⟩)
  rw [← falls_wo] at h1
  exact h1
theorem ch_lc2 {r : Rn} (K : r.Ok) {h : Nat} {a1 a2 a3 a4 a5 a6 a7 a10 a11 : Option Sl} : ev G_law_changed_2 (.lc [("fall", 8)] (.nm 8) (.val (.ix (.var 0) (.int 1))) c_law_changed_2_1 e_law_changed_2_2) [some (.sh r.d), a1, a2, a3, a4, a5, a6, a7, none, some (.sh (.int h)), a10, a11] = some (.fr, .lst (r.wo h).falls) := by
  have hi := K.hi
  have h1 := ev_lcm (Γ := G_law_changed_2) (own := [("fall", 8)]) (t := .nm 8) (it := .val (.ix (.var 0) (.int 1))) (c := c_law_changed_2_1) (e := e_law_changed_2_2) (ρ := [some (.sh r.d), a1, a2, a3, a4, a5, a6, a7, none, some (.sh (.int h)), a10, a11]) (b := false) (xs := prs r.tab (List.range r.many)) (f := fallQ) fallQ (fun q => !decide (q.1 = h)) (fun q => [some (.sh r.d), a1, a2, a3, a4, a5, a6, a7, some (.sh (fallQ q)), some (.sh (.int h)), a10, a11])
    (by simp [d_parts.2, itemsOf]; rfl) (lim_small (by have := prs_len r.tab (List.range r.many); rw [List.length_range] at this; omega)) rfl
    (fun q hq => ⟨rfl, by
      have := (ch_cell2 (a0 := some (.sh r.d)) (a1 := a1) (a2 := a2) (a3 := a3) (a4 := a4) (a5 := a5) (a6 := a6) (a7 := a7) (a10 := a10) (a11 := a11) (y := .int q.2.1) (z := .int q.2.2) (q := q.1) (h := h)).1
      have e : (!decide (q.1 = h)) = !decide ((q.1 : Int) = (h : Int)) := by simp
      rw [e]; exact this, fun _ => ⟨.sh, (ch_cell2 (y := .int q.2.1) (z := .int q.2.2) (q := q.1) (h := h)).2, shb_sh⟩⟩)
  rw [← falls_wo] at h1
  exact h1
theorem sorted_own {r : Rn} (K : r.Ok) : dBI .sorted [.lst r.falls] = some (.lst r.falls) := by
  by_cases e : prs r.tab (List.range r.many) = []
  · have : r.falls = [] := by rw [Rn.falls_Q, e]; rfl
    rw [this]; exact sorted_nil
  · exact sorted_falls K.tab K.hi (List.Perm.refl _) e
theorem ch_number {rd N : D} {N0 N1 F0 L0 : List D} {x c n h v : Int} (n0 : dIx rd (.int 0) = some N) (n1 : dIx rd (.int 1) = some (.tup F0)) (hL : dBI .list [N] = some (.lst N0)) (hl : dLen [.lst N0] = some (.int n)) (n2 : 0 < n) (hh : x / 4 % n = h) (h4 : x % 4 = 0)
    (hlc : ev G_law_changed_2 (.lc [("fall", 8)] (.nm 8) (.val (.ix (.var 0) (.int 1))) c_law_changed_2_3 e_law_changed_2_4) [some (.sh rd), some (.sh (.int x)), some (.sh (.int c)), some (.ow (.lst N0)), some (.sh (.int n)), some (.sh (.int h)), none, none, none, none, none, none] = some (.fr, .lst L0))
    (hv : R_law_number_2 [.int c] = some (.int v)) (hs : dSto (.lst N0) (.int h) (.int v) = some (.lst N1)) (i1 : immL N1 = true) (i2 : immL F0 = true) : R_law_changed_2 [rd, .int x, .int c] = some (.tup [.tup N1, .tup F0]) := by
  have hq := d_mod (i := x / 4) (j := n) n2
  rw [r_law_changed_2]
  unfold b_law_changed_2
  rw [st_setL (L := N0) (by simp [n0, hL])]
  simp only [List.set_cons_succ, List.set_cons_zero]
  rw [st_set (d := .int n) (by simp [hl]) rfl]
  simp only [List.set_cons_succ, List.set_cons_zero]
  rw [st_set (d := .int h) (by simp [hq, hh]) rfl]
  simp only [List.set_cons_succ, List.set_cons_zero]
  rw [st_setL (L := L0) hlc]
  simp only [List.set_cons_succ, List.set_cons_zero]
  have ht : dBI .tuple [.lst N1] = some (.tup N1) := rfl
  rw [st_rt (d := .tup [.tup N1, .tup F0]) (by simp [h4]) (by simp [hv, stoR, owned, hs, ht, n1, i1, i2])]
  rfl
/-- the falls after the change: none added, one added anew, or one changed -/
theorem ch_falls {rd : D} {N0 N1 F0 L0 L S : List D} {x c n h : Int} {a7 a9 a10 a11 : Option Sl} (n0 : dIx rd (.int 0) = some (.tup N1)) (n1 : dIx rd (.int 1) = some (.tup F0)) (hL : dBI .list [.tup N1] = some (.lst N0)) (hl : dLen [.lst N0] = some (.int n)) (n2 : 0 < n) (hh : x / 4 % n = h) (h4 : ¬ x % 4 = 0)
    (hlc : ev G_law_changed_2 (.lc [("fall", 8)] (.nm 8) (.val (.ix (.var 0) (.int 1))) c_law_changed_2_3 e_law_changed_2_4) [some (.sh rd), some (.sh (.int x)), some (.sh (.int c)), some (.ow (.lst N0)), some (.sh (.int n)), some (.sh (.int h)), none, none, none, none, none, none] = some (.fr, .lst L0))
    {s1 : CS} (hb : ∀ ss, exs G_law_changed_2 false (.cons (.ite (.and (.cmp .eq (.bin .mod (.var 1) (.int 4)) (.int 1)) (.cmp .gt (.bi .len (.cons (.ix (.var 0) (.int 1)) .nil)) (.int 0))) (.cons (.unp [9, 10, 11] (.ix (.ix (.var 0) (.int 1)) (.bin .mod (.bin .fdiv (.var 1) (.int 4)) (.bi .len (.cons (.ix (.var 0) (.int 1)) .nil)))))
  (.cons (.set 7 (.bin .mod (.bin .add (.bin .add (.var 9) (.int 1)) (.bin .mod (.bin .fdiv (.var 1) (.int 20)) (.bin .sub (.var 4) (.int 1)))) (.var 4)))
  (.cons (.set 6 (.lc [("fall", 8)] (.nm 8) (.val (.ix (.var 0) (.int 1))) c_law_changed_2_1 e_law_changed_2_2))
  (.cons (.ite (.cmp .eq (.bin .band (.bin .shr (.var 11) (.var 7)) (.int 1)) (.int 1)) (.cons (.app 6 (.tup (.cons (.var 9) (.cons (.var 10) (.cons (.bin .sub (.var 11) (.bin .shl (.int 1) (.var 7))) .nil)))))
  .nil) (.cons (.app 6 (.tup (.cons (.var 9) (.cons (.var 10) (.cons (.bin .add (.var 11) (.bin .shl (.int 1) (.var 7))) .nil)))))
  .nil))
  .nil)))) (.cons (.ite (.cmp .lt (.bin .mod (.var 1) (.int 4)) (.int 3)) (.cons (.app 6 (.call 0 (.cons (.bin .fdiv (.var 1) (.int 20)) (.cons (.var 5) (.cons (.var 4) (.cons (.bl false) .nil))))))
  .nil) .nil)
  .nil)) ss) [some (.sh rd), some (.sh (.int x)), some (.sh (.int c)), some (.ow (.lst N0)), some (.sh (.int n)), some (.sh (.int h)), some (.ow (.lst L0)), none, none, none, none, none] =
      exs G_law_changed_2 false ss [some (.sh rd), some (.sh (.int x)), some (.sh (.int c)), some (.ow (.lst N0)), some (.sh (.int n)), some (.sh (.int h)), some (.ow (.lst L)), a7, none, a9, a10, a11])
    (hs : dBI .sorted [.lst L] = some (.lst S)) (i1 : immL N1 = true) (i2 : immL S = true) : R_law_changed_2 [rd, .int x, .int c] = some (.tup [.tup N1, .tup S]) := by
  have hq := d_mod (i := x / 4) (j := n) n2
  rw [r_law_changed_2]
  unfold b_law_changed_2
  rw [st_setL (L := N0) (by simp [n0, hL])]
  simp only [List.set_cons_succ, List.set_cons_zero]
  rw [st_set (d := .int n) (by simp [hl]) rfl]
  simp only [List.set_cons_succ, List.set_cons_zero]
  rw [st_set (d := .int h) (by simp [hq, hh]) rfl]
  simp only [List.set_cons_succ, List.set_cons_zero]
  rw [st_setL (L := L0) hlc]
  simp only [List.set_cons_succ, List.set_cons_zero]
  rw [st_skip (by simp [h4]), hb, ch_end n0 hs i1 i2]
  rfl
theorem tog1 : ∀ m : Fin 32, ∀ o : Fin 5, ∀ i : Fin 5, o.val ≠ i.val → m.val.testBit i.val = false → (if m.val.testBit o.val = true then m.val - 2 ^ o.val else m.val + 2 ^ o.val).testBit i.val = false := by decide +kernel
theorem tog2 : ∀ n : Fin 6, ∀ m : Fin 32, ∀ o : Fin 5, m.val < 2 ^ n.val → o.val < n.val → (if m.val.testBit o.val = true then m.val - 2 ^ o.val else m.val + 2 ^ o.val) < 2 ^ n.val := by decide +kernel
theorem with_ok2 {r : Rn} (K : r.Ok) {h : Nat} {p : Nat × Nat} (hh : h < r.many) (h1 : 1 ≤ p.1) (h5 : p.1 ≤ 5) (h2 : p.2 < 2 ^ r.many) (h3 : p.2.testBit h = false) : (r.with h p).Ok :=
  ⟨K.lo, K.hi, K.num, ⟨fun x hx => by
    show (if x = h then some p else r.tab x) = none
    rw [if_neg (by have : r.many ≤ x := hx; omega)]
    exact K.tab.out x hx, fun x q hq => by
    have hq' : (if x = h then some p else r.tab x) = some q := hq
    by_cases e : x = h
    · rw [if_pos e] at hq'; cases hq'; subst e; exact ⟨h1, h5, h2, h3⟩
    · rw [if_neg e] at hq'; exact K.tab.ok x q hq'⟩⟩
theorem ch_skip {rd : D} {L : List D} {x c n h : Int} {a3 : Option Sl} {ss : CSs} (h3 : x % 4 = 3) : exs G_law_changed_2 false (.cons (.ite (.and (.cmp .eq (.bin .mod (.var 1) (.int 4)) (.int 1)) (.cmp .gt (.bi .len (.cons (.ix (.var 0) (.int 1)) .nil)) (.int 0))) (.cons (.unp [9, 10, 11] (.ix (.ix (.var 0) (.int 1)) (.bin .mod (.bin .fdiv (.var 1) (.int 4)) (.bi .len (.cons (.ix (.var 0) (.int 1)) .nil)))))
  (.cons (.set 7 (.bin .mod (.bin .add (.bin .add (.var 9) (.int 1)) (.bin .mod (.bin .fdiv (.var 1) (.int 20)) (.bin .sub (.var 4) (.int 1)))) (.var 4)))
  (.cons (.set 6 (.lc [("fall", 8)] (.nm 8) (.val (.ix (.var 0) (.int 1))) c_law_changed_2_1 e_law_changed_2_2))
  (.cons (.ite (.cmp .eq (.bin .band (.bin .shr (.var 11) (.var 7)) (.int 1)) (.int 1)) (.cons (.app 6 (.tup (.cons (.var 9) (.cons (.var 10) (.cons (.bin .sub (.var 11) (.bin .shl (.int 1) (.var 7))) .nil)))))
  .nil) (.cons (.app 6 (.tup (.cons (.var 9) (.cons (.var 10) (.cons (.bin .add (.var 11) (.bin .shl (.int 1) (.var 7))) .nil)))))
  .nil))
  .nil)))) (.cons (.ite (.cmp .lt (.bin .mod (.var 1) (.int 4)) (.int 3)) (.cons (.app 6 (.call 0 (.cons (.bin .fdiv (.var 1) (.int 20)) (.cons (.var 5) (.cons (.var 4) (.cons (.bl false) .nil))))))
  .nil) .nil)
  .nil)) ss) [some (.sh rd), some (.sh (.int x)), some (.sh (.int c)), a3, some (.sh (.int n)), some (.sh (.int h)), some (.ow (.lst L)), none, none, none, none, none] =
      exs G_law_changed_2 false ss [some (.sh rd), some (.sh (.int x)), some (.sh (.int c)), a3, some (.sh (.int n)), some (.sh (.int h)), some (.ow (.lst L)), none, none, none, none, none] :=
  st_else (by simp [h3]) (by simp [h3])
theorem ch_new {rd d F0 : D} {L : List D} {x c n h l : Int} {a3 : Option Sl} {ss : CSs} (x1 : dIx rd (.int 1) = some F0) (hl : dLen [F0] = some (.int l)) (h3 : x % 4 = 2 ∨ (x % 4 = 1 ∧ ¬ 0 < l)) (hf : R_law_fall [.int (x / 20), .int h, .int n, .bl false] = some d) (him : imm d = true) (hL : L.length < lim) : exs G_law_changed_2 false (.cons (.ite (.and (.cmp .eq (.bin .mod (.var 1) (.int 4)) (.int 1)) (.cmp .gt (.bi .len (.cons (.ix (.var 0) (.int 1)) .nil)) (.int 0))) (.cons (.unp [9, 10, 11] (.ix (.ix (.var 0) (.int 1)) (.bin .mod (.bin .fdiv (.var 1) (.int 4)) (.bi .len (.cons (.ix (.var 0) (.int 1)) .nil)))))
  (.cons (.set 7 (.bin .mod (.bin .add (.bin .add (.var 9) (.int 1)) (.bin .mod (.bin .fdiv (.var 1) (.int 20)) (.bin .sub (.var 4) (.int 1)))) (.var 4)))
  (.cons (.set 6 (.lc [("fall", 8)] (.nm 8) (.val (.ix (.var 0) (.int 1))) c_law_changed_2_1 e_law_changed_2_2))
  (.cons (.ite (.cmp .eq (.bin .band (.bin .shr (.var 11) (.var 7)) (.int 1)) (.int 1)) (.cons (.app 6 (.tup (.cons (.var 9) (.cons (.var 10) (.cons (.bin .sub (.var 11) (.bin .shl (.int 1) (.var 7))) .nil)))))
  .nil) (.cons (.app 6 (.tup (.cons (.var 9) (.cons (.var 10) (.cons (.bin .add (.var 11) (.bin .shl (.int 1) (.var 7))) .nil)))))
  .nil))
  .nil)))) (.cons (.ite (.cmp .lt (.bin .mod (.var 1) (.int 4)) (.int 3)) (.cons (.app 6 (.call 0 (.cons (.bin .fdiv (.var 1) (.int 20)) (.cons (.var 5) (.cons (.var 4) (.cons (.bl false) .nil))))))
  .nil) .nil)
  .nil)) ss) [some (.sh rd), some (.sh (.int x)), some (.sh (.int c)), a3, some (.sh (.int n)), some (.sh (.int h)), some (.ow (.lst L)), none, none, none, none, none] =
      exs G_law_changed_2 false ss [some (.sh rd), some (.sh (.int x)), some (.sh (.int c)), a3, some (.sh (.int n)), some (.sh (.int h)), some (.ow (.lst (L ++ [d]))), none, none, none, none, none] := by
  have hm := imm_mut him
  rcases h3 with h3 | ⟨h3, h4⟩
  · exact st_else (by simp [h3]) (by simp [h3, hf, appR, owned, hL, hm])
  · exact st_else (by simp [h3, x1, hl, h4]) (by simp [h3, hf, appR, owned, hL, hm])
theorem ch_tog {rd F0 : D} {L : List D} {x c n h l q a m o s t B m' : Int} {a3 a6 : Option Sl} {ss : CSs} (x1 : dIx rd (.int 1) = some F0) (hl : dLen [F0] = some (.int l)) (l0 : 0 < l) (h1 : x % 4 = 1) (hq : dIx F0 (.int (x / 4 % l)) = some (.tup [.int q, .int a, .int m])) (n2 : 0 < n - 1) (ho : (q + 1 + x / 20 % (n - 1)) % n = o)
    (hlc : ev G_law_changed_2 (.lc [("fall", 8)] (.nm 8) (.val (.ix (.var 0) (.int 1))) c_law_changed_2_1 e_law_changed_2_2) [some (.sh rd), some (.sh (.int x)), some (.sh (.int c)), a3, some (.sh (.int n)), some (.sh (.int h)), a6, some (.sh (.int o)), none, some (.sh (.int q)), some (.sh (.int a)), some (.sh (.int m))] = some (.fr, .lst L))
    (hs : dBin .shr (.int m) (.int o) = some (.int s)) (ht : Builtin.bitAnd s 1 = t) (hB : dBin .shl (.int 1) (.int o) = some (.int B)) (hm : m' = if t = 1 then m - B else m + B) (hL : L.length < lim) : exs G_law_changed_2 false (.cons (.ite (.and (.cmp .eq (.bin .mod (.var 1) (.int 4)) (.int 1)) (.cmp .gt (.bi .len (.cons (.ix (.var 0) (.int 1)) .nil)) (.int 0))) (.cons (.unp [9, 10, 11] (.ix (.ix (.var 0) (.int 1)) (.bin .mod (.bin .fdiv (.var 1) (.int 4)) (.bi .len (.cons (.ix (.var 0) (.int 1)) .nil)))))
  (.cons (.set 7 (.bin .mod (.bin .add (.bin .add (.var 9) (.int 1)) (.bin .mod (.bin .fdiv (.var 1) (.int 20)) (.bin .sub (.var 4) (.int 1)))) (.var 4)))
  (.cons (.set 6 (.lc [("fall", 8)] (.nm 8) (.val (.ix (.var 0) (.int 1))) c_law_changed_2_1 e_law_changed_2_2))
  (.cons (.ite (.cmp .eq (.bin .band (.bin .shr (.var 11) (.var 7)) (.int 1)) (.int 1)) (.cons (.app 6 (.tup (.cons (.var 9) (.cons (.var 10) (.cons (.bin .sub (.var 11) (.bin .shl (.int 1) (.var 7))) .nil)))))
  .nil) (.cons (.app 6 (.tup (.cons (.var 9) (.cons (.var 10) (.cons (.bin .add (.var 11) (.bin .shl (.int 1) (.var 7))) .nil)))))
  .nil))
  .nil)))) (.cons (.ite (.cmp .lt (.bin .mod (.var 1) (.int 4)) (.int 3)) (.cons (.app 6 (.call 0 (.cons (.bin .fdiv (.var 1) (.int 20)) (.cons (.var 5) (.cons (.var 4) (.cons (.bl false) .nil))))))
  .nil) .nil)
  .nil)) ss) [some (.sh rd), some (.sh (.int x)), some (.sh (.int c)), a3, some (.sh (.int n)), some (.sh (.int h)), a6, none, none, none, none, none] =
      exs G_law_changed_2 false ss [some (.sh rd), some (.sh (.int x)), some (.sh (.int c)), a3, some (.sh (.int n)), some (.sh (.int h)), some (.ow (.lst (L ++ [.tup [.int q, .int a, .int m']]))), some (.sh (.int o)), none, some (.sh (.int q)), some (.sh (.int a)), some (.sh (.int m))] := by
  have d1 := d_mod (i := x / 4) (j := l) l0
  have d2 := d_mod (i := x / 20) (j := n - 1) n2
  have d3 := d_mod (i := q + 1 + x / 20 % (n - 1)) (j := n) (by omega)
  refine st_into (by simp [h1, x1, hl, l0]) ?_
  rw [st_one (ρ2 := [some (.sh rd), some (.sh (.int x)), some (.sh (.int c)), a3, some (.sh (.int n)), some (.sh (.int h)), a6, none, none, some (.sh (.int q)), some (.sh (.int a)), some (.sh (.int m))]) (by simp [x1, hl, d1, hq])]
  rw [st_set (d := .int o) (by simp [d2, d3, ho]) rfl]
  simp only [List.set_cons_succ, List.set_cons_zero]
  rw [st_setL (L := L) hlc]
  simp only [List.set_cons_succ, List.set_cons_zero]
  by_cases c1 : t = 1
  · rw [if_pos c1] at hm
    subst hm
    exact Eq.trans (st_into (by simp [hs, ht, c1]) (by simp [hB, appR, owned, hL])) xs_nil
  · rw [if_neg c1] at hm
    subst hm
    exact Eq.trans (st_else (by simp [hs, ht, c1]) (by simp [hB, appR, owned, hL])) xs_nil
theorem falls_at {r : Rn} (K : r.Ok) {j : Nat} (hj : j < nf r) : ∃ q : Q, q ∈ prs r.tab (List.range r.many) ∧ dIx (.tup r.falls) (.int j) = some (.tup [.int q.1, .int q.2.1, .int q.2.2]) := by
  have hj' : j < (prs r.tab (List.range r.many)).length := hj
  refine ⟨(prs r.tab (List.range r.many))[j], List.getElem_mem hj', ?_⟩
  rw [Rn.falls_Q]
  have hl : ((prs r.tab (List.range r.many)).map fallQ).length = (prs r.tab (List.range r.many)).length := List.length_map _
  have ix : ixN ((prs r.tab (List.range r.many)).map fallQ).length (j : Int) = some j := by
    unfold ixN; rw [hl]; simp; omega
  show atI _ _ = _
  unfold atI
  rw [ix, Option.bind_some, List.getElem?_map, List.getElem?_eq_getElem hj']
  rfl
theorem e_law_changed {r : Rn} (K : r.Ok) (x : Nat) (c : Int) : ∃ s : Rn, s.Ok ∧ s.many = r.many ∧ R_law_changed_2 [r.d, .int x, .int c] = some s.d := by
  have hi := K.hi
  have hlo := K.lo
  have hL : dBI .list [.tup r.numL] = some (.lst r.numL) := rfl
  have hl : dLen [.lst r.numL] = some (.int r.many) := by rw [len_lst (by rw [numL_len]; exact lim_small (by omega)), numL_len]
  have hlF : dLen [.tup r.falls] = some (.int (nf r : Nat)) := falls_dLen K
  obtain ⟨h, hh, eh⟩ : ∃ h : Nat, h < r.many ∧ (x : Int) / 4 % (r.many : Int) = (h : Int) := ⟨x / 4 % r.many, Nat.mod_lt _ (by omega), by rw [Int.natCast_emod, Int.natCast_ediv]; rfl⟩
  have lw : (r.wo h).falls.length ≤ 5 := Nat.le_trans falls_len hi
  have llim : (r.wo h).falls.length < lim := Nat.lt_of_le_of_lt lw (show 5 < lim by decide)
  have i1 := (imm_parts r).1
  have hc := ch_lc K (h := h) (a1 := some (.sh (.int x))) (a2 := some (.sh (.int c))) (a3 := some (.ow (.lst r.numL))) (a4 := some (.sh (.int r.many))) (a7 := none) (a9 := none) (a10 := none) (a11 := none) (F := none)
  by_cases c0 : (x : Int) % 4 = 0
  · obtain ⟨v, v1, v2, hv⟩ := e_law_number_2 c
    exact ⟨r.nu h v, K.nu ⟨v1, v2⟩, rfl, ch_number d_parts.1 d_parts.2 hL hl (by omega) eh c0 hc hv (sto_nu hh) (imm_parts (r.nu h v)).1 (imm_parts r).2⟩
  · by_cases c3 : (x : Int) % 4 = 3
    · exact ⟨r.wo h, K.wo h, rfl, ch_falls (s1 := .retN) d_parts.1 d_parts.2 hL hl (by omega) eh c0 hc (fun ss => ch_skip c3) (sorted_own (K.wo h)) i1 (imm_parts (r.wo h)).2⟩
    · by_cases c1 : (x : Int) % 4 = 1 ∧ 0 < nf r
      · obtain ⟨j, hj, ej⟩ : ∃ j : Nat, j < nf r ∧ (x : Int) / 4 % ((nf r : Nat) : Int) = (j : Int) := ⟨x / 4 % nf r, Nat.mod_lt _ c1.2, by rw [Int.natCast_emod, Int.natCast_ediv]; rfl⟩
        obtain ⟨q, hq, eq⟩ := falls_at K hj
        rw [← ej] at eq
        obtain ⟨hq1, hq2⟩ := prs_mem hq
        have hq1 := List.mem_range.mp hq1
        obtain ⟨k1, k2, k3, k4⟩ := K.tab.ok q.1 q.2 hq2
        obtain ⟨o, ho, hne, eo⟩ : ∃ o : Nat, o < r.many ∧ o ≠ q.1 ∧ ((q.1 : Int) + 1 + (x : Int) / 20 % ((r.many : Int) - 1)) % (r.many : Int) = (o : Int) := by
          obtain ⟨z, hz, ez⟩ : ∃ z : Nat, z < r.many - 1 ∧ (x : Int) / 20 % ((r.many : Int) - 1) = (z : Int) := by
            refine ⟨x / 20 % (r.many - 1), Nat.mod_lt _ (by omega), ?_⟩
            rw [Int.natCast_emod, Int.natCast_ediv]
            congr 1
            omega
          rw [ez]
          by_cases cz : q.1 + 1 + z < r.many
          · exact ⟨q.1 + 1 + z, cz, by omega, by rw [Int.emod_eq_of_lt (by omega) (by omega)]; omega⟩
          · refine ⟨q.1 + 1 + z - r.many, by omega, by omega, ?_⟩
            have : (q.1 : Int) + 1 + (z : Int) = ((q.1 + 1 + z - r.many : Nat) : Int) + (r.many : Int) := by omega
            rw [this, Int.add_emod_right, Int.emod_eq_of_lt (by omega) (by omega)]
        have p32 := pow5 hi
        have b1 := band1 ⟨q.2.2, by omega⟩ ⟨o, by omega⟩
        have t1 := tog1 ⟨q.2.2, by omega⟩ ⟨o, by omega⟩ ⟨q.1, by omega⟩ hne k4
        have t2 := tog2 ⟨r.many, by omega⟩ ⟨q.2.2, by omega⟩ ⟨o, by omega⟩ k3 ho
        have u2 := unbit2 ⟨q.2.2, by omega⟩ ⟨o, by omega⟩
        simp only [] at b1 t1 t2 u2
        have hs : dBin .shr (.int (q.2.2 : Nat)) (.int o) = some (.int (((q.2.2 : Nat) : Int) / 2 ^ o)) := by rw [d_shr (by omega)]; simp
        have hB : dBin .shl (.int 1) (.int o) = some (.int ((2 ^ o : Nat) : Int)) := by
          rw [d_shl (by omega) (by omega) (by decide)]; simp
        obtain ⟨m', em, tm1, tm2⟩ : ∃ m' : Nat, (m' : Int) = (if (if q.2.2.testBit o = true then (1 : Int) else 0) = 1 then ((q.2.2 : Nat) : Int) - ((2 ^ o : Nat) : Int) else ((q.2.2 : Nat) : Int) + ((2 ^ o : Nat) : Int)) ∧ m'.testBit q.1 = false ∧ m' < 2 ^ r.many := by
          refine ⟨_, ?_, t1, t2⟩
          cases cb : q.2.2.testBit o with
          | true =>
            have := (u2 cb).1
            simp only [if_true]
            omega
          | false => simp
        have K2 := with_ok2 K (h := q.1) (p := (q.2.1, m')) hq1 k1 k2 tm2 tm1
        have hsrt := sorted_with K hq1 K2
        rw [← falls_wo] at hsrt
        have lw2 : (r.wo q.1).falls.length < lim := Nat.lt_of_le_of_lt (Nat.le_trans falls_len hi) (show 5 < lim by decide)
        exact ⟨r.with q.1 (q.2.1, m'), K2, rfl, ch_falls (s1 := .retN) d_parts.1 d_parts.2 hL hl (by omega) eh c0 hc (fun ss => ch_tog d_parts.2 hlF (by omega) c1.1 eq (by omega) eo (ch_lc2 K) hs b1 hB em lw2) hsrt i1 (imm_parts (r.with q.1 (q.2.1, m'))).2⟩
      · obtain ⟨a, m, a1, a5, m1, m2, hf⟩ := e_law_fall (x := x / 20) (h := h) (n := r.many) false hlo hi hh
        have e20 : ((x / 20 : Nat) : Int) = (x : Int) / 20 := by rw [Int.natCast_ediv]; rfl
        rw [e20] at hf
        have K2 := with_ok2 K (h := h) (p := (a, m)) hh a1 a5 m1 m2
        have hsrt := sorted_with K hh K2
        rw [← falls_wo] at hsrt
        exact ⟨r.with h (a, m), K2, rfl, ch_falls (s1 := .retN) d_parts.1 d_parts.2 hL hl (by omega) eh c0 hc (fun ss => ch_new d_parts.2 hlF (by
          by_cases c2 : (x : Int) % 4 = 2
          · exact .inl c2
          · refine .inr ⟨by omega, fun z => c1 ⟨by omega, by omega⟩⟩) hf (by simp [fallD]) llim) hsrt i1 (imm_parts (r.with h (a, m))).2⟩
theorem eqB_vw {r s : Rn} (hm : r.many = s.many) : ∀ {n h : Nat}, h < r.many → eqB r s n h = true → vw r n h = vw s n h
  | 0, h, _, e => by
    have : r.num h = s.num h := of_decide_eq_true e
    show D.tup [.int h, .int (r.num h)] = D.tup [.int h, .int (s.num h)]
    rw [this]
  | n + 1, h, hh, e => by
    have e' : ((List.range r.many).all fun o => (Hp_ r (n + 1) h o == Hp_ s (n + 1) h o) && (!Hp_ r (n + 1) h o || eqB r s n o)) = true := e
    rw [List.all_eq_true] at e'
    rw [vw_succ, vw_succ, ← hm]
    congr 3
    refine congrArg D.tup (List.map_congr_left fun o ho => ?_)
    have h1 := e' o ho
    rw [Bool.and_eq_true, beq_iff_eq, Bool.or_eq_true, Bool.not_eq_true'] at h1
    unfold part
    by_cases c : o = h ∨ cm r o h (n + 1) = true
    · have c1 := Hp_iff.mpr c
      have c2 := Hp_iff.mp (h1.1 ▸ c1 : Hp_ s (n + 1) h o = true)
      rw [if_pos c, if_pos c2]
      refine eqB_vw hm (List.mem_range.mp ho) (h1.2.resolve_left (by rw [c1]; simp))
    · have c2 : ¬ (o = h ∨ cm s o h (n + 1) = true) := fun z => c (Hp_iff.mp (by rw [h1.1]; exact Hp_iff.mpr z))
      rw [if_neg c, if_neg c2]
theorem mt_cell {X Y d e : D} {k : Int} {b : Bool} (h1 : dIx X (.int k) = some d) (h2 : dIx Y (.int k) = some e) (h3 : isND true d = true → dCmp .eq d e = some b) :
    exs G_law_meet false l_law_meet_1 [some (.sh X), some (.sh Y), some (.sh (.int k))] = some (if (isND true d && b) = true then .rt (.bl true) else .nx [some (.sh X), some (.sh Y), some (.sh (.int k))]) := by
  cases c : isND true d with
  | false => simp [l_law_meet_1, h1, c]
  | true => cases b <;> simp [l_law_meet_1, h1, h2, c, h3 c]
theorem mt_top {X Y : D} {m : Int} {L : List D} {o : Out} (hl : dLen [X] = some (.int m)) (hX : rng1Of (.int m) = some L) (hw : forGo (.nm 2) (exs G_law_meet false l_law_meet_1) L [some (.sh X), some (.sh Y), none] = some o) : R_law_meet [X, Y] = some (match o with | .rt d => d | .nx _ => .bl false | .rp _ _ => .bl false | .rq _ _ => .bl false) ∨ (∃ ρ i, o = .rp ρ i) ∨ ∃ ρ d, o = .rq ρ d := by
  cases o with
  | rp ρ i => exact .inr (.inl ⟨_, _, rfl⟩)
  | rq ρ d => exact .inr (.inr ⟨_, _, rfl⟩)
  | rt d => exact .inl (by rw [r_law_meet]; simp [b_law_meet, hl, vi_rng1, hX, hw])
  | nx ρ => exact .inl (by rw [r_law_meet]; simp [b_law_meet, hl, vi_rng1, hX, hw])
end DD
set_option Elab.async false
set_option linter.all false
set_option autoImplicit false
set_option maxRecDepth 100000
set_option maxHeartbeats 400000
namespace PySem.SeqAt
open AutoSeq1 (wpAny_loadPart')
open MeetsSeq MeetsSeq2 MeetsSeq3 SeqRoads2
end PySem.SeqAt
namespace PySem.W
open PySem PySem.SeqAt PySem.Calls PyProof.Rows
end PySem.W
set_option Elab.async false
set_option linter.all false
set_option maxRecDepth 100000
set_option maxHeartbeats 4000000
namespace DD
open PySem L2 PyProof.Rows RZ
theorem PEs.one [Tb : Tbl] {X : Cx} {e : Expr} {fs : List (Rho → Option (Fl × D))} (h : PEs X [e] fs) : ∃ f, fs = [f] ∧ notStar e = true ∧ PE X e (rd X.K f) := by
  cases h with
  | cons h1 h2 h3 => cases h3; exact ⟨_, rfl, h1, h2.1⟩
theorem PEs.two [Tb : Tbl] {X : Cx} {e1 e2 : Expr} {fs : List (Rho → Option (Fl × D))} (h : PEs X [e1, e2] fs) : ∃ f g, fs = [f, g] ∧ (notStar e1 = true ∧ PE X e1 (rd X.K f)) ∧ notStar e2 = true ∧ PE X e2 (rd X.K g) := by
  cases h with
  | cons h1 h2 h3 =>
    obtain ⟨g, rfl, h4, h5⟩ := h3.one
    exact ⟨_, _, rfl, ⟨h1, h2.1⟩, h4, h5⟩
theorem seqF1 {f : Rho → Option (Fl × D)} {ρ : Rho} : seqF [f] ρ = (f ρ).map fun x => [x] := by
  simp only [seqF, Option.bind_eq_bind]
  cases f ρ <;> rfl
theorem seqF2 {f g : Rho → Option (Fl × D)} {ρ : Rho} : seqF [f, g] ρ = (f ρ).bind fun x => (g ρ).map fun y => [x, y] := by
  simp only [seqF, Option.bind_eq_bind]
  cases f ρ <;> cases g ρ <;> rfl
end DD
set_option Elab.async false
set_option linter.all false
set_option maxRecDepth 100000
set_option maxHeartbeats 400000
namespace PySem.W
open PySem PySem.SeqAt PySem.Calls PyProof.Rows
end PySem.W
namespace DD
open PySem L2 PyProof.Rows RZ
def tupD : D → Bool
  | .tup _ => true
  | _ => false
end DD
set_option Elab.async false
set_option linter.all false
set_option maxRecDepth 100000
set_option maxHeartbeats 400000
namespace DD
open PySem L2 PyProof.Rows RZ
def ltOk (d e : D) : Bool := tupD d && tupD e && (toPy d).canLay0 && (toPy e).canLay0 && PySem.W.alike (toPy d) (toPy e) && decide ((toPy d).depth ≤ 60)
def rLtP (K : PySem.W.Frag) : R2 := fun x y H Q => ∃ d e, Dp K H x d ∧ Dp K H y e ∧ PySem.W.alike d e = true ∧ d ≠ .none ∧ d.depth ≤ 60 ∧ Q (.bl (PySem.W.dataLt d e)) H
theorem op_ltP {X : Cx} (hu : X.A.units + 66 < cLine) : OpR X (compareOp .Lt) (rLtP X.K) := by
  intro pins s σ H x y v u Q I rx ry h
  obtain ⟨d, e, hd, he, ha, hn, hdp, q⟩ := h
  obtain ⟨as, r1⟩ := Dp.reads I d x v hd rx
  obtain ⟨bs, r2⟩ := Dp.reads I e y u he ry
  have R := PySem.W.rcLt_alike d e X.A s v u as bs r1 r2 ha hn (by have := Nat.min_le_left d.depth e.depth; omega)
  exact R X.prog X.w X.xe (EP X pins σ Q) ⟨.bl _, H, I, rfl, q⟩
def ltF (rs : List (Fl × D)) : Option (Fl × D) := match rs with
  | [(_, d), (_, e)] => if ltOk d e then some (.fr, .bl (PySem.W.dataLt (toPy d) (toPy e))) else none
  | _ => none
def ltM (_sc : Scope) (e : Expr) : Option (List Expr) := match e with
  | .Compare l [.Lt] [r] _ => if notStar l && notStar r && !(behindInMarks .Lt r) then some [l, r] else none
  | _ => none
theorem lt_ok [Tb : Tbl] (X : Cx) (O : OpCx X) (e : Expr) (es : List Expr) (fs : List (Rho → Option (Fl × D))) (hm : ltM X.env.scope e = some es) (hp : PEs X es fs) :
    PE X e (rd X.K fun ρ => (seqF fs ρ).bind ltF) ∧ PT X e (rdT X.K fun ρ => toB ((seqF fs ρ).bind ltF)) := by
  unfold ltM at hm
  split at hm
  case h_2 => cases hm
  rename_i l r pos
  split at hm
  case isFalse => cases hm
  rename_i hc
  simp only [Bool.and_eq_true, Bool.not_eq_true'] at hc
  obtain ⟨⟨n1, n2⟩, n3⟩ := hc
  cases hm
  obtain ⟨f, g, rfl, ⟨_, ha⟩, _, hb⟩ := hp.two
  have pc : PC X .Lt l r (rd X.K fun ρ => (seqF [f, g] ρ).bind ltF) := by
    refine ⟨fun pins s σ H Q I hh => ?_⟩
    obtain ⟨B, ρ, fl, d0, hf, S, q⟩ := hh
    dsimp only at hf
    rw [seqF2] at hf
    cases e1 : f ρ with
    | none => simp [e1] at hf
    | some x =>
    cases e2 : g ρ with
    | none => simp [e1, e2] at hf
    | some y =>
    obtain ⟨fa, da⟩ := x
    obtain ⟨fb, db⟩ := y
    simp only [e1, e2, Option.bind_some, Option.map_some, ltF] at hf
    split at hf
    case isFalse => cases hf
    rename_i hok
    cases hf
    unfold ltOk at hok
    simp only [Bool.and_eq_true, decide_eq_true_eq] at hok
    obtain ⟨⟨⟨⟨⟨h1, h2⟩, h3⟩, h4⟩, h5⟩, h6⟩ := hok
    refine bin ha hb I (two_run ha hb e1 e2 S I fun x y H2 z r1 r2 => ?_) fun v u s2 x y H2 I2 rx ry w => op_ltP O.units pins s2 σ H2 x y v u Q I2 rx ry w
    refine ⟨_, _, Rp.dp _ _ h3 r1.any, Rp.dp _ _ h4 r2.any, h5, ?_, h6, q _ H2 z (by simp only [Res, Sep, Rp])⟩
    cases da <;> simp [tupD] at h1 <;> simp [toPy]
  exact ⟨pe_cmp pc n3, pt_weak (pt_cmp pc n3)⟩
def op_lt : XOp := ⟨ltM, ltF, lt_ok⟩
end DD
set_option Elab.async false
set_option linter.all false
set_option maxRecDepth 100000
set_option maxHeartbeats 1000000
set_option Elab.async false
set_option linter.all false
set_option maxRecDepth 100000
set_option maxHeartbeats 1000000
set_option Elab.async false
set_option linter.all false
set_option maxRecDepth 100000
set_option maxHeartbeats 1000000
namespace DD
open PySem L2 PyProof.Rows RZ
theorem Res.dk [Tb : Tbl] {K : PySem.W.Frag} {B : Bs} {ρ : Rho} {σ : L2.St} {H H1 : Hp} {fl : Fl} {C q : Addr} {ks : List Key} {ds : List D} {v : V} (h : Res K B ρ σ H H1 fl (.dk C q ks ds) v) :
    ∃ p dx kvs, v = .ref p ∧ DkC K C ∧ H1 p = some (.ins C dx [("kept_runs", .ref q)]) ∧ (∃ od, H1 q = some (.frz od (.dK kvs))) ∧ kvs.map (·.1) = ks ∧ Rps K (Nsh B ρ σ) H1 ds (kvs.map (·.2)) := by
  have q := h.rp rfl
  simpa only [Rp] using q
end DD
set_option Elab.async false
set_option linter.all false
set_option maxRecDepth 100000
set_option maxHeartbeats 1000000
namespace DD
open PySem L2 PyProof.Rows RZ
section
variable [Tb : Tbl] {K : PySem.W.Frag} {B : Bs} {ρ : Rho} {σ : L2.St} {H H' : Hp} {q : Addr}
/-- the cell q may change, what stands elsewhere stays -/
structure OffQ (q : Addr) (H H' : Hp) : Prop where
  o : ∃ u, H q = some u ∧ MutO u
  e : ExtBs [q] H H'
theorem OffQ.to (h : OffQ q H H') {a : Addr} {u : HO} (ha : H a = some u) (hn : a ≠ q) (nt : ∀ ps, u ≠ .tbl ps := by intro _ z; cases z) : H' a = some u := h.e.to a u (by simpa using hn) ha nt
theorem OffQ.ne (h : OffQ q H H') {a : Addr} {u : HO} (ha : H a = some u) (hn : ¬ MutO u) : a ≠ q := by
  intro z
  obtain ⟨o, h1, h2⟩ := h.o
  rw [z, h1] at ha
  cases ha
  exact hn h2
theorem OffQ.tup (h : OffQ q H H') {a : Addr} {xs : List V} (ha : H a = some (.tup xs)) : H' a = some (.tup xs) := h.to ha (h.ne ha (fun z => z))
theorem OffQ.frz (h : OffQ q H H') {a : Addr} {od : Obj} {u : HO} (ha : H a = some (.frz od u)) : H' a = some (.frz od u) := h.to ha (h.ne ha (fun z => z))
theorem OffQ.ins (h : OffQ q H H') {a C dx : Addr} {fs : List (Str × V)} (ha : H a = some (.ins C dx fs)) : H' a = some (.ins C dx fs) := h.to ha (h.ne ha (fun z => z))
theorem OffQ.refl {o : HO} (hq : H q = some o) (hm : MutO o) : OffQ q H H := ⟨⟨o, hq, hm⟩, ⟨fun b u _ h _ => h, fun h => h, fun _ h => h⟩⟩
end
end DD
set_option Elab.async false
set_option linter.all false
set_option maxRecDepth 100000
set_option maxHeartbeats 1000000
namespace DD
open PySem L2 PyProof.Rows
mutual
/-- data as a key -/
def nkD : D → NestedKey
  | .int i => .num i
  | .str x => .text x
  | .tup ds => .tup (nkDs ds)
  | _ => .none
def nkDs : List D → List NestedKey
  | [] => []
  | d :: ds => nkD d :: nkDs ds
end
mutual
/-- data that may be a key -/
def keyB : D → Bool
  | .non => true | .int _ => true | .str _ => true
  | .tup ds => keyBs ds
  | _ => false
def keyBs : List D → Bool
  | [] => true
  | d :: ds => keyB d && keyBs ds
end
mutual
theorem nk_inj : ∀ d e : D, keyB d = true → keyB e = true → nkD d = nkD e → d = e
  | .non, e, _, h, z => by cases e <;> simp [keyB] at h <;> simp [nkD] at z <;> rfl
  | .int i, e, _, h, z => by cases e <;> simp [keyB] at h <;> simp [nkD] at z <;> rw [z]
  | .str x, e, _, h, z => by cases e <;> simp [keyB] at h <;> simp [nkD] at z <;> rw [z]
  | .tup ds, e, h0, h, z => by
    cases e <;> simp only [keyB, Bool.false_eq_true] at h <;> simp only [nkD, NestedKey.tup.injEq, reduceCtorEq] at z
    rename_i es
    simp only [keyB] at h0
    rw [nks_inj ds es h0 h z]
  | .bl _, _, h0, _, _ => by simp [keyB] at h0
  | .lst _, _, h0, _, _ => by simp [keyB] at h0
  | .fz _, _, h0, _, _ => by simp [keyB] at h0
  | .dic _ _, _, h0, _, _ => by simp [keyB] at h0
  | .dit _ _, _, h0, _, _ => by simp [keyB] at h0
  | .fd _ _, _, h0, _, _ => by simp [keyB] at h0
  | .dk _ _ _ _, _, h0, _, _ => by simp [keyB] at h0
theorem nks_inj : ∀ ds es : List D, keyBs ds = true → keyBs es = true → nkDs ds = nkDs es → ds = es
  | [], [], _, _, _ => rfl
  | [], e :: es, _, _, z => by simp [nkDs] at z
  | d :: ds, [], _, _, z => by simp [nkDs] at z
  | d :: ds, e :: es, h0, h, z => by
    simp only [keyBs, Bool.and_eq_true] at h0 h
    simp only [nkDs, List.cons.injEq] at z
    rw [nk_inj d e h0.1 h.1 z.1, nks_inj ds es h0.2 h.2 z.2]
end
section
variable {X : Cx} {pins : List (Addr × Obj)} {σ : L2.St} {H : Hp} {s : Shared} {N : Addr → Prop}
mutual
theorem nest_of (I : Inv X pins σ H s) : ∀ (d : D) (v : V) (u : Value), keyB d = true → Rp X.K N H d v → RelV v u → NestedIs s.heap (nkD d) u
  | .non, v, u, _, r, ru => by
    simp only [Rp] at r
    subst r
    cases ru
    exact .none
  | .int i, v, u, _, r, ru => by
    simp only [Rp] at r
    subst r
    obtain ⟨t, rfl⟩ := ru
    exact .int _ _
  | .str x, v, u, _, r, ru => by
    simp only [Rp] at r
    subst r
    obtain ⟨t, rfl⟩ := ru
    exact .text _ _
  | .tup ds, v, u, h, r, ru => by
    simp only [Rp] at r
    obtain ⟨a, vs, rfl, hs, hr⟩ := r
    cases ru
    obtain ⟨its, r1, ⟨o, h1, h2, n, h3⟩, _⟩ := I.tuple hs
    simp only [keyB] at h
    simp only [nkD]
    exact .tup h1 h2 h3 (nests_of I ds vs its h hr r1)
  | .bl _, _, _, h0, _, _ => by simp [keyB] at h0
  | .lst _, _, _, h0, _, _ => by simp [keyB] at h0
  | .fz _, _, _, h0, _, _ => by simp [keyB] at h0
  | .dic _ _, _, _, h0, _, _ => by simp [keyB] at h0
  | .dit _ _, _, _, h0, _, _ => by simp [keyB] at h0
  | .fd _ _, _, _, h0, _, _ => by simp [keyB] at h0
  | .dk _ _ _ _, _, _, h0, _, _ => by simp [keyB] at h0
theorem nests_of (I : Inv X pins σ H s) : ∀ (ds : List D) (vs : List V) (us : List Value), keyBs ds = true → Rps X.K N H ds vs → Vals vs us → NestedAll s.heap (nkDs ds) us
  | [], vs, us, _, r, ru => by
    simp only [Rps] at r
    subst r
    cases ru
    exact .nil
  | d :: ds, vs, us, h, r, ru => by
    simp only [Rps] at r
    obtain ⟨v, ws, rfl, r1, r2⟩ := r
    cases ru with
    | cons q1 q2 =>
      simp only [keyBs, Bool.and_eq_true] at h
      exact .cons (nest_of I d v _ h.1 r1 q1) (nests_of I ds ws _ h.2 r2 q2)
end
end
/-- a key datum: a tuple, not too deep -/
structure KyOk (d : D) : Prop where
  k : keyB d = true
  d8 : (nkD d).depth ≤ 8
/-- what is true of such a dict's object -/
def NdAt (P : Program) (w : World) (a : Addr) (xs : List (NestedKey × Addr × V)) (h : Heap) : Prop :=
  xs.length ≤ sizeLine ∧ (a == sysModules) = false ∧ ∃ ys : List (NestedKey × Addr × Value), Paired (fun (p : NestedKey × Addr × V) (q : NestedKey × Addr × Value) => p.1 = q.1 ∧ p.2.1 = q.2.1 ∧ RelV p.2.2 q.2.2) xs ys ∧
    ∃ o es ep, h.get? a = some o ∧ o.ExactDict ∧ o.data = .dict es ep ∧ es.toList = ys.map (entryOfKey (nestedKind P w)) ∧ (ys.map (·.1)).Nodup
def ndO (P : Program) (w : World) (a : Addr) (xs : List (NestedKey × Addr × V)) : HO := .ext (NdAt P w a xs)
theorem nd_ok {P : Program} {w : World} {a : Addr} {xs : List (NestedKey × Addr × V)} {H : Hp} {h : Heap} (x : NdAt P w a xs h) : ObjOk P w H h a (ndO P w a xs) := by
  obtain ⟨_, _, _, _, o, _, _, e, _⟩ := id x
  exact ⟨x, ⟨o, e⟩, fun h1 h2 ⟨y1, y2, ys, y3, o, es, ep, z1, z2⟩ hk => ⟨y1, y2, ys, y3, o, es, ep, hk o z1, z2⟩⟩
/-- the dict at a: its keys' data, its values -/
def ND (P : Program) (w : World) (K : PySem.W.Frag) (H : Hp) (a : Addr) (tab : List (D × V)) : Prop :=
  ∃ xs : List (NestedKey × Addr × V), H a = some (ndO P w a xs) ∧ Paired (fun (p : D × V) (x : NestedKey × Addr × V) => x.1 = nkD p.1 ∧ x.2.2 = p.2 ∧ KyOk p.1 ∧ Rp K (fun _ => False) H p.1 (.ref x.2.1)) tab xs
section
variable {X : Cx} {pins : List (Addr × Obj)} {σ : L2.St} {H : Hp} {s : Shared} {a : Addr} {tab : List (D × V)} {N : Addr → Prop}
/-- the dict, as the kit's rules of keyed dicts want it -/
theorem nd_at (I : Inv X pins σ H s) (n : ND X.prog X.w X.K H a tab) : tab.length ≤ sizeLine ∧ (a == sysModules) = false ∧ ∃ (ys : List (NestedKey × Addr × Value)) (xs : List (NestedKey × Addr × V)), s.heap.DictOfH (nestedKind X.prog X.w) a ys ∧
    Paired (fun (p : D × V) (y : NestedKey × Addr × Value) => y.1 = nkD p.1 ∧ RelV p.2 y.2.2 ∧ KyOk p.1 ∧ Rp X.K (fun _ => False) H p.1 (.ref y.2.1)) tab ys ∧ H a = some (ndO X.prog X.w a xs) ∧
    Paired (fun (p : D × V) (x : NestedKey × Addr × V) => x.1 = nkD p.1 ∧ x.2.2 = p.2 ∧ KyOk p.1 ∧ Rp X.K (fun _ => False) H p.1 (.ref x.2.1)) tab xs ∧ Paired (fun (p : NestedKey × Addr × V) (q : NestedKey × Addr × Value) => p.1 = q.1 ∧ p.2.1 = q.2.1 ∧ RelV p.2.2 q.2.2) xs ys := by
  obtain ⟨xs, hx, hp⟩ := n
  obtain ⟨⟨h1, h2, ys, h3, o, es, ep, h4, h5, h6, h7, h8⟩, _, _⟩ := (show ObjOk X.prog X.w H s.heap a (ndO X.prog X.w a xs) from I.hok a _ hx)
  have both : ∀ {tab : List (D × V)} {xs : List (NestedKey × Addr × V)} {ys : List (NestedKey × Addr × Value)}, Paired (fun (p : D × V) (x : NestedKey × Addr × V) => x.1 = nkD p.1 ∧ x.2.2 = p.2 ∧ KyOk p.1 ∧ Rp X.K (fun _ => False) H p.1 (.ref x.2.1)) tab xs → Paired (fun (p : NestedKey × Addr × V) (q : NestedKey × Addr × Value) => p.1 = q.1 ∧ p.2.1 = q.2.1 ∧ RelV p.2.2 q.2.2) xs ys →
      Paired (fun (p : D × V) (y : NestedKey × Addr × Value) => y.1 = nkD p.1 ∧ RelV p.2 y.2.2 ∧ KyOk p.1 ∧ Rp X.K (fun _ => False) H p.1 (.ref y.2.1)) tab ys := by
    intro tab xs ys q r
    induction q generalizing ys with
    | nil => cases r; exact .nil
    | cons q1 q2 ih =>
      cases r with
      | cons r1 r2 =>
        obtain ⟨a1, a2, a3, a4⟩ := q1
        obtain ⟨b1, b2, b3⟩ := r1
        exact .cons ⟨b1.symm.trans a1, by rw [← a2]; exact b3, a3, by rw [← b2]; exact a4⟩ (ih r2)
  have hb := both hp h3
  have keys : ∀ {tab : List (D × V)} {ys : List (NestedKey × Addr × Value)}, Paired (fun (p : D × V) (y : NestedKey × Addr × Value) => y.1 = nkD p.1 ∧ RelV p.2 y.2.2 ∧ KyOk p.1 ∧ Rp X.K (fun _ => False) H p.1 (.ref y.2.1)) tab ys → ∀ y ∈ ys, (nestedKind X.prog X.w).is s.heap y.1 y.2.1 := by
    intro tab ys q
    induction q with
    | nil => intro y hy; cases hy
    | cons q1 q2 ih =>
      intro y hy
      rcases List.mem_cons.mp hy with e | hy
      · subst e
        obtain ⟨a1, _, a3, a4⟩ := q1
        refine ⟨?_, by rw [a1]; exact a3.d8⟩
        rw [a1]
        exact nest_of I _ _ _ a3.k a4 rfl
      · exact ih y hy
  exact ⟨by rw [Paired.length hp]; exact h1, h2, ys, xs, ⟨o, es, ep, h4, h5, h6, h7, keys hb, h8⟩, hb, hx, hp, h3⟩
/-- the value at a key -/
def tabAt (tab : List (D × V)) (k : NestedKey) : Option V := (tab.find? fun p => decide (nkD p.1 = k)).map (·.2)
theorem tabAt_rel {R : D → Addr → Prop} {k : NestedKey} : ∀ {tab : List (D × V)} {ys : List (NestedKey × Addr × Value)}, Paired (fun (p : D × V) (y : NestedKey × Addr × Value) => y.1 = nkD p.1 ∧ RelV p.2 y.2.2 ∧ KyOk p.1 ∧ R p.1 y.2.1) tab ys →
    (tabAt tab k = none → atKey ys k = none) ∧ ∀ v, tabAt tab k = some v → ∃ q, atKey ys k = some q ∧ RelV v q.2
  | _, _, .nil => ⟨fun _ => rfl, fun v h => by cases h⟩
  | p :: tab, y :: ys, .cons r q => by
    obtain ⟨i1, i2⟩ := tabAt_rel (k := k) q
    obtain ⟨r1, r2, _⟩ := r
    unfold tabAt atKey at *
    simp only [List.find?_cons]
    rw [r1]
    by_cases c : nkD p.1 = k
    · rw [decide_eq_true c]
      refine ⟨fun h => ?_, fun v h => ?_⟩
      · cases h
      · cases h; exact ⟨_, rfl, r2⟩
    · rw [decide_eq_false c]
      exact ⟨i1, i2⟩
theorem nd_room (hu : X.A.units + 66 < cLine) : (nestedKind X.prog X.w).room X.A.in1 := by
  show X.A.in1.units + 8 < cLine
  have : X.A.in1.units = X.A.units + 1 := rfl
  omega
variable {d : D} {b : Addr} {A : Around} {E : Value → Shared → Prop}
theorem n_notIn {Q : Value → Shared → Prop} (hu : X.A.units + 66 < cLine) (I : Inv X pins σ H s) (n : ND X.prog X.w X.K H a tab) (k : KyOk d) (r : Rp X.K N H d (.ref b)) (h : ∀ s', Inv X pins σ H s' → Q (.bool (!(tabAt tab (nkD d)).isSome)) s') :
    wpAny (model X.prog X.w) X.A (compareOp .NotIn (.ref b) (.ref a)) Q E s := by
  obtain ⟨_, h2, ys, _, hd, hp, _⟩ := nd_at I n
  obtain ⟨i1, i2⟩ := tabAt_rel (R := fun d b => Rp X.K (fun _ => False) H d (.ref b)) (k := nkD d) hp
  refine wpAny_notIn_heap (nd_room hu) ⟨nest_of I d _ _ k.k r rfl, k.d8⟩ h2 hd ?_
  have e : (atKey ys (nkD d)).isSome = (tabAt tab (nkD d)).isSome := by
    cases e : tabAt tab (nkD d) with
    | none => rw [i1 e]; rfl
    | some v => obtain ⟨q, e2, _⟩ := i2 v e; rw [e2]; rfl
  rw [e]
  exact h _ (I.tok _)
theorem n_get {v : V} {Q : Value → Shared → Prop} (hu : X.A.units + 66 < cLine) (I : Inv X pins σ H s) (n : ND X.prog X.w X.K H a tab) (k : KyOk d) (r : Rp X.K N H d (.ref b)) (hv : tabAt tab (nkD d) = some v) (h : ∀ u s', Inv X pins σ H s' → RelV v u → Q u s') :
    wpAny (model X.prog X.w) X.A (getItem (.ref a) (.ref b)) Q E s := by
  obtain ⟨_, h2, ys, _, hd, hp, _⟩ := nd_at I n
  obtain ⟨i1, i2⟩ := tabAt_rel (R := fun d b => Rp X.K (fun _ => False) H d (.ref b)) (k := nkD d) hp
  obtain ⟨q, e2, e3⟩ := i2 v hv
  exact wpAny_getItem_heap (nd_room hu) ⟨nest_of I d _ _ k.k r rfl, k.d8⟩ hd e2 (h _ _ (I.tok _) e3)
/-- data that cannot change stay beside such a dict -/
theorem rp_nd {K : PySem.W.Frag} {φ : Heap → Prop} {o : HO} {d : D} {v : V} (hx : H a = some (.ext φ)) (r : Rp K (fun _ => False) H d v) : Rp K (fun _ => False) (upd H a o) d v := by
  have ne : ∀ {c : Addr} {u : HO}, H c = some u → (∀ ψ, u ≠ .ext ψ) → c ≠ a := fun {c u} h hn z => by rw [z, hx] at h; cases h; exact hn _ rfl
  refine Rp.keep (fun c xs z => ?_) (fun c xs z => ?_) (fun c od u z => ?_) (fun c C dx fs z => ?_) (fun c u _ n _ => n.elim) d v r
  · rcases z with (z | ⟨ob, z⟩) | z
    · exact .inl (.inl (by rw [upd_ne (ne z (fun _ y => by cases y))]; exact z))
    · exact .inl (.inr ⟨ob, by rw [upd_ne (ne z (fun _ y => by cases y))]; exact z⟩)
    · exact .inr z
  · rcases z with ⟨ob, z⟩ | z
    · exact .inl ⟨ob, by rw [upd_ne (ne z (fun _ y => by cases y))]; exact z⟩
    · exact .inr z
  · rw [upd_ne (ne z (fun _ y => by cases y))]; exact z
  · rw [upd_ne (ne z (fun _ y => by cases y))]; exact z
/-- a new key -/
theorem n_set {v : V} {r : Value} {Q : Unit → Shared → Prop} (hu : X.A.units + 66 < cLine) (I : Inv X pins σ H s) (n : ND X.prog X.w X.K H a tab) (k : KyOk d) (rk : Rp X.K (fun _ => False) H d (.ref b)) (hn : tabAt tab (nkD d) = none) (rv : RelV v r) (hl : tab.length < sizeLine)
    (h : ∀ (o : HO) (s' : Shared), (∃ φ, o = .ext φ) → Inv X pins σ (upd H a o) s' → ND X.prog X.w X.K (upd H a o) a (tab ++ [(d, v)]) → (∀ q, H a ≠ some (LamX.CodeO a q)) → Q () s') : wpAny (model X.prog X.w) X.A (setItem (.ref a) (.ref b) r) Q E s := by
  obtain ⟨h1, h2, ys, xs, hd, hp, hx, hpx, hxy⟩ := nd_at I n
  obtain ⟨i1, _⟩ := tabAt_rel (R := fun d b => Rp X.K (fun _ => False) H d (.ref b)) (k := nkD d) hp
  have hz : ys.length ≤ sizeLine := by rw [← Paired.length hp]; omega
  refine wpAny_setItem_heap (hsz := hz) (nd_room hu) ⟨nest_of I d _ _ k.k rk rfl, k.d8⟩ hd fun h' dd' hs => ?_
  rw [storedH_new (i1 hn)] at dd'
  obtain ⟨o, es, ep, z1, z2, z3, z4, _, z6⟩ := dd'
  have at_ : NdAt X.prog X.w a (xs ++ [(nkD d, b, v)]) h' := ⟨by rw [List.length_append, ← Paired.length hpx]; simp; omega, h2, ys ++ [(nkD d, b, r)], Paired.snoc hxy ⟨rfl, rfl, rv⟩, o, es, ep, z1, z2, z3, z4, z6⟩
  refine h (ndO X.prog X.w a (xs ++ [(nkD d, b, v)])) _ ⟨_, rfl⟩ (d_write I (by rw [hx]; exact True.intro) hs ⟨o, z1⟩ (nd_ok at_)) ⟨_, upd_same, ?_⟩ ?_
  · exact Paired.snoc (Paired.mapP hpx fun p x ⟨q1, q2, q3, q4⟩ => ⟨q1, q2, q3, rp_nd hx q4⟩) ⟨rfl, rfl, k, rp_nd hx rk⟩
  · intro q hq
    obtain ⟨_, _, ys', _, o', es', ep', g1, _, g3, _⟩ := (show ObjOk X.prog X.w H s.heap a (ndO X.prog X.w a xs) from I.hok a _ hx).1
    obtain ⟨oc, vs', t', g4, g5, _⟩ := (show ObjOk X.prog X.w H s.heap a (LamX.CodeO a q) from I.hok a _ hq).1
    rw [g1] at g4
    cases g4
    rw [g3] at g5
    cases g5
/-- the tables beside such a dict -/
theorem tbl_nd {o' : HO} {H : Hp} {p : Addr} {φ : Heap → Prop} (hp : H p = some (.ext φ)) (n2 : ∀ q, H p ≠ some (LamX.CodeO p q)) {P : Addr} {q : Str} (h : LamX.TabS H P q) : LamX.TabS (upd H p o') P q := by
  obtain ⟨ps, h1, h2, h3⟩ := h
  refine ⟨ps, ?_, h2, fun pos cv e => ?_⟩
  · rw [upd_ne (fun z => by rw [z, hp] at h1; cases h1)]; exact h1
  · obtain ⟨c, e1, e2⟩ := h3 pos cv e
    exact ⟨c, e1, by rw [upd_ne (fun z => by rw [z] at e2; exact n2 _ e2)]; exact e2⟩
theorem ND.ext [Tb : Tbl] {P : Program} {w : World} {K : PySem.W.Frag} {H' : Hp} (n : ND P w K H a tab) (e : Ext H H') : ND P w K H' a tab := by
  obtain ⟨xs, hx, hp⟩ := n
  exact ⟨xs, e.to a _ hx (fun _ z => by cases z), Paired.mapP hp fun p x ⟨q1, q2, q3, q4⟩ => ⟨q1, q2, q3, q4.ext e⟩⟩
theorem ND.at [Tb : Tbl] {P : Program} {w : World} {K : PySem.W.Frag} (n : ND P w K H a tab) : ∃ φ, H a = some (.ext φ) := let ⟨_, h, _⟩ := n; ⟨_, h⟩
/-- a list beside it is written -/
theorem ND.mut {P : Program} {w : World} {K : PySem.W.Frag} {p : Addr} {o o' : HO} (n : ND P w K H a tab) (hp : H p = some o) (hm : MutO o) : ND P w K (upd H p o') a tab := by
  obtain ⟨xs, hx, hq⟩ := n
  have ne : a ≠ p := fun z => by rw [z, hp] at hx; cases hx; exact hm
  exact ⟨xs, by rw [upd_ne ne]; exact hx, Paired.mapP hq fun q x ⟨q1, q2, q3, q4⟩ => ⟨q1, q2, q3, Rp.mut hp hm (fun _ _ _ z => z.elim) q4⟩⟩
end
section
variable {X : Cx} {e i o value : Expr} {pos pos' : Pos} {td ty tv : TE}
/-- {} that will be such a dict -/
def tNNew (P : Program) (w : World) : TE := fun _ H Q => ∀ p, H p = none → Q (.ref p) (upd H p (ndO P w p []))
theorem pe_nnew : PE X (.Dict [] [] pos) (tNNew X.prog X.w) := by
  refine ⟨fun pins s σ H Q I h => thn (pe_dnewK.run pins s σ H (fun v H' => ∃ p, v = .ref p ∧ H p = none ∧ H' = upd H p (.dK [])) I fun p hp => ⟨p, rfl, hp, rfl⟩) fun u s' ⟨x, H1, I1, ru, p, ex, hp, eH⟩ => ?_⟩
  subst ex eH
  obtain ⟨z1, z2, vs, kv, o, es, ep, y1, y2, y3, y4, y5, y6⟩ := dk_of I1.hok upd_same
  cases kv
  have he : es.toList = [] := by
    generalize es.toList = l at y5
    cases y5; rfl
  have at_ : NdAt X.prog X.w p [] s'.heap := ⟨Nat.zero_le _, z2, [], .nil, o, es, ep, y1, y2, y3, by rw [he]; rfl, List.nodup_nil⟩
  have J := I1.write (x := p) (e := p) (h' := s'.heap) (t' := s'.toks) (o := ndO X.prog X.w p []) (by rw [upd_same]; exact True.intro) (.inl rfl) (fun b u _ q => q) ⟨o, y1⟩ (nd_ok at_)
  rw [upd_upd] at J
  exact ⟨.ref p, _, J, ru, h p hp⟩
/-- y not in d -/
theorem pc_nnotin (hu : X.A.units + 66 < cLine) (hi : PE X i ty) (ho : PE X o td) : PC X .NotIn i o (fun σ H Q => ty σ H fun y H1 => td σ H1 fun x H2 => ∃ a b d tab, x = .ref a ∧ y = .ref b ∧ ND X.prog X.w X.K H2 a tab ∧ KyOk d ∧ Rp X.K (fun _ => True) H2 d (.ref b) ∧ Q (.bl (!(tabAt tab (nkD d)).isSome)) H2) := by
  refine ⟨fun pins s σ H Q I h => ?_⟩
  refine thn (hi.run pins s σ H _ I h) fun iv s1 ⟨y, H1, I1, ry, q1⟩ => thn (ho.run pins s1 σ H1 _ I1 q1) fun u s2 ⟨x, H2, I2, rx, a, b, d, tab, ex, ey, n, k, r, q2⟩ => ?_
  subst ex ey
  cases rx
  cases ry
  exact n_notIn hu I2 n k r fun s3 I3 => ⟨.bl (!(tabAt tab (nkD d)).isSome), H2, I3, rfl, q2⟩
/-- d[y] -/
theorem pe_nget (hu : X.A.units + 66 < cLine) (ho : PE X o td) (hi : PE X i ty) (hs : NoSl i) : PE X (.Subscript o i pos) (fun σ H Q => td σ H fun x H1 => ty σ H1 fun y H2 => ∃ a b d tab v, x = .ref a ∧ y = .ref b ∧ ND X.prog X.w X.K H2 a tab ∧ KyOk d ∧ Rp X.K (fun _ => True) H2 d (.ref b) ∧ tabAt tab (nkD d) = some v ∧ Q v H2) := by
  refine ⟨fun pins s σ H Q I h => ?_⟩
  refine subD_of PySem.F.slot_dict_getitem.lookup hs (thn (ho.run pins s σ H _ I h) fun u s1 ⟨x, H1, I1, rx, q1⟩ => thn (hi.run pins s1 σ H1 _ I1 q1) fun iv s2 ⟨y, H2, I2, ry, a, b, d, tab, v, ex, ey, n, k, r, hv, q2⟩ => ?_)
  subst ex ey
  cases rx
  cases ry
  obtain ⟨_, _, ys, _, hd, _⟩ := nd_at I2 n
  exact ⟨hd.typeIs, n_get hu I2 n k r hv fun w' s3 I3 rw' => ⟨v, H2, I3, rw', q2⟩⟩
/-- d[y] = v, y is not there -/
theorem ps_nput (hu : X.A.units + 66 < cLine) (ho : PE X o td) (hi : PE X i ty) (hv : PE X value tv) (hs : swapsWith value (some (.Subscript o i pos')) pos.line X.env = pure false) :
    PS X (.Assign [.Subscript o i pos'] value pos) (fun D0 σ H => tv σ H fun v H1 => td σ H1 fun x H2 => ty σ H2 fun y H3 => ∃ a b d tab, x = .ref a ∧ y = .ref b ∧ ND X.prog X.w X.K H3 a tab ∧ KyOk d ∧ Rp X.K (fun _ => False) H3 d (.ref b) ∧ tabAt tab (nkD d) = none ∧ tab.length < sizeLine ∧
      ∀ ob, (∃ φ, ob = .ext φ) → ND X.prog X.w X.K (upd H3 a ob) a (tab ++ [(d, v)]) → (∀ q, H3 a ≠ some (LamX.CodeO a q)) → D0.nx σ (upd H3 a ob)) := by
  refine ⟨fun pins s σ H D0 I h => ?_⟩
  refine wpAny_Assign_Subscript (thn (hv.run pins s σ H _ I h) fun r s1 ⟨v, H1, I1, rv, q1⟩ => thn (ho.run pins s1 σ H1 _ I1 q1) fun u s2 ⟨x, H2, I2, rx, q2⟩ => thn (hi.run pins s2 σ H2 _ I2 q2) fun iv s3 ⟨y, H3, I3, ry, a, b, d, tab, ex, ey, n, k, r, hn, hl, q3⟩ => ?_) hs
  subst ex ey
  cases rx
  cases ry
  exact n_set hu I3 n k r hn rv hl fun ob s4 hob I4 n4 n5 => ⟨σ, _, I4, q3 ob hob n4 n5⟩
end
end DD
set_option Elab.async false
set_option linter.all false
set_option maxRecDepth 100000
set_option maxHeartbeats 1000000
namespace DD
open PySem L2 PyProof.Rows RZ
section
variable [Tb : Tbl] {P : Program} {w : World} {K : PySem.W.Frag} {mg : Str → Option Value} {base : Heap}
theorem ExtBs.trans {as : List Addr} {H H1 H2 : Hp} (a : ExtBs as H H1) (b : ExtBs as H1 H2) : ExtBs as H H2 := ⟨fun x o hx h nt => b.to x o hx (a.to x o hx h nt) nt, fun h => b.tab (a.tab h), fun x h => a.dom x (b.dom x h)⟩
def StS (K : PySem.W.Frag) (S : Addr → Prop) (H : Hp) : List (Option D) → List V → Prop
  | [], _ => True
  | none :: ds, vs => StS K S H ds vs.tail
  | some d :: ds, vs => ∃ v ws, vs = v :: ws ∧ Rp K S H d v ∧ StS K S H ds ws
theorem StS.get {S : Addr → Prop} {H : Hp} : ∀ {ds : List (Option D)} {vs : List V}, StS K S H ds vs → ∀ (i : Nat) (d : D), ds[i]? = some (some d) → ∃ v, vs[i]? = some v ∧ Rp K S H d v
  | none :: ds, vs, h, 0, d, e => by cases e
  | none :: ds, vs, h, i + 1, d, e => by
    obtain ⟨v, h1, h2⟩ := StS.get (ds := ds) (vs := vs.tail) h i d (by simpa using e)
    exact ⟨v, by simpa using h1, h2⟩
  | some d' :: ds, vs, h, 0, d, e => by
    obtain ⟨v, ws, rfl, h1, _⟩ := h
    cases e
    exact ⟨v, rfl, h1⟩
  | some d' :: ds, vs, h, i + 1, d, e => by
    obtain ⟨v, ws, rfl, _, h2⟩ := h
    obtain ⟨v', g1, g2⟩ := StS.get (ds := ds) h2 i d (by simpa using e)
    exact ⟨v', by simpa using g1, g2⟩
end
end DD
set_option Elab.async false
set_option linter.all false
set_option maxRecDepth 100000
set_option maxHeartbeats 1000000
namespace DD
open PySem L2 PyProof.Rows RZ
abbrev Tab := List (D × List Nat)
def hasV (tab : Tab) (d : D) : Bool := tab.any fun p => decide (nkD p.1 = nkD d)
def addK (tab : Tab) (d : D) : Tab := if hasV tab d then tab else tab ++ [(d, [])]
def appK (tab : Tab) (d : D) (p : Nat) : Tab := tab.map fun q => if nkD q.1 = nkD d then (q.1, q.2 ++ [p]) else q
def hd1 (p : Nat) (tab : Tab) (d : D) : Tab := appK (addK tab d) d p
def hdRow (tab : Tab) (p : Nat) (ds : List D) : Tab := ds.foldl (hd1 p) tab
def hdUp (vss : List (List D)) : Nat → Tab
  | 0 => []
  | i + 1 => hdRow (hdUp vss i) i (vss.getD i [])
section
variable [Tb : Tbl] {P : Program} {w : World} {K : PySem.W.Frag} {H0 H H' : Hp} {ha : Addr} {tab : Tab} {ls : List Addr}
def valsV (tab : Tab) (ls : List Addr) : List (D × V) := List.zipWith (fun p l => (p.1, V.ref l)) tab ls
structure HdAt (P : Program) (w : World) (K : PySem.W.Frag) (H0 H : Hp) (ha : Addr) (tab : Tab) (ls : List Addr) : Prop where
  new : H0 ha = none
  nd : ND P w K H ha (valsV tab ls)
  len : tab.length = ls.length
  ln : ls.Nodup
  lnew : ∀ l ∈ ls, H0 l = none
  cell : ∀ (j : Nat) (p : D × List Nat) (l : Addr), tab[j]? = some p → ls[j]? = some l → H l = some (.lst (p.2.map fun (n : Nat) => V.int n))
  keys : (tab.map fun p => nkD p.1).Nodup
theorem HdAt.ext (h : HdAt P w K H0 H ha tab ls) (e : Ext H H') : HdAt P w K H0 H' ha tab ls := ⟨h.new, h.nd.ext e, h.len, h.ln, h.lnew, fun j p l a b => e.lst (h.cell j p l a b), h.keys⟩
theorem valsV_at {tab : Tab} {ls : List Addr} (hl : tab.length = ls.length) {k : NestedKey} (hn : (tab.map fun p => nkD p.1).Nodup) {j : Nat} {p : D × List Nat} {l : Addr} (h1 : tab[j]? = some p) (h2 : ls[j]? = some l) (hk : nkD p.1 = k) : tabAt (valsV tab ls) k = some (.ref l) := by
  induction tab generalizing ls j with
  | nil => cases h1
  | cons q tab ih =>
    cases ls with
    | nil => cases h2
    | cons l0 ls =>
      unfold tabAt valsV at *
      simp only [List.zipWith_cons_cons, List.find?_cons]
      cases j with
      | zero =>
        cases h1; cases h2
        rw [decide_eq_true hk]; rfl
      | succ j =>
        simp only [List.getElem?_cons_succ] at h1 h2
        simp only [List.map_cons, List.nodup_cons] at hn
        have : nkD q.1 ≠ k := fun z => hn.1 (by rw [z, ← hk]; exact List.mem_map_of_mem (f := fun p : D × List Nat => nkD p.1) (List.mem_of_getElem? h1))
        rw [decide_eq_false this]
        exact ih (by simpa using hl) hn.2 h1 h2
theorem valsV_none {tab : Tab} {ls : List Addr} (hl : tab.length = ls.length) {d : D} : (tabAt (valsV tab ls) (nkD d)).isSome = hasV tab d := by
  induction tab generalizing ls with
  | nil => rfl
  | cons q tab ih =>
    cases ls with
    | nil => simp at hl
    | cons l0 ls =>
      have ih := ih (ls := ls) (by simpa using hl)
      unfold tabAt valsV hasV at *
      simp only [List.zipWith_cons_cons, List.find?_cons, List.any_cons]
      by_cases c : nkD q.1 = nkD d
      · rw [decide_eq_true c]; rfl
      · rw [decide_eq_false c, Bool.false_or]; exact ih
theorem hasV_at {tab : Tab} {d : D} (h : hasV tab d = true) : ∃ (j : Nat) (p : D × List Nat), tab[j]? = some p ∧ nkD p.1 = nkD d := by
  unfold hasV at h
  rw [List.any_eq_true] at h
  obtain ⟨p, hp, hd⟩ := h
  obtain ⟨j, hj⟩ := List.getElem?_of_mem hp
  exact ⟨j, p, hj, of_decide_eq_true hd⟩
theorem valsV_snoc {tab : Tab} {ls : List Addr} (hl : tab.length = ls.length) (p : D × List Nat) (l : Addr) : valsV (tab ++ [p]) (ls ++ [l]) = valsV tab ls ++ [(p.1, .ref l)] := by
  unfold valsV
  rw [List.zipWith_append hl]
  rfl
theorem valsV_app {tab : Tab} {ls : List Addr} {d : D} {p : Nat} : valsV (appK tab d p) ls = valsV tab ls := by
  unfold valsV appK
  rw [List.zipWith_map_left]
  congr 1
  funext q l
  split <;> rfl
/-- a new view, its list empty -/
theorem HdAt.add {d : D} {l : Addr} {ob : HO} (h : HdAt P w K H0 H ha tab ls) (hn : hasV tab d = false) (hl : H l = some (.lst [])) (hl0 : H0 l = none) (hln : l ∉ ls) (ho : ∃ φ, ob = .ext φ) (n : ND P w K (upd H ha ob) ha (valsV tab ls ++ [(d, .ref l)])) :
    HdAt P w K H0 (upd H ha ob) ha (tab ++ [(d, [])]) (ls ++ [l]) := by
  obtain ⟨φ0, hx⟩ := h.nd.at
  have ne : ∀ {c : Addr} {xs : List V}, H c = some (.lst xs) → c ≠ ha := fun {c xs} e z => by rw [z, hx] at e; cases e
  refine ⟨h.new, by rw [valsV_snoc h.len]; exact n, by simp [h.len], List.nodup_append.mpr ⟨h.ln, by simp, fun x hx y hy => by simp at hy; subst hy; exact fun z => hln (z ▸ hx)⟩, fun c hc => ?_, fun j p c hj hc => ?_, ?_⟩
  · rcases List.mem_append.mp hc with hc | hc
    · exact h.lnew c hc
    · simp at hc; subst hc; exact hl0
  · by_cases c1 : j < tab.length
    · rw [List.getElem?_append_left c1] at hj
      rw [List.getElem?_append_left (by rw [← h.len]; exact c1)] at hc
      have := h.cell j p c hj hc
      rw [upd_ne (ne this)]; exact this
    · rw [List.getElem?_append_right (by omega)] at hj
      rw [List.getElem?_append_right (by rw [← h.len]; omega), ← h.len] at hc
      cases e : j - tab.length with
      | zero =>
        rw [e] at hj hc
        cases hj; cases hc
        rw [upd_ne (ne hl)]; exact hl
      | succ k => rw [e] at hj; cases hj
  · rw [List.map_append, List.nodup_append]
    refine ⟨h.keys, by simp, fun x hx y hy => ?_⟩
    simp at hy
    subst hy
    intro z
    subst z
    obtain ⟨p, hp, e⟩ := List.mem_map.mp hx
    have : hasV tab d = true := by
      unfold hasV
      rw [List.any_eq_true]
      exact ⟨p, hp, decide_eq_true e⟩
    rw [hn] at this; cases this
/-- a place more in a view's list -/
theorem HdAt.app {d : D} {p0 : Nat} {j : Nat} {q : D × List Nat} {l : Addr} (h : HdAt P w K H0 H ha tab ls) (hj : tab[j]? = some q) (hl : ls[j]? = some l) (hk : nkD q.1 = nkD d) :
    HdAt P w K H0 (upd H l (.lst (q.2.map (fun (n : Nat) => V.int n) ++ [.int p0]))) ha (appK tab d p0) ls := by
  have hc := h.cell j q l hj hl
  refine ⟨h.new, by rw [valsV_app]; exact h.nd.mut hc trivial, by unfold appK; rw [List.length_map]; exact h.len, h.ln, h.lnew, fun i p c hi hci => ?_, ?_⟩
  · unfold appK at hi
    rw [List.getElem?_map] at hi
    cases e : tab[i]? with
    | none => rw [e] at hi; cases hi
    | some q' =>
      rw [e, Option.map_some, Option.some.injEq] at hi
      by_cases c1 : i = j
      · subst c1
        rw [hj] at e; cases e
        rw [hl] at hci; cases hci
        rw [if_pos hk] at hi
        subst hi
        rw [upd_same, List.map_append]; rfl
      · have nk : nkD q'.1 ≠ nkD d := fun z => by
          have kn := h.keys
          have hi' : i < (tab.map fun p => nkD p.1).length := by rw [List.length_map]; exact (List.getElem?_eq_some_iff.mp e).1
          have hj' : j < (tab.map fun p => nkD p.1).length := by rw [List.length_map]; exact (List.getElem?_eq_some_iff.mp hj).1
          refine c1 ((List.getElem_inj kn (h₀ := hi') (h₁ := hj')).mp ?_)
          rw [List.getElem_map, List.getElem_map, (List.getElem?_eq_some_iff.mp e).2, (List.getElem?_eq_some_iff.mp hj).2, z, hk]
        rw [if_neg nk] at hi
        subst hi
        have cne : c ≠ l := fun z => by
          subst z
          have a1 := (List.getElem?_eq_some_iff.mp hci)
          have a2 := (List.getElem?_eq_some_iff.mp hl)
          exact c1 ((List.getElem_inj h.ln (h₀ := a1.1) (h₁ := a2.1)).mp (a1.2.trans a2.2.symm))
        rw [upd_ne cne]
        exact h.cell i q' c e hci
  · have : (appK tab d p0).map (fun p => nkD p.1) = tab.map fun p => nkD p.1 := by
      unfold appK
      rw [List.map_map]
      refine List.map_congr_left fun q _ => ?_
      simp only [Function.comp]
      split <;> rfl
    rw [this]; exact h.keys
end
end DD
set_option Elab.async false
set_option linter.all false
set_option maxRecDepth 100000
set_option maxHeartbeats 2000000
namespace DD
open PySem L2 PyProof.Rows RZ
abbrev NHo : List Str := ["views", "holders", "place", "view"]
/-- views, run by run: what may be a key, few of them -/
structure VwsOk (vss : List (List D)) : Prop where
  key : ∀ row ∈ vss, ∀ d ∈ row, KyOk d ∧ imm d = true ∧ ∃ ds, d = .tup ds
  few : vss.length ≤ 1000
  row : ∀ row ∈ vss, row.length ≤ 10
section
variable [Tb : Tbl] {P : Program} {w : World} {K : PySem.W.Frag} {mg : Str → Option Value} {base : Heap}
def spHold (P : Program) (w : World) (K : PySem.W.Frag) : Sp := fun vs H Q _ => ∃ (va : Addr) (vss : List (List D)), vs = [.ref va] ∧ Rp K (fun _ => True) H (.lst (vss.map .lst)) (.ref va) ∧ VwsOk vss ∧ LamX.Tabs Tb.T H ∧
  ∀ ha ls H', Ext H H' → HdAt P w K H H' ha (hdUp vss vss.length) ls → Q (.ref ha) H'
theorem ix_natV {α : Type} {ds : List α} {d : α} {n : Nat} (h : ds[n]? = some d) : atI ds (n : Int) = some d := by
  have hlt : n < ds.length := (List.getElem?_eq_some_iff.mp h).1
  unfold atI
  have e1 : ixN ds.length (n : Int) = some n := by
    unfold ixN
    simp; omega
  rw [e1]
  exact h
theorem hasV_add {tab : Tab} {d : D} : hasV (addK tab d) d = true := by
  unfold addK
  split
  · assumption
  · unfold hasV; rw [List.any_append]; simp
theorem addK_len {tab : Tab} {d : D} : (addK tab d).length ≤ tab.length + 1 := by
  unfold addK; split <;> simp
theorem hd1_len {tab : Tab} {d : D} {p : Nat} : (hd1 p tab d).length ≤ tab.length + 1 := by
  unfold hd1 appK; rw [List.length_map]; exact addK_len
theorem hdRow_len {p : Nat} : ∀ (ds : List D) (tab : Tab), (hdRow tab p ds).length ≤ tab.length + ds.length
  | [], tab => Nat.le_refl _
  | d :: ds, tab => by
    have h1 := hdRow_len (p := p) ds (hd1 p tab d)
    have h2 := hd1_len (tab := tab) (d := d) (p := p)
    show (hdRow (hd1 p tab d) p ds).length ≤ _
    rw [List.length_cons]; omega
theorem hdUp_len {vss : List (List D)} (hr : ∀ row ∈ vss, row.length ≤ 10) : ∀ n, (hdUp vss n).length ≤ 10 * n
  | 0 => Nat.le_refl _
  | n + 1 => by
    have h1 := hdUp_len hr n
    have h2 := hdRow_len (p := n) (vss.getD n []) (hdUp vss n)
    have h3 : (vss.getD n []).length ≤ 10 := by
      rw [List.getD_eq_getElem?_getD]
      cases e : vss[n]? with
      | none => simp
      | some r => exact hr r (List.mem_of_getElem? e)
    show (hdRow (hdUp vss n) n (vss.getD n [])).length ≤ _
    omega
def smallT (tab : Tab) (m : Nat) : Prop := ∀ q ∈ tab, q.2.length ≤ m
theorem small1 {tab : Tab} {m p : Nat} {d : D} (h : smallT tab m) : smallT (hd1 p tab d) (m + 1) := by
  intro q hq
  unfold hd1 appK at hq
  obtain ⟨q0, h0, rfl⟩ := List.mem_map.mp hq
  have : q0.2.length ≤ m := by
    unfold addK at h0
    split at h0
    · exact h q0 h0
    · rcases List.mem_append.mp h0 with h0 | h0
      · exact h q0 h0
      · simp at h0; subst h0; exact Nat.zero_le _
  split
  · simp; omega
  · exact Nat.le_succ_of_le this
theorem smallRow {p : Nat} : ∀ (ds : List D) {tab : Tab} {m : Nat}, smallT tab m → smallT (hdRow tab p ds) (m + ds.length)
  | [], tab, m, h => h
  | d :: ds, tab, m, h => by
    have := smallRow (p := p) ds (small1 (p := p) (d := d) h)
    rw [List.length_cons, show m + (ds.length + 1) = m + 1 + ds.length by omega]
    exact this
theorem smallUp {vss : List (List D)} (hr : ∀ row ∈ vss, row.length ≤ 10) : ∀ n, smallT (hdUp vss n) (10 * n)
  | 0 => fun q h => by simp [hdUp] at h
  | n + 1 => by
    have h2 := smallRow (p := n) (vss.getD n []) (smallUp hr n)
    have h3 : (vss.getD n []).length ≤ 10 := by
      rw [List.getD_eq_getElem?_getD]
      cases e : vss[n]? with
      | none => simp
      | some r => exact hr r (List.mem_of_getElem? e)
    intro q hq
    have := h2 q hq
    omega
theorem ok_hold {st : Stmt} {f : Addr} {fd : FuncData} {x qual : Str} {k : Nat} (F : Fun K x qual st f fd) (S : FnScope NHo ["views"] (defScope st)) (hblt : ∀ x ∈ bltNames, mg x = none)
    {xh xv xv2 xp xw xh2 xh3 xw2 xh4 xw3 xp2 xh5 : Str} {tg1 tg2 : Expr} {a1 a2 a3 a4 a5 a6 a7 a8 a9 a10 a11 a12 a13 a14 a15 a16 a17 a18 a19 a20 a21 a22 a23 a24 a25 a26 a27 a28 a29 a30 a31 : Pos}
    (hb : defBody st = [.Assign [.Name xh a1] (.Dict [] [] a2) a3, .For tg1 (.Call (.Name "range" a4) [.Call (.Name "len" a5) [.Name xv a6] [] a7] [] a8) [.For tg2 (.Subscript (.Name xv2 a9) (.Name xp a10) a11)
      [.If (.Compare (.Name xw a12) [.NotIn] [.Name xh2 a13] a14) [.Assign [.Subscript (.Name xh3 a15) (.Name xw2 a16) a17] (.List [] a18) a19] [] a20,
       .Expr (.Call (.Attribute (.Subscript (.Name xh4 a21) (.Name xw3 a22) a23) "append" a24) [.Name xp2 a25] [] a26) a27] [] a28] [] a29, .Return (some (.Name xh5 a30)) a31])
    (d1 : dstB (defScope st) NHo 1 xh = true) (gr : gloB (defScope st) "range" = true) (gl : gloB (defScope st) "len" = true) (t1 : chkTg true (defScope st) NHo (.nm 2) tg1 = true) (t2 : chkTg true (defScope st) NHo (.nm 3) tg2 = true)
    (v1 : varB (defScope st) NHo 0 xv = true) (v2 : varB (defScope st) NHo 0 xv2 = true) (v3 : varB (defScope st) NHo 2 xp = true) (v4 : varB (defScope st) NHo 3 xw = true) (v5 : varB (defScope st) NHo 1 xh2 = true) (v6 : varB (defScope st) NHo 1 xh3 = true) (v7 : varB (defScope st) NHo 3 xw2 = true)
    (v8 : varB (defScope st) NHo 1 xh4 = true) (v9 : varB (defScope st) NHo 3 xw3 = true) (v10 : varB (defScope st) NHo 2 xp2 = true) (v11 : varB (defScope st) NHo 1 xh5 = true) (hl : (a24.endLine == a26.line) = true) :
    FnOk P w K mg base CX0 (k + 1) f fd ["views"] (spHold P w K) := by
  refine Fun.okC F S (fun vs H Q E hh => ?_) (fun A outer s H vs Q E hr hh => ?_)
  · obtain ⟨_, _, rfl, _⟩ := hh; rfl
  obtain ⟨va, vss, rfl, hV, ok, hT, kq⟩ := hh
  have hu : (cxOf CX0 P w K mg base NHo qual (defScope st) f fd.code A outer s H E).nox.A.units + 66 < cLine := by
    refine Nat.lt_of_le_of_lt (Nat.add_le_add_left (show 66 ≤ 16 * k + 200 by omega) _) ?_
    have := hr.un
    rw [Nat.add_assoc] at this
    exact this
  have gR := gl_of (X := (cxOf CX0 P w K mg base NHo qual (defScope st) f fd.code A outer s H E).nox) rfl gr
  have gL := gl_of (X := (cxOf CX0 P w K mg base NHo qual (defScope st) f fd.code A outer s H E).nox) rfl gl
  have mR : (cxOf CX0 P w K mg base NHo qual (defScope st) f fd.code A outer s H E).nox.mg "range" = none := hblt _ (by simp [bltNames])
  have mL : (cxOf CX0 P w K mg base NHo qual (defScope st) f fd.code A outer s H E).nox.mg "len" = none := hblt _ (by simp [bltNames])
  have dst := d1
  simp only [dstB, Bool.and_eq_true] at dst
  rw [hb]
  refine ⟨_, pss_cons (ps_set (i := 1) S.nd (nameAt_of dst.1) (dstK_of dst.2).1 pe_nnew rfl (.inl rfl))
    (pss_cons (ps_for PassesOwn.never rfl (pi_range1 gR.1 mR (pa_cons (pe_callB call_len_seq gL.1 mL boot_len (pa_cons (pv_of v1) pa_nil)) pa_nil)) (pg_of (b := true) rfl S.nd (fun _ _ => rfl) rfl t1)
      (pss_one (ps_for PassesOwn.never rfl (pi_list (pe_ix ix_seq (pv_of v2) (pv_of v3) (plain_of rfl))) (pg_of (b := true) rfl S.nd (fun _ _ => rfl) rfl t2)
        (pss_cons (ps_if (pt_cmp (pc_nnotin hu (pv_of v4) (pv_of v5)) rfl) (pss_one (ps_nput hu (pv_of v6) (pv_of v7) (pe_lst pa_nil) rfl)) pss_nil)
          (pss_one (ps_expr (pe_bm PySem.F.plainAttrs_list PySem.F.slot_list_append PySem.F.type_list_append mt_append (pe_nget hu (pv_of v8) (pv_of v9) (fun _ _ => rfl)) (pa_cons (pv_of v10) pa_nil) rfl rfl hl rfl rfl)))) (fun _ => rfl))) (fun _ => rfl))
    (pss_one (ps_ret (pv_of v11)))), ?_⟩
  simp only [Rp] at hV
  obtain ⟨va', vws, ev, _, hva, hrows⟩ := hV
  cases ev
  have hvl : vss.length = vws.length := by have := hrows.length; simpa using this
  intro ha hha
  have e0 : Ext H (upd H ha (ndO P w ha [])) := Ext.new hha
  have A0 : HdAt P w K H (upd H ha (ndO P w ha [])) ha [] [] := ⟨hha, ⟨[], upd_same, .nil⟩, rfl, List.nodup_nil, fun l h => by simp at h, fun j p l h => by simp at h, List.nodup_nil⟩
  refine ⟨.ref va, rfl, va, vws, rfl, .inl (SqL.of (e0.lst hva)), (vws.length : Int), rfl, by omega, by have := ok.few; omega, ?_⟩
  rw [Int.toNat_natCast]
  refine for_it walk_range (fun i σ' H' => Ext H H' ∧ ∃ ls p q, σ' = [some (.ref va), some (.ref ha), p, q] ∧ HdAt P w K H H' ha (hdUp vss i) ls) ⟨e0, [], none, none, rfl, A0⟩ (fun _ _ _ _ _ => trivial) ?_ ?_
  · rintro i y σ' H' H'' hi ⟨e1, ls, p0, q0, rfl, A1⟩ ⟨rfl, rfl⟩
    have hiv : i < vss.length := by omega
    obtain ⟨vr, g1, g2⟩ := hrows.get (i := i) (d := .lst vss[i]) (by rw [List.getElem?_map, List.getElem?_eq_getElem hiv]; rfl)
    simp only [Rp] at g2
    obtain ⟨ra, ws, rfl, _, hra, hrow⟩ := g2
    have rowm : vss[i] ∈ vss := List.getElem_mem hiv
    have rl := ok.row _ rowm
    have hup : hdUp vss (i + 1) = hdRow (hdUp vss i) i vss[i] := by
      show hdRow (hdUp vss i) i (vss.getD i []) = _
      rw [List.getD_eq_getElem?_getD, List.getElem?_eq_getElem hiv]; rfl
    have hz : (0 : Int) + (i : Int) = (i : Int) := by omega
    dsimp only
    rw [hz]
    have hlim : vws.length ≤ 1000 := hvl ▸ ok.few
    have hix : atI vws (i : Int) = some (.ref ra) := ix_natV g1
    refine ⟨.ref va, rfl, .int i, rfl, .inl ⟨va, vws, i, .ref ra, rfl, rfl, SqL.of (e1.lst hva), hix, ra, rfl, ⟨ws, SqL.of (e1.lst hra)⟩, ?_⟩⟩
    refine for_it (walk_list (xs := ws)) (fun j σ' H' => Ext H H' ∧ ∃ ls q, σ' = [some (.ref va), some (.ref ha), some (.int i), q] ∧ HdAt P w K H H' ha (hdRow (hdUp vss i) i (vss[i].take j)) ls) ⟨e1, ls, q0, rfl, A1⟩ (fun j σ' H' _ h => SqL.of (h.1.lst hra)) ?_ ?_
    · rintro j y σ' H' H'' hj ⟨e2, ls, q0, rfl, A2⟩ ⟨rfl, hy⟩
      have hjl : j < vss[i].length := by rw [hrow.length]; exact hj
      obtain ⟨u, k1, k2⟩ := hrow.get (List.getElem?_eq_getElem hjl)
      rw [hy] at k1
      cases k1
      obtain ⟨ky, hi2, dsv, hdv⟩ := ok.key _ rowm _ (List.getElem_mem hjl)
      have htake : hdRow (hdUp vss i) i (vss[i].take (j + 1)) = hd1 i (hdRow (hdUp vss i) i (vss[i].take j)) vss[i][j] := by
        unfold hdRow
        rw [List.take_succ_eq_append_getElem hjl, List.foldl_append]; rfl
      have ts : smallT (hdRow (hdUp vss i) i (vss[i].take j)) 20000 := by
        have h1 := smallRow (p := i) (vss[i].take j) (smallUp ok.row i)
        intro q hq
        have h2 := h1 q hq
        have h3 : (vss[i].take j).length ≤ 10 := by rw [List.length_take]; omega
        have := ok.few
        omega
      have tl : (hdRow (hdUp vss i) i (vss[i].take j)).length ≤ 20000 := by
        have h1 := hdRow_len (p := i) (vss[i].take j) (hdUp vss i)
        have h2 := hdUp_len ok.row i
        have h3 : (vss[i].take j).length ≤ 10 := by rw [List.length_take]; omega
        have := ok.few
        omega
      rw [htake]
      generalize hdRow (hdUp vss i) i (vss[i].take j) = tab at *
      generalize vss[i][j] = d at *
      subst hdv
      have k3 := k2
      simp only [Rp] at k3
      obtain ⟨b, bs, rfl, _⟩ := k3
      have kd : Rp K (fun _ => False) H'' (.tup dsv) (.ref b) := Rp.any hi2 (k2.ext e2)
      have big : 20001 < sizeLine := by decide
      have app : ∀ {tab2 : Tab} {ls2 : List Addr} {H2 : Hp} (e3 : Ext H H2) (A3 : HdAt P w K H H2 ha tab2 ls2) (q2 : Rp K (fun _ => False) H2 (.tup dsv) (.ref b)) (hv : hasV tab2 (.tup dsv) = true) (hs : smallT tab2 20000),
          ∃ (jj : Nat) (q : D × List Nat) (l : Addr), tab2[jj]? = some q ∧ ls2[jj]? = some l ∧ nkD q.1 = nkD (.tup dsv) := fun {tab2 ls2 H2} e3 A3 q2 hv hs => by
        obtain ⟨jj, q, hq, hk⟩ := hasV_at hv
        have : jj < ls2.length := by rw [← A3.len]; exact (List.getElem?_eq_some_iff.mp hq).1
        exact ⟨jj, q, ls2[jj], hq, List.getElem?_eq_getElem this, hk⟩
      refine ⟨.ref b, rfl, .ref ha, rfl, ha, b, .tup dsv, valsV tab ls, rfl, rfl, A2.nd, ky, Rp.any hi2 kd, _, rfl, ?_⟩
      rw [valsV_none A2.len]
      cases hv : hasV tab (.tup dsv) with
      | true =>
        refine iteF ?_
        obtain ⟨jj, q, l, h1, h2, h3⟩ := app e2 A2 kd hv ts
        have hc := A2.cell jj q l h1 h2
        have hq := ts q (List.mem_of_getElem? h1)
        have ea : hd1 i tab (.tup dsv) = appK tab (.tup dsv) i := by unfold hd1 addK; rw [if_pos hv]
        refine ⟨.ref ha, rfl, .ref b, rfl, ha, b, .tup dsv, valsV tab ls, .ref l, rfl, rfl, A2.nd, ky, Rp.any hi2 kd, valsV_at A2.len A2.keys h1 h2 h3, .inl ⟨rfl, _, SqL.of hc⟩, .int i, rfl, l, _, .int i, rfl, rfl, hc, by rw [List.length_map]; omega, ?_⟩
        refine ⟨e2.mut (A2.lnew l (List.mem_of_getElem? h2)) hc trivial, ls, _, rfl, ?_⟩
        rw [ea]
        exact A2.app h1 h2 h3
      | false =>
        refine iteT ?_
        refine ⟨Nat.zero_le _, fun l hl => ?_⟩
        have el : Ext H'' (upd H'' l (.lst [])) := Ext.new hl
        refine ⟨.ref ha, rfl, .ref b, rfl, ha, b, .tup dsv, valsV tab ls, rfl, rfl, A2.nd.ext el, ky, kd.ext el, ?_, ?_, fun ob hob n3 n4 => ?_⟩
        · have := valsV_none (d := .tup dsv) A2.len
          rw [hv] at this
          cases e : tabAt (valsV tab ls) (nkD (.tup dsv)) with
          | none => rfl
          | some v => rw [e] at this; cases this
        · have : (valsV tab ls).length ≤ tab.length := by unfold valsV; rw [List.length_zipWith]; exact Nat.min_le_left _ _
          omega
        · have lnew : H l = none := e2.back hl
          have hln : l ∉ ls := fun z => by
            obtain ⟨jj, hjj⟩ := List.getElem?_of_mem z
            have hlt : jj < tab.length := by rw [A2.len]; exact (List.getElem?_eq_some_iff.mp hjj).1
            have := A2.cell jj tab[jj] l (List.getElem?_eq_getElem hlt) hjj
            rw [hl] at this; cases this
          have A3 := (A2.ext el).add hv upd_same lnew hln hob n3
          have e3 : Ext H (upd (upd H'' l (.lst [])) ha ob) := by
            have e4 := e2.trans el
            obtain ⟨φ, hφ⟩ := (A2.nd.ext el).at
            exact ⟨fun c u hcu nt => by rw [upd_ne (fun z => by rw [z, A2.new] at hcu; cases hcu)]; exact e4.to c u hcu nt, fun ht => fun r hr => tbl_nd hφ n4 (e4.tab ht r hr), fun c hc => e4.dom c (upd_none hc)⟩
          have hv2 : hasV (tab ++ [(.tup dsv, [])]) (.tup dsv) = true := by unfold hasV; rw [List.any_append]; simp
          have ts2 : smallT (tab ++ [(.tup dsv, [])]) 20000 := fun q hq => by
            rcases List.mem_append.mp hq with hq | hq
            · exact ts q hq
            · simp at hq; subst hq; exact Nat.zero_le _
          have kd3 : Rp K (fun _ => False) (upd (upd H'' l (.lst [])) ha ob) (.tup dsv) (.ref b) := by
            obtain ⟨φ, hφ⟩ := (A2.nd.ext el).at
            exact rp_nd hφ (kd.ext el)
          obtain ⟨jj, q, l2, h1, h2, h3⟩ := app e3 A3 kd3 hv2 ts2
          have hc := A3.cell jj q l2 h1 h2
          have hq := ts2 q (List.mem_of_getElem? h1)
          have ea : hd1 i tab (.tup dsv) = appK (tab ++ [(.tup dsv, [])]) (.tup dsv) i := by unfold hd1 addK; rw [if_neg (by rw [hv]; exact Bool.false_ne_true)]
          refine ⟨.ref ha, rfl, .ref b, rfl, ha, b, .tup dsv, valsV _ _, .ref l2, rfl, rfl, A3.nd, ky, Rp.any hi2 kd3, valsV_at A3.len A3.keys h1 h2 h3, .inl ⟨rfl, _, SqL.of hc⟩, .int i, rfl, l2, _, .int i, rfl, rfl, hc, by rw [List.length_map]; omega, ?_⟩
          refine ⟨e3.mut (A3.lnew l2 (List.mem_of_getElem? h2)) hc trivial, ls ++ [l], _, rfl, ?_⟩
          rw [ea]
          exact A3.app h1 h2 h3
    · rintro σ' H' ⟨e2, ls, q0, rfl, A2⟩
      refine ⟨e2, ls, _, _, rfl, ?_⟩
      rw [hup]
      rw [← hrow.length, List.take_length] at A2
      exact A2
  · rintro σ' H' ⟨e1, ls, p0, q0, rfl, A1⟩
    rw [← hvl] at A1
    exact ⟨.ref ha, rfl, kq ha ls H' e1 A1⟩
end
end DD
set_option Elab.async false
set_option linter.all false
set_option maxRecDepth 100000
set_option maxHeartbeats 2000000
namespace DD
open PySem L2 PyProof.Rows RZ
structure Rch where
  seen : List Nat
  found : List Nat
  todo : List Nat
def push1 (s : Rch) (o : Nat) : Rch := if s.seen.contains o then s else ⟨s.seen ++ [o], s.found ++ [o], s.todo ++ [o]⟩
def heldOf (tab : Tab) (d : D) : List Nat := ((tab.find? fun p => decide (nkD p.1 = nkD d)).map (·.2)).getD []
def pushV (tab : Tab) (s : Rch) (d : D) : Rch := (heldOf tab d).foldl push1 s
def popR1 (s : Rch) : Rch := ⟨s.seen, s.found, s.todo.dropLast⟩
def stepR (vss : List (List D)) (tab : Tab) (s : Rch) : Rch := (vss.getD (s.todo.getLastD 0) []).foldl (pushV tab) (popR1 s)
def reachR (vss : List (List D)) (tab : Tab) : Nat → Rch → Rch
  | 0, s => s
  | n + 1, s => if s.todo.isEmpty then s else reachR vss tab n (stepR vss tab s)
theorem few_of {n : Nat} : ∀ {l : List Nat}, l.Nodup → (∀ x ∈ l, x < n) → l.length ≤ n := by
  induction n with
  | zero =>
    intro l _ h
    cases l with
    | nil => exact Nat.le_refl _
    | cons x l => exact absurd (h x (by simp)) (by omega)
  | succ n ih =>
    intro l nd h
    have h1 := ih (l := l.erase n) (nd.erase n) (fun x hx => by
      rw [nd.mem_erase_iff] at hx
      have := h x hx.2
      have := hx.1
      omega)
    rw [List.length_erase] at h1
    split at h1 <;> omega
structure RchOk (n : Nat) (s : Rch) : Prop where
  nd : s.seen.Nodup
  lt : ∀ x ∈ s.seen, x < n
  fl : s.found.length ≤ s.seen.length
  tl : s.todo.length ≤ s.found.length
  ts : ∀ x ∈ s.todo, x ∈ s.seen
theorem RchOk.few {n : Nat} {s : Rch} (h : RchOk n s) : s.seen.length ≤ n := few_of h.nd h.lt
theorem push1_ok {n : Nat} {s : Rch} (h : RchOk n s) {o : Nat} (ho : o < n) : RchOk n (push1 s o) := by
  unfold push1
  split
  · exact h
  · rename_i hc
    have hc : o ∉ s.seen := fun z => hc (by simpa using z)
    refine ⟨List.nodup_append.mpr ⟨h.nd, by simp, fun x hx y hy => by simp at hy; subst hy; exact fun z => hc (z ▸ hx)⟩, fun x hx => ?_, by simp; exact h.fl, by simp; exact h.tl, fun x hx => ?_⟩
    · rcases List.mem_append.mp hx with hx | hx
      · exact h.lt x hx
      · simp at hx; omega
    · rcases List.mem_append.mp hx with hx | hx
      · exact List.mem_append_left _ (h.ts x hx)
      · exact List.mem_append_right _ hx
theorem pushes_ok {n : Nat} : ∀ (os : List Nat) {s : Rch}, RchOk n s → (∀ o ∈ os, o < n) → RchOk n (os.foldl push1 s)
  | [], s, h, _ => h
  | o :: os, s, h, ho => pushes_ok os (push1_ok h (ho o (by simp))) fun x hx => ho x (by simp [hx])
/-- the places in a table -/
def TabLt (tab : Tab) (n : Nat) : Prop := ∀ p ∈ tab, ∀ x ∈ p.2, x < n
theorem held_lt {tab : Tab} {n : Nat} (h : TabLt tab n) {d : D} : ∀ x ∈ heldOf tab d, x < n := by
  unfold heldOf
  cases e : tab.find? fun p => decide (nkD p.1 = nkD d) with
  | none => intro x hx; simp at hx
  | some p => exact fun x hx => h p (List.mem_of_find?_eq_some e) x (by simpa using hx)
theorem pushV_ok {n : Nat} {tab : Tab} {s : Rch} {d : D} (h : RchOk n s) (ht : TabLt tab n) : RchOk n (pushV tab s d) := pushes_ok _ h (held_lt ht)
theorem pushVs_ok {n : Nat} {tab : Tab} (ht : TabLt tab n) : ∀ (ds : List D) {s : Rch}, RchOk n s → RchOk n (ds.foldl (pushV tab) s)
  | [], s, h => h
  | d :: ds, s, h => pushVs_ok ht ds (pushV_ok h ht)
theorem pop_ok {n : Nat} {s : Rch} (h : RchOk n s) : RchOk n (popR1 s) :=
  ⟨h.nd, h.lt, h.fl, by have := h.tl; simp only [popR1, List.length_dropLast]; omega, fun x hx => h.ts x (List.dropLast_subset _ hx)⟩
theorem step_ok {n : Nat} {vss : List (List D)} {tab : Tab} {s : Rch} (h : RchOk n s) (ht : TabLt tab n) : RchOk n (stepR vss tab s) := pushVs_ok ht _ (pop_ok h)
theorem keyB_imm : ∀ d : D, keyB d = true → imm d = true
  | .non, _ => rfl
  | .int _, _ => rfl
  | .str _, _ => rfl
  | .tup ds, h => by
    simp only [keyB] at h
    simp only [imm]
    exact keyBs_imm ds h
  | .bl _, h => by simp [keyB] at h
  | .lst _, h => by simp [keyB] at h
  | .fz _, h => by simp [keyB] at h
  | .dic _ _, h => by simp [keyB] at h
  | .dit _ _, h => by simp [keyB] at h
  | .fd _ _, h => by simp [keyB] at h
  | .dk _ _ _ _, h => by simp [keyB] at h
where keyBs_imm : ∀ ds : List D, keyBs ds = true → immL ds = true
  | [], _ => rfl
  | d :: ds, h => by
    simp only [keyBs, Bool.and_eq_true] at h
    simp only [immL, Bool.and_eq_true]
    exact ⟨keyB_imm d h.1, keyBs_imm ds h.2⟩
section
variable [Tb : Tbl] {P : Program} {w : World} {K : PySem.W.Frag} {H0 H H' : Hp} {sa ha fa ta : Addr} {tab : Tab} {ls : List Addr}
theorem ExtB.refl (a : Addr) (H : Hp) : ExtB a H H := ⟨fun _ _ _ h _ => h, fun h => h, fun _ h => h⟩
theorem ExtB.trans {a : Addr} {H1 H2 H3 : Hp} (x : ExtB a H1 H2) (y : ExtB a H2 H3) : ExtB a H1 H3 := ⟨fun b o n h z => y.to b o n (x.to b o n h z) z, fun h => y.tab (x.tab h), fun b h => x.dom b (y.dom b h)⟩
theorem ExtB.of_ext {a : Addr} {H1 H2 : Hp} (e : Ext H1 H2) : ExtB a H1 H2 := ⟨fun b o _ h z => e.to b o h z, e.tab, e.dom⟩
/-- a new cell is written -/
theorem ExtB.mut {o o' : HO} {p : Addr} (e : ExtB sa H0 H) (hn : H0 p = none) (hp : H p = some o) (hm : MutO o) : ExtB sa H0 (upd H p o') :=
  ⟨fun b u nb h nt => by rw [upd_ne (fun z => by rw [z, hn] at h; cases h)]; exact e.to b u nb h nt, fun h => fun r hr => tbl_mut hp hm (e.tab h r hr), fun b h => e.dom b (upd_none h)⟩
/-- the cell itself is written -/
theorem ExtB.own {o o' : HO} (e : ExtB sa H0 H) (hp : H sa = some o) (hm : MutO o) : ExtB sa H0 (upd H sa o') :=
  ⟨fun b u nb h nt => by rw [upd_ne nb]; exact e.to b u nb h nt, fun h => fun r hr => tbl_mut hp hm (e.tab h r hr), fun b h => e.dom b (upd_none h)⟩
theorem ExtB.tup {xs : List V} {a : Addr} {o : HO} (e : ExtB sa H H') (hs : H sa = some o) (hm : MutO o) (h : H a = some (.tup xs)) : H' a = some (.tup xs) :=
  e.to a _ (fun z => by rw [z, hs] at h; cases h; exact hm) h (fun _ z => by cases z)
theorem ExtB.frz {a : Addr} {ob : Obj} {u o : HO} (e : ExtB sa H H') (hs : H sa = some o) (hm : MutO o) (h : H a = some (.frz ob u)) : H' a = some (.frz ob u) :=
  e.to a _ (fun z => by rw [z, hs] at h; cases h; exact hm) h (fun _ z => by cases z)
theorem ExtB.im {N N' : Addr → Prop} {o : HO} {d : D} {v : V} (e : ExtB sa H H') (hs : H sa = some o) (hm : MutO o) (hi : imm d = true) (r : Rp K N H d v) : Rp K N' H' d v := by
  refine Rp.im (fun a xs h => ?_) (fun a xs h => ?_) d v hi r
  · rcases h with (h | ⟨ob, h⟩) | h
    · exact .inl (.inl (e.tup hs hm h))
    · exact .inl (.inr ⟨ob, e.frz hs hm h⟩)
    · exact .inr h
  · rcases h with ⟨ob, h⟩ | h
    · exact .inl ⟨ob, e.frz hs hm h⟩
    · exact .inr h
theorem ND.extB {tab : List (D × V)} {o : HO} (e : ExtB sa H H') (hs : H sa = some o) (hm : MutO o) (n : ND P w K H ha tab) : ND P w K H' ha tab := by
  obtain ⟨xs, hx, hp⟩ := n
  refine ⟨xs, e.to ha _ (fun z => by rw [z, hs] at hx; cases hx; exact hm) hx (fun _ z => by cases z), Paired.mapP hp fun p x ⟨q1, q2, q3, q4⟩ => ⟨q1, q2, q3, e.im hs hm (keyB_imm _ q3.k) q4⟩⟩
/-- the dict of the views, only read -/
structure HdR (P : Program) (w : World) (K : PySem.W.Frag) (H : Hp) (ha : Addr) (tab : Tab) (ls : List Addr) : Prop where
  nd : ND P w K H ha (valsV tab ls)
  len : tab.length = ls.length
  cell : ∀ (j : Nat) (p : D × List Nat) (l : Addr), tab[j]? = some p → ls[j]? = some l → H l = some (.lst (p.2.map fun (n : Nat) => V.int n))
  keys : (tab.map fun p => nkD p.1).Nodup
theorem HdAt.rd {H1 : Hp} (h : HdAt P w K H1 H ha tab ls) : HdR P w K H ha tab ls := ⟨h.nd, h.len, h.cell, h.keys⟩
theorem HdR.ext (h : HdR P w K H ha tab ls) (e : Ext H H') : HdR P w K H' ha tab ls := ⟨h.nd.ext e, h.len, fun j p l a b => e.lst (h.cell j p l a b), h.keys⟩
theorem HdR.extB {kvs : List (Key × V)} (h : HdR P w K H ha tab ls) (e : ExtB sa H H') (hs : H sa = some (.dK kvs)) : HdR P w K H' ha tab ls :=
  ⟨h.nd.extB e hs trivial, h.len, fun j p l a b => by
    have c := h.cell j p l a b
    exact e.to l _ (fun z => by rw [z, hs] at c; cases c) c (fun _ z => by cases z), h.keys⟩
/-- where a view's places stand -/
theorem HdR.at {d : D} (h : HdR P w K H ha tab ls) (hv : hasV tab d = true) : ∃ l, tabAt (valsV tab ls) (nkD d) = some (.ref l) ∧ H l = some (.lst ((heldOf tab d).map fun (n : Nat) => V.int n)) := by
  unfold hasV at hv
  obtain ⟨q, hq⟩ : ∃ q, tab.find? (fun p => decide (nkD p.1 = nkD d)) = some q := by
    cases e : tab.find? (fun p => decide (nkD p.1 = nkD d)) with
    | some q => exact ⟨q, rfl⟩
    | none =>
      rw [List.find?_eq_none] at e
      rw [List.any_eq_true] at hv
      obtain ⟨p, hp, hd⟩ := hv
      exact absurd hd (e p hp)
  have hk : nkD q.1 = nkD d := by simpa using List.find?_some hq
  obtain ⟨j, hj⟩ := List.getElem?_of_mem (List.mem_of_find?_eq_some hq)
  have hl : j < ls.length := by rw [← h.len]; exact (List.getElem?_eq_some_iff.mp hj).1
  refine ⟨ls[j], valsV_at h.len h.keys hj (List.getElem?_eq_getElem hl) hk, ?_⟩
  have := h.cell j q ls[j] hj (List.getElem?_eq_getElem hl)
  unfold heldOf
  rw [hq]
  exact this
def seenK (s : List Nat) : List (Key × V) := s.map fun (n : Nat) => ((.inl (n : Int), .bl true) : Key × V)
def intV (s : List Nat) : List V := s.map fun (n : Nat) => V.int n
theorem seenK_val {s : List Nat} {o : Nat} : (valV (seenK s) (.inl (o : Int))).isSome = s.contains o := by
  induction s with
  | nil => rfl
  | cons x s ih =>
    unfold seenK at *
    simp only [List.map_cons, List.contains_cons]
    by_cases c : x = o
    · subst c
      rw [valV_pos rfl]; simp
    · rw [valV_neg (fun z => c (by have := Sum.inl.inj z; exact Int.ofNat.inj this)), ih]
      have : (o == x) = false := by simp; omega
      rw [this]; rfl
theorem seenK_put {s : List Nat} {o : Nat} (h : s.contains o = false) : putK (seenK s) (.inl (o : Int)) (.bl true) = seenK (s ++ [o]) := by
  have : valV (seenK s) (.inl (o : Int)) = none := by
    have := seenK_val (s := s) (o := o)
    rw [h] at this
    cases e : valV (seenK s) (.inl (o : Int)) with
    | none => rfl
    | some v => rw [e] at this; cases this
  rw [putK_new _ this]
  unfold seenK
  rw [List.map_append]; rfl
structure RcAt (H0 H : Hp) (sa fa ta : Addr) (s : Rch) : Prop where
  ex : ExtB sa H0 H
  f0 : H0 fa = none
  t0 : H0 ta = none
  ne : fa ≠ ta
  seen : H sa = some (.dK (seenK s.seen))
  found : H fa = some (.lst (intV s.found))
  todo : H ta = some (.lst (intV s.todo))
variable {s : Rch}
theorem RcAt.ns (h : RcAt H0 H sa fa ta s) : fa ≠ sa ∧ ta ≠ sa := by
  refine ⟨fun z => ?_, fun z => ?_⟩
  · have := h.found; rw [z, h.seen] at this; cases this
  · have := h.todo; rw [z, h.seen] at this; cases this
/-- one more place -/
theorem RcAt.push (h : RcAt H0 H sa fa ta s) {o : Nat} (hc : s.seen.contains o = false) :
    RcAt H0 (upd (upd (upd H sa (.dK (seenK (s.seen ++ [o])))) fa (.lst (intV (s.found ++ [o])))) ta (.lst (intV (s.todo ++ [o])))) sa fa ta (push1 s o) := by
  have e : push1 s o = ⟨s.seen ++ [o], s.found ++ [o], s.todo ++ [o]⟩ := by unfold push1; rw [if_neg (by rw [hc]; exact Bool.false_ne_true)]
  rw [e]
  have n := h.ns
  have f1 : upd H sa (.dK (seenK (s.seen ++ [o]))) fa = some (.lst (intV s.found)) := by rw [upd_ne n.1]; exact h.found
  have t1 : upd (upd H sa (.dK (seenK (s.seen ++ [o])))) fa (.lst (intV (s.found ++ [o]))) ta = some (.lst (intV s.todo)) := by rw [upd_ne (Ne.symm h.ne), upd_ne n.2]; exact h.todo
  refine ⟨((h.ex.own h.seen trivial).mut h.f0 f1 trivial).mut h.t0 t1 trivial, h.f0, h.t0, h.ne, ?_, ?_, upd_same⟩
  · rw [upd_ne (Ne.symm n.2), upd_ne (Ne.symm n.1), upd_same]
  · rw [upd_ne h.ne, upd_same]
theorem RcAt.pop (h : RcAt H0 H sa fa ta s) : RcAt H0 (upd H ta (.lst (intV s.todo.dropLast))) sa fa ta (popR1 s) := by
  have n := h.ns
  refine ⟨h.ex.mut h.t0 h.todo trivial, h.f0, h.t0, h.ne, ?_, ?_, upd_same⟩
  · rw [upd_ne (Ne.symm n.2)]; exact h.seen
  · rw [upd_ne h.ne]; exact h.found
end
end DD
set_option Elab.async false
set_option linter.all false
set_option maxRecDepth 100000
set_option maxHeartbeats 2000000
namespace DD
open PySem L2 PyProof.Rows RZ
abbrev NRe : List Str := ["place", "views", "holders", "seen", "found", "todo", "here", "view", "other"]
/-- the state at the while -/
def sigR (place : Nat) (va ha sa fa ta : Addr) (p q r : Option V) : L2.St := [some (.int place), some (.ref va), some (.ref ha), some (.ref sa), some (.ref fa), some (.ref ta), p, q, r]
theorem last_at {l : List Nat} (h : l ≠ []) : l[l.length - 1]? = some (l.getLastD 0) := by
  have : l.length - 1 < l.length := by have := List.length_pos_iff.mpr h; omega
  rw [List.getLastD_eq_getLast?, List.getLast?_eq_getElem?, List.getElem?_eq_getElem this]; rfl
section
variable [Tb : Tbl] {P : Program} {w : World} {K : PySem.W.Frag} {mg : Str → Option Value} {base : Heap}
/-- what reached_from is worth -/
def spReach (P : Program) (w : World) (K : PySem.W.Frag) : Sp := fun vs H Q _ => ∃ (place : Nat) (va ha sa : Addr) (vss : List (List D)) (tab : Tab) (ls : List Addr) (seen : List Nat) (n : Nat) (fin : Rch), vs = [.int place, .ref va, .ref ha, .ref sa] ∧
  Rp K (fun _ => True) H (.lst (vss.map .lst)) (.ref va) ∧ VwsOk vss ∧ HdR P w K H ha tab ls ∧ TabLt tab vss.length ∧ (∀ row ∈ vss, ∀ d ∈ row, hasV tab d = true) ∧ H sa = some (.dK (seenK seen)) ∧ seen.contains place = false ∧ RchOk vss.length ⟨seen ++ [place], [place], [place]⟩ ∧
  reachR vss tab n ⟨seen ++ [place], [place], [place]⟩ = fin ∧ fin.todo = [] ∧ LamX.Tabs Tb.T H ∧
  ∀ fa H', ExtB sa H H' → H fa = none → H' fa = some (.lst (intV fin.found)) → H' sa = some (.dK (seenK fin.seen)) → Q (.ref fa) H'
theorem ok_reach {st : Stmt} {f : Addr} {fd : FuncData} {x qual : Str} {k : Nat} (F : Fun K x qual st f fd) (S : FnScope NRe ["place", "views", "holders", "seen"] (defScope st)) (hblt : ∀ x ∈ bltNames, mg x = none)
    {n1 n2 n3 n4 n5 n6 n7 n8 n9 n10 n11 n12 n13 n14 n15 n16 n17 n18 n19 n20 n21 : Str} {tg1 tg2 : Expr} {j1 j2 j3 : Nat}
    {a1 a2 a3 a4 a5 a6 a7 a8 a9 a10 a11 a12 a13 a14 a15 a16 a17 a18 a19 a20 a21 a22 a23 a24 a25 a26 a27 a28 a29 a30 a31 a32 a33 a34 a35 a36 a37 a38 a39 a40 a41 a42 a43 a44 a45 a46 a47 a48 a49 a50 a51 a52 a53 : Pos}
    (hb : defBody st = [.Assign [.Subscript (.Name n1 a1) (.Name n2 a2) a3] (.Constant (.bool true) j1 a4) a5, .Assign [.Name n3 a6] (.List [.Name n4 a7] a8) a9, .Assign [.Name n5 a10] (.List [.Name n6 a11] a12) a13,
      .While (.Compare (.Call (.Name "len" a14) [.Name n7 a15] [] a16) [.Gt] [.Constant (.int 0) j2 a17] a18)
        [.Assign [.Name n8 a19] (.Call (.Attribute (.Name n9 a20) "pop" a21) [] [] a22) a23,
         .For tg1 (.Subscript (.Name n10 a24) (.Name n11 a25) a26)
          [.For tg2 (.Subscript (.Name n12 a27) (.Name n13 a28) a29)
            [.If (.Compare (.Name n14 a30) [.NotIn] [.Name n15 a31] a32)
              [.Assign [.Subscript (.Name n16 a33) (.Name n17 a34) a35] (.Constant (.bool true) j3 a36) a37,
               .Expr (.Call (.Attribute (.Name n18 a38) "append" a39) [.Name n19 a40] [] a41) a42,
               .Expr (.Call (.Attribute (.Name n20 a43) "append" a44) [.Name n21 a45] [] a46) a47] [] a48] [] a49] [] a50] [] a51,
      .Return (some (.Name n3 a52)) a53])
    (gl : gloB (defScope st) "len" = true) (t1 : chkTg true (defScope st) NRe (.nm 7) tg1 = true) (t2 : chkTg true (defScope st) NRe (.nm 8) tg2 = true)
    (v1 : varB (defScope st) NRe 3 n1 = true) (v2 : varB (defScope st) NRe 0 n2 = true) (d3 : dstB (defScope st) NRe 4 n3 = true) (v3 : varB (defScope st) NRe 4 n3 = true) (v4 : varB (defScope st) NRe 0 n4 = true)
    (d5 : dstB (defScope st) NRe 5 n5 = true) (v6 : varB (defScope st) NRe 0 n6 = true) (v7 : varB (defScope st) NRe 5 n7 = true) (d8 : dstB (defScope st) NRe 6 n8 = true) (v9 : varB (defScope st) NRe 5 n9 = true)
    (v10 : varB (defScope st) NRe 1 n10 = true) (v11 : varB (defScope st) NRe 6 n11 = true) (v12 : varB (defScope st) NRe 2 n12 = true) (v13 : varB (defScope st) NRe 7 n13 = true) (v14 : varB (defScope st) NRe 8 n14 = true) (v15 : varB (defScope st) NRe 3 n15 = true)
    (v16 : varB (defScope st) NRe 3 n16 = true) (v17 : varB (defScope st) NRe 8 n17 = true) (v18 : varB (defScope st) NRe 4 n18 = true) (v19 : varB (defScope st) NRe 8 n19 = true) (v20 : varB (defScope st) NRe 5 n20 = true) (v21 : varB (defScope st) NRe 8 n21 = true)
    (l1 : (a21.endLine == a22.line) = true) (l2 : (a39.endLine == a41.line) = true) (l3 : (a44.endLine == a46.line) = true) :
    FnOk P w K mg base CX0 (k + 1) f fd ["place", "views", "holders", "seen"] (spReach P w K) := by
  refine Fun.okC F S (fun vs H Q E hh => ?_) (fun A outer s H vs Q E hr hh => ?_)
  · obtain ⟨_, _, _, _, _, _, _, _, _, _, rfl, _⟩ := hh; rfl
  obtain ⟨place, va, ha, sa, vss, tab, ls, seen, n, fin, rfl, hV, ok, hd, htl, hhas, hsa, hnp, ok0, hfin, hend, hT, kq⟩ := hh
  have hu : (cxOf CX0 P w K mg base NRe qual (defScope st) f fd.code A outer s H E).nox.A.units + 66 < cLine := by
    refine Nat.lt_of_le_of_lt (Nat.add_le_add_left (show 66 ≤ 16 * k + 200 by omega) _) ?_
    have := hr.un
    rw [Nat.add_assoc] at this
    exact this
  have hu1 : (cxOf CX0 P w K mg base NRe qual (defScope st) f fd.code A outer s H E).nox.A.units + 1 < cLine := by omega
  have gL := gl_of (X := (cxOf CX0 P w K mg base NRe qual (defScope st) f fd.code A outer s H E).nox) rfl gl
  have mL : (cxOf CX0 P w K mg base NRe qual (defScope st) f fd.code A outer s H E).nox.mg "len" = none := hblt _ (by simp [bltNames])
  have dst3 := d3
  have dst5 := d5
  have dst8 := d8
  simp only [dstB, Bool.and_eq_true] at dst3 dst5 dst8
  rw [hb]
  refine ⟨_, pss_cons (ps_dput hu1 (pv_of v1) (pv_of v2) pe_bl rfl) (pss_cons (ps_set (i := 4) S.nd (nameAt_of dst3.1) (dstK_of dst3.2).1 (pe_lst (pa_cons (pv_of v4) pa_nil)) rfl (.inl rfl))
    (pss_cons (ps_set (i := 5) S.nd (nameAt_of dst5.1) (dstK_of dst5.2).1 (pe_lst (pa_cons (pv_of v6) pa_nil)) rfl (.inl rfl))
      (pss_cons (ps_while PassesOwn.never (pt_cmp (pc_gt (pe_callB call_len_seq gL.1 mL boot_len (pa_cons (pv_of v7) pa_nil)) pe_int) rfl)
        (pss_cons (ps_set (i := 6) S.nd (nameAt_of dst8.1) (dstK_of dst8.2).1 (pe_bm0 PySem.F.plainAttrs_list PySem.F.slot_list_pop PySem.F.type_list_pop mt_pop (pv_of v9) rfl l1) rfl (.inl rfl))
          (pss_one (ps_for PassesOwn.never rfl (pi_list (pe_ix ix_seq (pv_of v10) (pv_of v11) (plain_of rfl))) (pg_of (b := true) rfl S.nd (fun _ _ => rfl) rfl t1)
            (pss_one (ps_for PassesOwn.never rfl (pi_list (pe_nget hu (pv_of v12) (pv_of v13) (fun _ _ => rfl))) (pg_of (b := true) rfl S.nd (fun _ _ => rfl) rfl t2)
              (pss_one (ps_if (pt_cmp (pc_dnotin hu1 (pv_of v14) (pv_of v15)) rfl)
                (pss_cons (ps_dput hu1 (pv_of v16) (pv_of v17) pe_bl rfl)
                  (pss_cons (ps_expr (pe_bm PySem.F.plainAttrs_list PySem.F.slot_list_append PySem.F.type_list_append mt_append (pv_of v18) (pa_cons (pv_of v19) pa_nil) rfl rfl l2 rfl rfl))
                    (pss_one (ps_expr (pe_bm PySem.F.plainAttrs_list PySem.F.slot_list_append PySem.F.type_list_append mt_append (pv_of v20) (pa_cons (pv_of v21) pa_nil) rfl rfl l3 rfl rfl))))) pss_nil)) (fun _ => rfl))) (fun _ => rfl)))))
        (pss_one (ps_ret (pv_of v3)))))), ?_⟩
  simp only [Rp] at hV
  obtain ⟨va', vws, ev, _, hva, hrows⟩ := hV
  cases ev
  have hvl : vss.length = vws.length := by have := hrows.length; simpa using this
  have big : 1001 < sizeLine := by decide
  have few := ok.few
  -- the first three statements
  refine ⟨.ref sa, rfl, .int place, rfl, sa, _, rfl, DPut.k (k := .inl (place : Int)) (v := .bl true) hsa (by
    unfold seenK; rw [List.length_map]
    have := ok0.few; simp at this; omega), ?_⟩
  rw [seenK_put hnp]
  have e1 : ExtB sa H (upd H sa (.dK (seenK (seen ++ [place])))) := (ExtB.refl sa H).own hsa trivial
  generalize hH1 : upd H sa (.dK (seenK (seen ++ [place]))) = H1 at e1
  have s1 : H1 sa = some (.dK (seenK (seen ++ [place]))) := by rw [← hH1]; exact upd_same
  refine ⟨.int place, rfl, by simp; omega, fun fa hfa => ?_⟩
  refine ⟨.int place, rfl, by simp; omega, fun ta hta => ?_⟩
  have nft : fa ≠ ta := fun z => by rw [← z, upd_same] at hta; cases hta
  have A0 : RcAt H (upd (upd H1 fa (.lst [.int place])) ta (.lst [.int place])) sa fa ta ⟨seen ++ [place], [place], [place]⟩ := by
    have sf : fa ≠ sa := fun z => by rw [z, s1] at hfa; cases hfa
    have st' : ta ≠ sa := fun z => by rw [z, upd_ne (Ne.symm sf), s1] at hta; cases hta
    have e2 : ExtB sa H (upd (upd H1 fa (.lst [.int place])) ta (.lst [.int place])) := (e1.trans (ExtB.of_ext (Ext.new hfa))).trans (ExtB.of_ext (Ext.new hta))
    refine ⟨e2, e1.dom _ hfa, e1.dom _ (upd_none hta), nft, ?_, ?_, upd_same⟩
    · rw [upd_ne (Ne.symm st'), upd_ne (Ne.symm sf)]; exact s1
    · rw [upd_ne nft, upd_same]; rfl
  -- the while
  refine ⟨fun m σ' H' => ∃ s p q r, reachR vss tab m s = fin ∧ RchOk vss.length s ∧ RcAt H H' sa fa ta s ∧ σ' = sigR place va ha sa fa ta p q r, ⟨n, _, none, none, none, hfin, ok0, A0, rfl⟩, ?_⟩
  rintro m σ' H' ⟨s, p0, q0, r0, hm, os, As, rfl⟩
  refine ⟨.ref ta, rfl, ta, intV s.todo, rfl, .inl (SqL.of As.todo), ((intV s.todo).length : Int), 0, rfl, rfl, _, rfl, ?_⟩
  have hlen : (intV s.todo).length = s.todo.length := by unfold intV; rw [List.length_map]
  rw [hlen]
  by_cases hc : s.todo = []
  · rw [hc]
    have hs : s = fin := by
      rw [← hm]
      cases m with
      | zero => rfl
      | succ m => show s = if s.todo.isEmpty then s else _; rw [hc]; rfl
    subst hs
    exact ⟨.ref fa, rfl, kq fa H' As.ex As.f0 As.found As.seen⟩
  · have hpos : 0 < s.todo.length := List.length_pos_iff.mpr hc
    dsimp only
    rw [if_pos (decide_eq_true (by omega))]
    cases m with
    | zero => exact absurd (by rw [show s = fin from hm]; exact hend) hc
    | succ m =>
    have hm' : reachR vss tab m (stepR vss tab s) = fin := by
      rw [← hm]
      show _ = if s.todo.isEmpty then s else _
      rw [if_neg (by rw [List.isEmpty_iff]; exact hc)]
    refine ⟨fun σ2 H2 => ∃ p q r, RcAt H H2 sa fa ta (stepR vss tab s) ∧ σ2 = sigR place va ha sa fa ta p q r, fun σ2 H2 ⟨p, q, r, A2, e2⟩ => ⟨m, Nat.lt_succ_self m, stepR vss tab s, p, q, r, hm', step_ok os htl, A2, e2⟩, ?_⟩
    have hlast : (intV s.todo)[(intV s.todo).length - 1]? = some (.int ((s.todo.getLastD 0 : Nat) : Int)) := by
      unfold intV
      rw [List.length_map, List.getElem?_map]
      rw [last_at hc]; rfl
    have hmem : s.todo.getLastD 0 ∈ s.todo := List.mem_of_getElem? (last_at hc)
    have hhv : s.todo.getLastD 0 < vss.length := os.lt _ (os.ts _ hmem)
    have hrow : vss.getD (s.todo.getLastD 0) [] = vss[s.todo.getLastD 0] := by
      rw [List.getD_eq_getElem?_getD, List.getElem?_eq_getElem hhv]; rfl
    have hstep : stepR vss tab s = (vss[s.todo.getLastD 0]).foldl (pushV tab) (popR1 s) := by unfold stepR; rw [hrow]
    rw [hstep]
    have op := pop_ok os
    generalize hh0 : s.todo.getLastD 0 = h0 at *
    have Ap := As.pop
    have hdl : (intV s.todo).dropLast = intV s.todo.dropLast := by unfold intV; rw [List.map_dropLast]
    refine ⟨.ref ta, rfl, .inl ⟨rfl, _, SqL.of As.todo⟩, ta, intV s.todo, .int (h0 : Int), rfl, rfl, As.todo, hlast, ?_⟩
    rw [hdl]
    have hva2 : ∀ {H2 : Hp}, ExtB sa H H2 → H2 va = some (.lst vws) := fun e => e.to va _ (fun z => by rw [z, hsa] at hva; cases hva) hva (fun _ z => by cases z)
    obtain ⟨vr, g1, g2⟩ := hrows.get (i := h0) (d := .lst vss[h0]) (by rw [List.getElem?_map, List.getElem?_eq_getElem hhv]; rfl)
    simp only [Rp] at g2
    obtain ⟨ra, ws, rfl, _, hra, hrw⟩ := g2
    have hra2 : ∀ {H2 : Hp}, ExtB sa H H2 → H2 ra = some (.lst ws) := fun e => e.to ra _ (fun z => by rw [z, hsa] at hra; cases hra) hra (fun _ z => by cases z)
    have rowm : vss[h0] ∈ vss := List.getElem_mem hhv
    have hix : atI vws (h0 : Int) = some (.ref ra) := ix_natV g1
    refine ⟨.ref va, rfl, .int h0, rfl, .inl ⟨va, vws, h0, .ref ra, rfl, rfl, SqL.of (hva2 Ap.ex), hix, ra, rfl, ⟨ws, SqL.of (hra2 Ap.ex)⟩, ?_⟩⟩
    refine for_it (walk_list (xs := ws)) (fun j σ2 H2 => ∃ q r, RcAt H H2 sa fa ta ((vss[h0].take j).foldl (pushV tab) (popR1 s)) ∧ RchOk vss.length ((vss[h0].take j).foldl (pushV tab) (popR1 s)) ∧ σ2 = sigR place va ha sa fa ta (some (.int h0)) q r)
      ⟨q0, r0, Ap, op, rfl⟩ (fun j σ2 H2 _ ⟨_, _, A2, _⟩ => SqL.of (hra2 A2.ex)) ?_ ?_
    · rintro j y σ2 H2 H3 hj ⟨q1, r1, A2, o2, rfl⟩ ⟨rfl, hy⟩
      have hjl : j < vss[h0].length := by rw [hrw.length]; exact hj
      obtain ⟨u, k1, k2⟩ := hrw.get (List.getElem?_eq_getElem hjl)
      rw [hy] at k1
      cases k1
      obtain ⟨ky, hi2, dsv, hdv⟩ := ok.key _ rowm _ (List.getElem_mem hjl)
      have hhd := hhas _ rowm _ (List.getElem_mem hjl)
      have htake : (vss[h0].take (j + 1)).foldl (pushV tab) (popR1 s) = pushV tab ((vss[h0].take j).foldl (pushV tab) (popR1 s)) vss[h0][j] := by
        rw [List.take_succ_eq_append_getElem hjl, List.foldl_append]; rfl
      rw [htake]
      generalize (vss[h0].take j).foldl (pushV tab) (popR1 s) = s2 at *
      generalize vss[h0][j] = d at *
      subst hdv
      have k3 := k2
      simp only [Rp] at k3
      obtain ⟨b, bs, rfl, _⟩ := k3
      have D3 := hd.extB A2.ex hsa
      obtain ⟨l, h1, h2⟩ := D3.at hhd
      refine ⟨.ref ha, rfl, .ref b, rfl, ha, b, .tup dsv, valsV tab ls, .ref l, rfl, rfl, D3.nd, ky, A2.ex.im hsa trivial hi2 k2, h1, l, rfl, ⟨_, SqL.of h2⟩, ?_⟩
      have hl2 : ∀ {H4 : Hp} {s4 : Rch}, RcAt H H4 sa fa ta s4 → H4 l = some (.lst (intV (heldOf tab (.tup dsv)))) := fun {H4 s4} A4 => by
        obtain ⟨l', h1', h2'⟩ := (hd.extB A4.ex hsa).at hhd
        rw [h1] at h1'
        cases h1'
        exact h2'
      refine for_it (walk_list (xs := intV (heldOf tab (.tup dsv)))) (fun i σ4 H4 => ∃ r, RcAt H H4 sa fa ta (((heldOf tab (.tup dsv)).take i).foldl push1 s2) ∧ RchOk vss.length (((heldOf tab (.tup dsv)).take i).foldl push1 s2) ∧ σ4 = sigR place va ha sa fa ta (some (.int h0)) (some (.ref b)) r)
        ⟨r1, A2, o2, rfl⟩ (fun i σ4 H4 _ ⟨_, A4, _⟩ => SqL.of (hl2 A4)) ?_ ?_
      · rintro i y σ4 H4 H5 hi ⟨r3, A4, o4, rfl⟩ ⟨rfl, hy⟩
        have hil : i < (heldOf tab (.tup dsv)).length := by unfold intV at hi; rw [List.length_map] at hi; exact hi
        have hin := held_lt htl (d := .tup dsv) _ (List.getElem_mem hil)
        unfold intV at hy
        rw [List.getElem?_map, List.getElem?_eq_getElem hil] at hy
        cases hy
        have htk : ((heldOf tab (.tup dsv)).take (i + 1)).foldl push1 s2 = push1 (((heldOf tab (.tup dsv)).take i).foldl push1 s2) (heldOf tab (.tup dsv))[i] := by
          rw [List.take_succ_eq_append_getElem hil, List.foldl_append]; rfl
        rw [htk]
        generalize ((heldOf tab (.tup dsv)).take i).foldl push1 s2 = s4 at *
        generalize (heldOf tab (.tup dsv))[i] = o at *
        refine ⟨.int o, rfl, .ref sa, rfl, sa, _, rfl, DGet.k (k := .inl (o : Int)) A4.seen, _, rfl, ?_⟩
        rw [seenK_val]
        have p4 := push1_ok o4 hin
        have z1 := o4.few
        have z2 := o4.fl
        have z3 := o4.tl
        cases hcn : s4.seen.contains o with
        | true =>
          refine iteF ?_
          refine ⟨_, ?_, p4, rfl⟩
          have : push1 s4 o = s4 := by unfold push1; rw [if_pos hcn]
          rw [this]; exact A4
        | false =>
          refine iteT ?_
          have Apu := A4.push hcn
          have n4 := A4.ns
          refine ⟨.ref sa, rfl, .int o, rfl, sa, _, rfl, DPut.k (k := .inl (o : Int)) (v := .bl true) A4.seen (by unfold seenK; rw [List.length_map]; omega), ?_⟩
          rw [seenK_put hcn]
          have f1 : upd H5 sa (.dK (seenK (s4.seen ++ [o]))) fa = some (.lst (intV s4.found)) := by rw [upd_ne n4.1]; exact A4.found
          refine ⟨.ref fa, rfl, .inl ⟨rfl, _, SqL.of f1⟩, .int o, rfl, fa, intV s4.found, .int o, rfl, rfl, f1, by unfold intV; rw [List.length_map]; omega, ?_⟩
          have ei : ∀ l : List Nat, intV l ++ [V.int (o : Int)] = intV (l ++ [o]) := fun l => by unfold intV; rw [List.map_append]; rfl
          rw [ei]
          have t1 : upd (upd H5 sa (.dK (seenK (s4.seen ++ [o])))) fa (.lst (intV (s4.found ++ [o]))) ta = some (.lst (intV s4.todo)) := by rw [upd_ne (Ne.symm A4.ne), upd_ne n4.2]; exact A4.todo
          refine ⟨.ref ta, rfl, .inl ⟨rfl, _, SqL.of t1⟩, .int o, rfl, ta, intV s4.todo, .int o, rfl, rfl, t1, by unfold intV; rw [List.length_map]; omega, ?_⟩
          rw [ei]
          exact ⟨_, Apu, p4, rfl⟩
      · rintro σ4 H4 ⟨r3, A4, o4, rfl⟩
        have e : (heldOf tab (.tup dsv)).take (intV (heldOf tab (.tup dsv))).length = heldOf tab (.tup dsv) := by unfold intV; rw [List.length_map, List.take_length]
        rw [e] at A4 o4
        exact ⟨_, r3, A4, o4, rfl⟩
    · rintro σ2 H2 ⟨q1, r1, A2, o2, rfl⟩
      rw [← hrw.length, List.take_length] at A2
      exact ⟨_, q1, r1, A2, rfl⟩
end
end DD
set_option Elab.async false
set_option linter.all false
set_option maxRecDepth 100000
set_option maxHeartbeats 2000000
namespace DD
open PySem L2 PyProof.Rows RZ
def muR (n : Nat) (s : Rch) : Nat := 2 * (n - s.seen.length) + s.todo.length
theorem push1_bal {s : Rch} {o : Nat} : (push1 s o).seen.length + s.todo.length = s.seen.length + (push1 s o).todo.length ∧ s.seen.length ≤ (push1 s o).seen.length := by
  unfold push1
  split
  · exact ⟨rfl, Nat.le_refl _⟩
  · simp; omega
theorem pushes_bal : ∀ (os : List Nat) {s : Rch}, (os.foldl push1 s).seen.length + s.todo.length = s.seen.length + (os.foldl push1 s).todo.length ∧ s.seen.length ≤ (os.foldl push1 s).seen.length
  | [], s => ⟨rfl, Nat.le_refl _⟩
  | o :: os, s => by
    have h1 := push1_bal (s := s) (o := o)
    have h2 := pushes_bal os (s := push1 s o)
    rw [List.foldl_cons]; omega
theorem pushVs_bal {tab : Tab} : ∀ (ds : List D) {s : Rch}, (ds.foldl (pushV tab) s).seen.length + s.todo.length = s.seen.length + (ds.foldl (pushV tab) s).todo.length ∧ s.seen.length ≤ (ds.foldl (pushV tab) s).seen.length
  | [], s => ⟨rfl, Nat.le_refl _⟩
  | d :: ds, s => by
    have h1 := pushes_bal (heldOf tab d) (s := s)
    have h2 := pushVs_bal (tab := tab) ds (s := pushV tab s d)
    rw [List.foldl_cons]; unfold pushV at *; omega
theorem step_mu {n : Nat} {vss : List (List D)} {tab : Tab} {s : Rch} (h : RchOk n s) (ht : TabLt tab n) (hc : s.todo ≠ []) : muR n (stepR vss tab s) < muR n s := by
  have h1 := pushVs_bal (tab := tab) (vss.getD (s.todo.getLastD 0) []) (s := popR1 s)
  have h2 := (step_ok (vss := vss) h ht).few
  have h3 := List.length_pos_iff.mpr hc
  have h4 : (popR1 s).seen = s.seen := rfl
  have h5 : (popR1 s).todo.length = s.todo.length - 1 := by simp [popR1]
  unfold muR stepR at *
  rw [h4, h5] at h1
  omega
theorem reach_ends {n : Nat} {vss : List (List D)} {tab : Tab} (ht : TabLt tab n) : ∀ (m : Nat) {s : Rch}, RchOk n s → muR n s ≤ m → (reachR vss tab m s).todo = []
  | 0, s, h, hm => by
    have : s.todo.length = 0 := by unfold muR at hm; omega
    exact List.length_eq_zero_iff.mp this
  | m + 1, s, h, hm => by
    show (if s.todo.isEmpty then s else _).todo = []
    split
    · rename_i hc; exact List.isEmpty_iff.mp hc
    · rename_i hc
      have hc : s.todo ≠ [] := fun z => hc (by rw [z]; rfl)
      exact reach_ends ht m (step_ok h ht) (by have := step_mu (vss := vss) h ht hc; omega)
theorem reach_ok {n : Nat} {vss : List (List D)} {tab : Tab} (ht : TabLt tab n) : ∀ (m : Nat) {s : Rch}, RchOk n s → RchOk n (reachR vss tab m s)
  | 0, s, h => h
  | m + 1, s, h => by
    show RchOk n (if s.todo.isEmpty then s else _)
    split
    · exact h
    · exact reach_ok ht m (step_ok h ht)
theorem app_lt {tab : Tab} {n : Nat} {d : D} {p : Nat} (h : TabLt tab n) (hp : p < n) : TabLt (hd1 p tab d) n := by
  intro q hq x hx
  unfold hd1 appK at hq
  obtain ⟨q0, h0, rfl⟩ := List.mem_map.mp hq
  have h1 : ∀ x ∈ q0.2, x < n := by
    unfold addK at h0
    split at h0
    · exact h q0 h0
    · rcases List.mem_append.mp h0 with h0 | h0
      · exact h q0 h0
      · simp at h0; subst h0; intro x hx; simp at hx
  split at hx
  · rcases List.mem_append.mp hx with hx | hx
    · exact h1 x hx
    · simp at hx; omega
  · exact h1 x hx
theorem row_lt {n p : Nat} (hp : p < n) : ∀ (ds : List D) {tab : Tab}, TabLt tab n → TabLt (hdRow tab p ds) n
  | [], tab, h => h
  | d :: ds, tab, h => row_lt hp ds (app_lt h hp)
theorem up_lt {vss : List (List D)} {n : Nat} : ∀ i, i ≤ n → TabLt (hdUp vss i) n
  | 0, _ => fun p hp => by simp [hdUp] at hp
  | i + 1, h => row_lt (by omega) _ (up_lt i (by omega))
theorem hasV_hd1 {tab : Tab} {d e : D} {p : Nat} (h : hasV tab d = true) : hasV (hd1 p tab e) d = true := by
  unfold hasV at *
  rw [List.any_eq_true] at *
  obtain ⟨q, hq, hd⟩ := h
  have hq2 : q ∈ addK tab e := by
    unfold addK
    split
    · exact hq
    · exact List.mem_append_left _ hq
  unfold hd1 appK
  by_cases c : nkD q.1 = nkD e
  · exact ⟨(q.1, q.2 ++ [p]), List.mem_map.mpr ⟨q, hq2, by rw [if_pos c]⟩, hd⟩
  · exact ⟨q, List.mem_map.mpr ⟨q, hq2, by rw [if_neg c]⟩, hd⟩
theorem hasV_self {tab : Tab} {d : D} {p : Nat} : hasV (hd1 p tab d) d = true := by
  have h := hasV_add (tab := tab) (d := d)
  unfold hasV at *
  rw [List.any_eq_true] at *
  obtain ⟨q, hq, hd⟩ := h
  unfold hd1 appK
  exact ⟨(q.1, q.2 ++ [p]), List.mem_map.mpr ⟨q, hq, by rw [if_pos (of_decide_eq_true hd)]⟩, hd⟩
theorem hasV_row {d : D} {p : Nat} : ∀ (ds : List D) {tab : Tab}, hasV tab d = true → hasV (hdRow tab p ds) d = true
  | [], tab, h => h
  | e :: ds, tab, h => hasV_row ds (hasV_hd1 h)
theorem hasV_rowm {d : D} {p : Nat} : ∀ (ds : List D) {tab : Tab}, d ∈ ds → hasV (hdRow tab p ds) d = true
  | e :: ds, tab, h => by
    rcases List.mem_cons.mp h with h | h
    · subst h; exact hasV_row ds hasV_self
    · exact hasV_rowm ds h
theorem hasV_up {vss : List (List D)} {d : D} {i : Nat} {row : List D} (hr : vss[i]? = some row) (hd : d ∈ row) : ∀ n, i < n → hasV (hdUp vss n) d = true
  | 0, h => by omega
  | n + 1, h => by
    show hasV (hdRow (hdUp vss n) n (vss.getD n [])) d = true
    by_cases c : i = n
    · subst c
      rw [List.getD_eq_getElem?_getD, hr]
      exact hasV_rowm _ hd
    · exact hasV_row _ (hasV_up hr hd n (by omega))
theorem hasV_all {vss : List (List D)} : ∀ row ∈ vss, ∀ d ∈ row, hasV (hdUp vss vss.length) d = true := fun row hr d hd => by
  obtain ⟨i, hi⟩ := List.getElem?_of_mem hr
  exact hasV_up hi hd _ (List.getElem?_eq_some_iff.mp hi).1
structure Cl where
  groups : List (List Int)
  seen : List Nat
def natI (l : List Nat) : List Int := l.map fun (n : Nat) => (n : Int)
def turnR (vss : List (List D)) (seen : List Nat) (p : Nat) : Rch := reachR vss (hdUp vss vss.length) (2 * vss.length + 2) ⟨seen ++ [p], [p], [p]⟩
def clTurn (vss : List (List D)) (c : Cl) (p : Nat) : Cl := if c.seen.contains p then c else ⟨c.groups ++ [sortI (natI (turnR vss c.seen p).found)], (turnR vss c.seen p).seen⟩
def clGo (vss : List (List D)) (k : Nat) : Cl := (List.range k).foldl (clTurn vss) ⟨[], []⟩
theorem clGo_succ {vss : List (List D)} {k : Nat} : clGo vss (k + 1) = clTurn vss (clGo vss k) k := by
  unfold clGo
  rw [List.range_succ, List.foldl_append]; rfl
structure ClOk1 (n : Nat) (c : Cl) : Prop where
  nd : c.seen.Nodup
  lt : ∀ x ∈ c.seen, x < n
theorem start_r {n : Nat} {seen : List Nat} {p : Nat} (nd : seen.Nodup) (lt : ∀ x ∈ seen, x < n) (hp : p < n) (hc : seen.contains p = false) : RchOk n ⟨seen ++ [p], [p], [p]⟩ := by
  have hc : p ∉ seen := fun z => by
    have := List.contains_iff_mem.mpr z
    rw [hc] at this; cases this
  refine ⟨List.nodup_append.mpr ⟨nd, by simp, fun x hx y hy => by simp at hy; subst hy; exact fun z => hc (z ▸ hx)⟩, fun x hx => ?_, by simp, by simp, fun x hx => List.mem_append_right _ hx⟩
  rcases List.mem_append.mp hx with hx | hx
  · exact lt x hx
  · simp at hx; omega
theorem start_ends {vss : List (List D)} {seen : List Nat} {p : Nat} (h : RchOk vss.length ⟨seen ++ [p], [p], [p]⟩) : (turnR vss seen p).todo = [] ∧ RchOk vss.length (turnR vss seen p) := by
  have ht : TabLt (hdUp vss vss.length) vss.length := up_lt _ (Nat.le_refl _)
  exact ⟨reach_ends ht _ h (by unfold muR; simp only [List.length_cons, List.length_nil]; omega), reach_ok ht _ h⟩
theorem clTurn_ok {vss : List (List D)} {c : Cl} {p : Nat} (h : ClOk1 vss.length c) (hp : p < vss.length) : ClOk1 vss.length (clTurn vss c p) := by
  unfold clTurn
  split
  · exact h
  · rename_i hc
    have := (start_ends (start_r h.nd h.lt hp (by simpa using hc))).2
    exact ⟨this.nd, this.lt⟩
theorem clGo_ok {vss : List (List D)} : ∀ k, k ≤ vss.length → ClOk1 vss.length (clGo vss k)
  | 0, _ => ⟨List.nodup_nil, fun x hx => by simp [clGo] at hx⟩
  | k + 1, h => by rw [clGo_succ]; exact clTurn_ok (clGo_ok k (by omega)) (by omega)
def clD (vss : List (List D)) : D := .lst ((clGo vss vss.length).groups.map fun g => .lst (g.map .int))
end DD
set_option Elab.async false
set_option linter.all false
set_option maxRecDepth 100000
set_option maxHeartbeats 4000000
namespace DD
open PySem L2 PyProof.Rows RZ
section
variable [Tb : Tbl] {P : Program} {w : World} {K : PySem.W.Frag} {mg : Str → Option Value} {base : Heap}
def spW (K : PySem.W.Frag) (n : Nat) (F : List D → Option D) : Sp := fun vs H Q _ => ∃ ds d, F ds = some d ∧ ds.length = n ∧ Rps K (fun _ => True) H ds vs ∧ LamX.Tabs Tb.T H ∧ ∀ v H', Ext H H' → Rp K (fun _ => True) H' d v → Q v H'
noncomputable def runW (Γ : Gam) (n : Nat) (b : CSs) (ds : List D) : Option D := outR (exs Γ true b (ds.map (fun d => some (.sh d)) ++ List.replicate (n - ds.length) none))
theorem fn_okW {x qual : Str} {st : Stmt} {f : Addr} {fd : FuncData} {N ps : List Str} {k : Nat} {Γ : Gam} {b : CSs} (F : Fun K x qual st f fd) (S : FnScope N ps (defScope st)) (G : GamOk P w K mg base k Γ)
    (hl : ps.length ≤ N.length) (h : chkSs Γ (defScope st) N b (defBody st) = true) (he : Γ.ex.lm = []) : FnOk P w K mg base CX0 (k + 1) f fd ps (spW K ps.length (runW Γ N.length b)) := by
  refine Fun.okC F S (fun vs H Q E hh => ?_) (fun A outer s H vs Q E hr hh => ?_)
  · obtain ⟨ds, d, _, hn, r, _⟩ := hh
    rw [← r.length, hn]
  · obtain ⟨ds, d, hf, hn, r, hT, q⟩ := hh
    have C : Ctx true (cxOf CX0 P w K mg base N qual (defScope st) f fd.code A outer s H E).nox Γ := GamOk.ctx (k := k) G hr S.nd rfl (fun _ hne => absurd he hne)
    refine ⟨_, sss (m := true) (pn := []) b _ (pinSs_none b) C PassesOwn.never S.kind (fun _ => rfl) (defBody st) h, ?_⟩
    unfold runW at hf
    cases e1 : exs Γ true b (ds.map (fun d => some (.sh d)) ++ List.replicate (N.length - ds.length) none) with
    | none => rw [e1] at hf; cases hf
    | some out =>
    have hvs : vs.length = ds.length := r.length.symm
    let B : Bs := ⟨fun _ => True, fun _ => True, H, []⟩
    have nown : ∀ a, ¬ Own (ds.map (fun d => some (Sl.sh d)) ++ List.replicate (N.length - ds.length) none) (L2.start N vs) a := by
      rintro a ⟨i, e, g1, g2⟩
      obtain ⟨_, z, _⟩ := rps_start r g1
      cases z
    have r' : Rps K (Nsh B (ds.map (fun d => some (Sl.sh d)) ++ List.replicate (N.length - ds.length) none) (L2.start N vs)) H ds vs := Rps.imp (fun a _ _ _ => ⟨trivial, nown a⟩) r
    have S0 : StOk K B (ds.map (fun d => some (Sl.sh d)) ++ List.replicate (N.length - ds.length) none) (L2.start N vs) H := by
      refine ⟨by unfold L2.start; simp [hvs], Ext.refl H, fun a ha => ⟨trivial, trivial⟩, fun i e g => ?_, fun i e g => ?_, fun i j e e' a g1 g2 g3 g4 => ?_, fun i a g => ?_, hT, fun i v g => ?_⟩
      · obtain ⟨d', z, v, g1, g2⟩ := rps_start r' g
        cases z
        exact ⟨v, by unfold L2.start; rw [hvs]; exact g1, g2⟩
      · obtain ⟨_, z, _⟩ := rps_start r g
        cases z
      · exact absurd ⟨i, e, g1, g3⟩ (nown a)
      · cases g
      · obtain ⟨_, z, _⟩ := rps_start r g
        cases z
    refine ⟨B, _, out, e1, S0, ⟨fun _ _ _ => trivial, fun _ _ g => by cases g⟩, ?_⟩
    rw [e1] at hf
    cases out with
    | rp ρ' i => cases hf
    | rq ρ' i => cases hf
    | nx ρ' =>
      cases hf
      exact fun σ' H' S' => q .non H' S'.keep (by simp only [Rp])
    | rt d' =>
      cases hf
      exact fun v H' k => q v H' k.keep (Rp.imp (fun _ _ _ _ => trivial) (Sep.rp k.val))
variable {H H' H0 : Hp} {sa fa ha p : Addr} {tab : Tab} {ls : List Addr}
theorem Rp.extB {kvs : List (Key × V)} {d : D} {v : V} (e : ExtB sa H H') (hs : H sa = some (.dK kvs)) (r : Rp K (fun a => a ≠ sa ∧ a ≠ fa) H d v) : Rp K (fun a => a ≠ sa ∧ a ≠ fa) H' d v := by
  refine Rp.keep (fun a xs h => ?_) (fun a xs h => ?_) (fun a od u h => e.frz hs trivial h) (fun a C dx fs h => ?_) (fun a o m n h => ⟨n, e.to a o n.1 h m.notbl⟩) d v r
  · rcases h with (h | ⟨ob, h⟩) | h
    · exact .inl (.inl (e.tup hs trivial h))
    · exact .inl (.inr ⟨ob, e.frz hs trivial h⟩)
    · exact .inr h
  · rcases h with ⟨ob, h⟩ | h
    · exact .inl ⟨ob, e.frz hs trivial h⟩
    · exact .inr h
  · exact e.to a _ (fun z => by rw [z, hs] at h; cases h) h (fun _ z => by cases z)
theorem HdR.mutL {xs : List V} {o' : HO} (h : HdR P w K H ha tab ls) (hp : H p = some (.lst xs)) (hn : p ∉ ls) : HdR P w K (upd H p o') ha tab ls :=
  ⟨h.nd.mut hp trivial, h.len, fun j q l a b => by rw [upd_ne (fun z => hn (by rw [← z]; exact List.mem_of_getElem? b))]; exact h.cell j q l a b, h.keys⟩
/-- the lists of a list -/
def GrpAt (H0 H : Hp) (sa fa : Addr) (gs : List (List Int)) (rs : List Addr) : Prop := Paired (fun (g : List Int) (r : Addr) => H r = some (.lst (g.map V.int)) ∧ H0 r = none ∧ r ≠ sa ∧ r ≠ fa) gs rs
theorem GrpAt.imp {H1 : Hp} {gs : List (List Int)} {rs : List Addr} (h : GrpAt H0 H sa fa gs rs) (k : ∀ r g, r ≠ sa → r ≠ fa → H r = some (.lst g) → H1 r = some (.lst g)) : GrpAt H0 H1 sa fa gs rs :=
  Paired.mapP h fun g r ⟨q1, q2, q3, q4⟩ => ⟨k r _ q3 q4 q1, q2, q3, q4⟩
theorem GrpAt.rps {gs : List (List Int)} {rs : List Addr} (h : GrpAt H0 H sa fa gs rs) : Rps K (fun a => H0 a = none ∧ a ≠ fa) H (gs.map fun g => .lst (g.map .int)) (rs.map .ref) := by
  unfold GrpAt at h
  induction h with
  | nil => exact Rps.nil
  | cons q _ ih =>
    refine Rps.cons ?_ ih
    simp only [Rp]
    exact ⟨_, _, rfl, ⟨q.2.1, q.2.2.2⟩, q.1, Rps.of_ints _⟩
abbrev NCl : List Str := ["runs", "rounds", "views", "holders", "seen", "found", "place"]
noncomputable def clF (RA : List D → Option D) : List D → Option D
  | [.lst rds, r] => open Classical in match RA [.lst rds, r] with
    | some v => if h : ∃ vss : List (List D), v = .lst (vss.map .lst) ∧ VwsOk vss ∧ vss.length = rds.length then some (clD h.choose) else none
    | none => none
  | _ => none
theorem lst_inj0 : ∀ {vss wss : List (List D)}, vss.map D.lst = wss.map D.lst → vss = wss
  | [], [], _ => rfl
  | [], w :: wss, h => by simp at h
  | v :: vss, [], h => by simp at h
  | v :: vss, w :: wss, h => by
    simp only [List.map_cons, List.cons.injEq, D.lst.injEq] at h
    rw [h.1, lst_inj0 h.2]
theorem lst_inj {vss wss : List (List D)} (h : D.lst (vss.map .lst) = .lst (wss.map .lst)) : vss = wss := lst_inj0 (by simpa using h)
theorem clGo_len {vss : List (List D)} : ∀ k, (clGo vss k).groups.length ≤ k
  | 0 => Nat.le_refl _
  | k + 1 => by
    have := clGo_len (vss := vss) k
    rw [clGo_succ]
    unfold clTurn
    split
    · omega
    · simp; omega
theorem Ext.extB {H1 H2 H3 : Hp} {a : Addr} (e : Ext H1 H2) (x : ExtB a H2 H3) (hn : H1 a = none) : Ext H1 H3 :=
  ⟨fun b o h nt => x.to b o (fun z => by rw [z, hn] at h; cases h) (e.to b o h nt) nt, fun h => x.tab (e.tab h), fun b h => e.dom b (x.dom b h)⟩
theorem clF_of {RA : List D → Option D} {rds : List D} {r : D} {vss : List (List D)} (h : RA [.lst rds, r] = some (.lst (vss.map .lst))) (ok : VwsOk vss) (hl : vss.length = rds.length) : clF RA [.lst rds, r] = some (clD vss) := by
  have hx : ∃ wss : List (List D), D.lst (vss.map .lst) = .lst (wss.map .lst) ∧ VwsOk wss ∧ wss.length = rds.length := ⟨vss, rfl, ok, hl⟩
  simp only [clF, h]
  rw [dif_pos hx, ← lst_inj hx.choose_spec.1]
theorem of_clF {RA : List D → Option D} {ds : List D} {d : D} (h : clF RA ds = some d) : ∃ rds r vss, ds = [.lst rds, r] ∧ RA [.lst rds, r] = some (.lst (vss.map .lst)) ∧ VwsOk vss ∧ vss.length = rds.length ∧ d = clD vss := by
  unfold clF at h
  split at h
  · rename_i rds r
    split at h
    · rename_i v hv
      split at h
      · rename_i hx
        obtain ⟨h1, h2, h3⟩ := hx.choose_spec
        cases h
        exact ⟨rds, r, _, rfl, by rw [hv]; exact congrArg some h1, h2, h3, rfl⟩
      · cases h
    · cases h
  · cases h
theorem ok_classes {st : Stmt} {f fA fH fR : Addr} {fd fdA fdH fdR : FuncData} {x qual : Str} {k : Nat} {RA : List D → Option D} (F : Fun K x qual st f fd) (S : FnScope NCl ["runs", "rounds"] (defScope st)) (hblt : ∀ x ∈ bltNames, mg x = none)
    {nA nH nR : Str} (FA : FnOk P w K mg base CX0 k fA fdA ["runs", "rounds"] (spW K 2 RA)) (FH : FnOk P w K mg base CX0 k fH fdH ["views"] (spHold P w K)) (FR : FnOk P w K mg base CX0 k fR fdR ["place", "views", "holders", "seen"] (spReach P w K))
    (mA : mg nA = some (.ref fA)) (mH : mg nH = some (.ref fH)) (mR : mg nR = some (.ref fR)) (kA : PySem.W.keepIn K (.ref fA) = true) (kH : PySem.W.keepIn K (.ref fH) = true) (kR : PySem.W.keepIn K (.ref fR) = true)
    (bA : Binds K fdA ["runs", "rounds"] []) (bH : Binds K fdH ["views"] []) (bR : Binds K fdR ["place", "views", "holders", "seen"] [])
    (dA : (nA == ("__debug__" : Str)) = false) (dH : (nH == ("__debug__" : Str)) = false) (dR : (nR == ("__debug__" : Str)) = false)
    {n1 n2 n3 n4 n5 n6 n7 n8 n9 n10 n11 n12 n13 n14 n15 n16 : Str} {tg : Expr}
    {a1 a2 a3 a4 a5 a6 a7 a8 a9 a10 a11 a12 a13 a14 a15 a16 a17 a18 a19 a20 a21 a22 a23 a24 a25 a26 a27 a28 a29 a30 a31 a32 a33 a34 a35 a36 a37 a38 a39 a40 a41 : Pos}
    (hb : defBody st = [.Assign [.Name n1 a1] (.Call (.Name nA a2) [.Name n2 a3, .Name n3 a4] [] a5) a6, .Assign [.Name n4 a7] (.Call (.Name nH a8) [.Name n5 a9] [] a10) a11, .Assign [.Name n6 a12] (.Dict [] [] a13) a14, .Assign [.Name n7 a15] (.List [] a16) a17,
      .For tg (.Call (.Name "range" a18) [.Call (.Name "len" a19) [.Name n8 a20] [] a21] [] a22)
        [.If (.Compare (.Name n9 a23) [.NotIn] [.Name n10 a24] a25) [.Expr (.Call (.Attribute (.Name n11 a26) "append" a27) [.Call (.Name "sorted" a28) [.Call (.Name nR a29) [.Name n12 a30, .Name n13 a31, .Name n14 a32, .Name n15 a33] [] a34] [] a35] [] a36) a37] [] a38] [] a39,
      .Return (some (.Name n16 a40)) a41])
    (gA : gloB (defScope st) nA = true) (gH : gloB (defScope st) nH = true) (gR : gloB (defScope st) nR = true) (gr : gloB (defScope st) "range" = true) (gl : gloB (defScope st) "len" = true) (gs : gloB (defScope st) "sorted" = true) (t1 : chkTg true (defScope st) NCl (.nm 6) tg = true)
    (d1 : dstB (defScope st) NCl 2 n1 = true) (v2 : varB (defScope st) NCl 0 n2 = true) (v3 : varB (defScope st) NCl 1 n3 = true) (d4 : dstB (defScope st) NCl 3 n4 = true) (v5 : varB (defScope st) NCl 2 n5 = true) (d6 : dstB (defScope st) NCl 4 n6 = true) (d7 : dstB (defScope st) NCl 5 n7 = true)
    (v8 : varB (defScope st) NCl 0 n8 = true) (v9 : varB (defScope st) NCl 6 n9 = true) (v10 : varB (defScope st) NCl 4 n10 = true) (v11 : varB (defScope st) NCl 5 n11 = true) (v12 : varB (defScope st) NCl 6 n12 = true) (v13 : varB (defScope st) NCl 2 n13 = true) (v14 : varB (defScope st) NCl 3 n14 = true)
    (v15 : varB (defScope st) NCl 4 n15 = true) (v16 : varB (defScope st) NCl 5 n16 = true) (hl : (a27.endLine == a36.line) = true) :
    FnOk P w K mg base CX0 (k + 1) f fd ["runs", "rounds"] (spD K 2 (clF RA)) := by
  refine Fun.okC F S (fun vs H Q E hh => ?_) (fun A outer s H vs Q E hr hh => ?_)
  · obtain ⟨ds, d, _, hn, r, _⟩ := hh
    rw [← r.length, hn]; rfl
  obtain ⟨ds, d, hF, hn, r, hT, kq⟩ := hh
  obtain ⟨rds, rd, vss, rfl, hRA, ok, hlen, rfl⟩ := of_clF hF
  have hu : (cxOf CX0 P w K mg base NCl qual (defScope st) f fd.code A outer s H E).nox.A.units + 66 < cLine := by
    refine Nat.lt_of_le_of_lt (Nat.add_le_add_left (show 66 ≤ 16 * k + 200 by omega) _) ?_
    have := hr.un
    rw [Nat.add_assoc] at this
    exact this
  have hu1 : (cxOf CX0 P w K mg base NCl qual (defScope st) f fd.code A outer s H E).nox.A.units + 1 < cLine := by omega
  have GA := gl_of (X := (cxOf CX0 P w K mg base NCl qual (defScope st) f fd.code A outer s H E).nox) rfl gA
  have GH := gl_of (X := (cxOf CX0 P w K mg base NCl qual (defScope st) f fd.code A outer s H E).nox) rfl gH
  have GR := gl_of (X := (cxOf CX0 P w K mg base NCl qual (defScope st) f fd.code A outer s H E).nox) rfl gR
  have Gr := gl_of (X := (cxOf CX0 P w K mg base NCl qual (defScope st) f fd.code A outer s H E).nox) rfl gr
  have Gl' := gl_of (X := (cxOf CX0 P w K mg base NCl qual (defScope st) f fd.code A outer s H E).nox) rfl gl
  have Gs := gl_of (X := (cxOf CX0 P w K mg base NCl qual (defScope st) f fd.code A outer s H E).nox) rfl gs
  have mr : (cxOf CX0 P w K mg base NCl qual (defScope st) f fd.code A outer s H E).nox.mg "range" = none := hblt _ (by simp [bltNames])
  have ml : (cxOf CX0 P w K mg base NCl qual (defScope st) f fd.code A outer s H E).nox.mg "len" = none := hblt _ (by simp [bltNames])
  have ms : (cxOf CX0 P w K mg base NCl qual (defScope st) f fd.code A outer s H E).nox.mg "sorted" = none := hblt _ (by simp [bltNames])
  have D1 := d1
  have D4 := d4
  have D6 := d6
  have D7 := d7
  simp only [dstB, Bool.and_eq_true] at D1 D4 D6 D7
  rw [hb]
  refine ⟨_, pss_cons (ps_set (i := 2) S.nd (nameAt_of D1.1) (dstK_of D1.2).1 (pe_call (E := fun _ _ _ => False) FA hr GA.1 mA kA bA .nil pass0 (pa_cons (pv_of v2) (pa_cons (pv_of v3) pa_nil)) dA) rfl (.inl rfl))
    (pss_cons (ps_set (i := 3) S.nd (nameAt_of D4.1) (dstK_of D4.2).1 (pe_call (E := fun _ _ _ => False) FH hr GH.1 mH kH bH .nil pass0 (pa_cons (pv_of v5) pa_nil) dH) rfl (.inl rfl))
      (pss_cons (ps_set (i := 4) S.nd (nameAt_of D6.1) (dstK_of D6.2).1 pe_dnewK rfl (.inl rfl)) (pss_cons (ps_set (i := 5) S.nd (nameAt_of D7.1) (dstK_of D7.2).1 (pe_lst pa_nil) rfl (.inl rfl))
        (pss_cons (ps_for PassesOwn.never rfl (pi_range1 Gr.1 mr (pa_cons (pe_callB call_len_seq Gl'.1 ml boot_len (pa_cons (pv_of v8) pa_nil)) pa_nil)) (pg_of (b := true) rfl S.nd (fun _ _ => rfl) rfl t1)
          (pss_one (ps_if (pt_cmp (pc_dnotin hu1 (pv_of v9) (pv_of v10)) rfl)
            (pss_one (ps_expr (pe_bm PySem.F.plainAttrs_list PySem.F.slot_list_append PySem.F.type_list_append mt_append (pv_of v11) (pa_cons (pe_callB cr_sortedI Gs.1 ms boot_sorted (pa_cons (pe_call (E := fun _ _ _ => False) FR hr GR.1 mR kR bR .nil pass0 (pa_cons (pv_of v12) (pa_cons (pv_of v13) (pa_cons (pv_of v14) (pa_cons (pv_of v15) pa_nil)))) dR) pa_nil)) pa_nil) rfl rfl hl rfl rfl))) pss_nil)) (fun _ => rfl))
          (pss_one (ps_ret (pv_of v16))))))), ?_⟩
  have r0 := r
  simp only [Rps, Rp] at r
  obtain ⟨_, _, rfl, ⟨ra, rvs, rfl, _, hra, hrr⟩, vr, _, rfl, hvr, rfl⟩ := r
  have big : 1001 < sizeLine := by decide
  have few := ok.few
  refine ⟨.ref ra, rfl, vr, rfl, [.lst rds, rd], _, hRA, rfl, r0, hT, fun vv H1 e1 rv => ?_⟩
  have rv0 := rv
  simp only [Rp] at rv
  obtain ⟨va, vws, rfl, _, hva, hrows⟩ := rv
  refine ⟨.ref va, rfl, va, vss, rfl, rv0, ok, e1.tab hT, fun ha ls H2 e2 hd => ?_⟩
  intro sa hsa
  refine ⟨Nat.zero_le _, fun fa hfa => ?_⟩
  have hfa2 : H2 fa = none := upd_none hfa
  have e02 : Ext H H2 := e1.trans e2
  have hs0 : H sa = none := e02.back hsa
  have hf0 : H fa = none := e02.back hfa2
  have nsf : fa ≠ sa := fun z => by rw [z, upd_same] at hfa; cases hfa
  have e24 : Ext H2 (upd (upd H2 sa (.dK [])) fa (.lst [])) := (Ext.new hsa).trans (Ext.new hfa)
  have V0 : Rp K (fun a => a ≠ sa ∧ a ≠ fa) (upd (upd H2 sa (.dK [])) fa (.lst [])) (.lst (vss.map .lst)) (.ref va) :=
    (Rp.imp (fun a o h _ => ⟨(fun z => by rw [z, hsa] at h; cases h), (fun z => by rw [z, hfa2] at h; cases h)⟩) (rv0.ext e2)).ext e24
  have D0 : HdR P w K (upd (upd H2 sa (.dK [])) fa (.lst [])) ha (hdUp vss vss.length) ls := hd.rd.ext e24
  have nfl : fa ∉ ls := fun z => by
    obtain ⟨j, hj⟩ := List.getElem?_of_mem z
    have hlt : j < (hdUp vss vss.length).length := by rw [hd.len]; exact (List.getElem?_eq_some_iff.mp hj).1
    have := hd.cell j _ fa (List.getElem?_eq_getElem hlt) hj
    rw [hfa2] at this; cases this
  have htl : TabLt (hdUp vss vss.length) vss.length := up_lt _ (Nat.le_refl _)
  have hlv : rvs.length = vss.length := by rw [← hrr.length, hlen]
  have e04 := e02.trans e24
  refine ⟨.ref ra, rfl, ra, rvs, rfl, .inl (SqL.of (e04.lst hra)), (rvs.length : Int), rfl, by omega, by omega, ?_⟩
  rw [Int.toNat_natCast, hlv]
  refine for_it walk_range (fun i σ' H' => ∃ rs p, Ext H H' ∧ H' sa = some (.dK (seenK (clGo vss i).seen)) ∧ H' fa = some (.lst (rs.map .ref)) ∧ GrpAt H H' sa fa (clGo vss i).groups rs ∧
    Rp K (fun a => a ≠ sa ∧ a ≠ fa) H' (.lst (vss.map .lst)) (.ref va) ∧ HdR P w K H' ha (hdUp vss vss.length) ls ∧ σ' = [some (.ref ra), some vr, some (.ref va), some (.ref ha), some (.ref sa), some (.ref fa), p])
    ⟨[], none, e04, by rw [upd_ne (Ne.symm nsf), upd_same]; rfl, upd_same, .nil, V0, D0, rfl⟩ (fun _ _ _ _ _ => trivial) ?_ ?_
  · rintro i y σ' H' H'' hi ⟨rs, p0, e4, s4, f4, g4, V4, D4, rfl⟩ ⟨rfl, rfl⟩
    have cok := clGo_ok (vss := vss) i (by omega)
    rw [clGo_succ]
    have gl := clGo_len (vss := vss) i
    have hrl : (clGo vss i).groups.length = rs.length := Paired.length g4
    generalize clGo vss i = c at *
    have hz : (0 : Int) + (i : Int) = (i : Int) := by omega
    dsimp only
    rw [hz]
    refine ⟨.int i, rfl, .ref sa, rfl, sa, _, rfl, DGet.k (k := .inl (i : Int)) s4, _, rfl, ?_⟩
    rw [seenK_val]
    cases hc : c.seen.contains i with
    | true =>
      refine iteF ?_
      have : clTurn vss c i = c := by unfold clTurn; rw [if_pos hc]
      rw [this]
      exact ⟨rs, _, e4, s4, f4, g4, V4, D4, rfl⟩
    | false =>
      refine iteT ?_
      have ec : clTurn vss c i = ⟨c.groups ++ [sortI (natI (turnR vss c.seen i).found)], (turnR vss c.seen i).seen⟩ := by unfold clTurn; rw [if_neg (by rw [hc]; exact Bool.false_ne_true)]
      rw [ec]
      have ok0 := start_r cok.nd cok.lt hi hc
      have ends := start_ends ok0
      refine ⟨.ref fa, rfl, .inl ⟨rfl, _, SqL.of f4⟩, ?_⟩
      refine ⟨.int i, rfl, .ref va, rfl, .ref ha, rfl, .ref sa, rfl, ?_⟩
      refine ⟨i, va, ha, sa, vss, hdUp vss vss.length, ls, c.seen, 2 * vss.length + 2, turnR vss c.seen i, rfl, Rp.imp (fun _ _ _ _ => trivial) V4, ok, D4, htl, hasV_all, s4, hc, ok0, rfl, ends.1, e4.tab hT, fun fa2 H5 x5 n5 f5 s5 => ?_⟩
      refine ⟨fa2, natI (turnR vss c.seen i).found, rfl, SqL.of (by rw [f5]; unfold intV natI; rw [List.map_map]; rfl), fun ns' q hperm hpw hq => ?_⟩
      have es : ns' = sortI (natI (turnR vss c.seen i).found) := sort_unique hperm hpw
      subst es
      have e5 : Ext H H5 := e4.extB x5 hs0
      have f5' : H5 fa = some (.lst (rs.map .ref)) := x5.to fa _ nsf f4 (fun _ z => by cases z)
      have f6 : upd H5 q (.lst ((sortI (natI (turnR vss c.seen i).found)).map V.int)) fa = some (.lst (rs.map .ref)) := by
        rw [upd_ne (fun z => by rw [z, hq] at f5'; cases f5')]; exact f5'
      refine ⟨fa, rs.map .ref, .ref q, rfl, rfl, f6, by rw [List.length_map]; omega, ?_⟩
      have nqs : q ≠ sa := fun z => by rw [z, s5] at hq; cases hq
      have nqf : q ≠ fa := fun z => by rw [z, f5'] at hq; cases hq
      refine ⟨rs ++ [q], _, (e5.trans (Ext.new hq)).mut hf0 f6 trivial, ?_, ?_, ?_, ?_, ?_, rfl⟩
      · rw [upd_ne (Ne.symm nsf), upd_ne (Ne.symm nqs)]; exact s5
      · rw [upd_same, List.map_append]; rfl
      · refine Paired.snoc (g4.imp fun r g h1 h2 h3 => ?_) ⟨?_, e5.back hq, nqs, nqf⟩
        · rw [upd_ne h2, upd_ne (fun z => ?_)]
          · exact x5.to r _ h1 h3 (fun _ z => by cases z)
          · have := x5.to r _ h1 h3 (fun _ z => by cases z)
            rw [z, hq] at this; cases this
        · rw [upd_ne nqf, upd_same]
      · exact ((V4.extB x5 s4).ext (Ext.new hq)).mut f6 trivial fun a o _ n => n.2
      · exact ((D4.extB x5 s4).ext (Ext.new hq)).mutL f6 nfl
  · rintro σ' H' ⟨rs, p0, e4, s4, f4, g4, V4, D4, rfl⟩
    refine ⟨.ref fa, rfl, kq (.ref fa) H' e4 ?_⟩
    exact ⟨fa, rs.map .ref, rfl, hf0, f4, g4.rps⟩
end
end DD
set_option Elab.async false
set_option linter.all false
set_option maxRecDepth 100000
set_option maxHeartbeats 4000000
namespace DD
open PySem L2 PyProof.Rows RZ
def shpHold (sc : Scope) (ts : List Stmt) : Bool := match ts with
  | [.Assign [.Name xh _] (.Dict [] [] _) _, .For tg1 (.Call (.Name rg _) [.Call (.Name ln _) [.Name xv _] [] _] [] _) [.For tg2 (.Subscript (.Name xv2 _) (.Name xp _) _)
      [.If (.Compare (.Name xw _) [.NotIn] [.Name xh2 _] _) [.Assign [.Subscript (.Name xh3 _) (.Name xw2 _) _] (.List [] _) _] [] _,
       .Expr (.Call (.Attribute (.Subscript (.Name xh4 _) (.Name xw3 _) _) ap a24) [.Name xp2 _] [] a26) _] [] _] [] _, .Return (some (.Name xh5 _)) _] =>
    decide (rg = "range") && decide (ln = "len") && decide (ap = "append") && dstB sc NHo 1 xh && gloB sc rg && gloB sc ln && chkTg true sc NHo (.nm 2) tg1 && chkTg true sc NHo (.nm 3) tg2 && varB sc NHo 0 xv && varB sc NHo 0 xv2 && varB sc NHo 2 xp && varB sc NHo 3 xw && varB sc NHo 1 xh2 && varB sc NHo 1 xh3 && varB sc NHo 3 xw2 &&
    varB sc NHo 1 xh4 && varB sc NHo 3 xw3 && varB sc NHo 2 xp2 && varB sc NHo 1 xh5 && (a24.endLine == a26.line)
  | _ => false
def shpReach (sc : Scope) (ts : List Stmt) : Bool := match ts with
  | [.Assign [.Subscript (.Name n1 _) (.Name n2 _) _] (.Constant (.bool b1) _ _) _, .Assign [.Name n3 _] (.List [.Name n4 _] _) _, .Assign [.Name n5 _] (.List [.Name n6 _] _) _,
      .While (.Compare (.Call (.Name ln _) [.Name n7 _] [] _) [.Gt] [.Constant (.int z) _ _] _)
        [.Assign [.Name n8 _] (.Call (.Attribute (.Name n9 _) pp a21) [] [] a22) _,
         .For tg1 (.Subscript (.Name n10 _) (.Name n11 _) _)
          [.For tg2 (.Subscript (.Name n12 _) (.Name n13 _) _)
            [.If (.Compare (.Name n14 _) [.NotIn] [.Name n15 _] _)
              [.Assign [.Subscript (.Name n16 _) (.Name n17 _) _] (.Constant (.bool b2) _ _) _,
               .Expr (.Call (.Attribute (.Name n18 _) ap1 a39) [.Name n19 _] [] a41) _,
               .Expr (.Call (.Attribute (.Name n20 _) ap2 a44) [.Name n21 _] [] a46) _] [] _] [] _] [] _] [] _,
      .Return (some (.Name n22 _)) _] =>
    decide (ln = "len") && decide (pp = "pop") && decide (ap1 = "append") && decide (ap2 = "append") && b1 && b2 && (z == 0) && decide (n22 = n3) && gloB sc ln && chkTg true sc NRe (.nm 7) tg1 && chkTg true sc NRe (.nm 8) tg2 &&
    varB sc NRe 3 n1 && varB sc NRe 0 n2 && dstB sc NRe 4 n3 && varB sc NRe 4 n3 && varB sc NRe 0 n4 && dstB sc NRe 5 n5 && varB sc NRe 0 n6 && varB sc NRe 5 n7 && dstB sc NRe 6 n8 && varB sc NRe 5 n9 &&
    varB sc NRe 1 n10 && varB sc NRe 6 n11 && varB sc NRe 2 n12 && varB sc NRe 7 n13 && varB sc NRe 8 n14 && varB sc NRe 3 n15 && varB sc NRe 3 n16 && varB sc NRe 8 n17 && varB sc NRe 4 n18 && varB sc NRe 8 n19 && varB sc NRe 5 n20 && varB sc NRe 8 n21 &&
    (a21.endLine == a22.line) && (a39.endLine == a41.line) && (a44.endLine == a46.line)
  | _ => false
def shpCls (sc : Scope) (ts : List Stmt) : Bool := match ts with
  | [.Assign [.Name n1 _] (.Call (.Name nA _) [.Name n2 _, .Name n3 _] [] _) _, .Assign [.Name n4 _] (.Call (.Name nH _) [.Name n5 _] [] _) _, .Assign [.Name n6 _] (.Dict [] [] _) _, .Assign [.Name n7 _] (.List [] _) _,
      .For tg (.Call (.Name rg _) [.Call (.Name ln _) [.Name n8 _] [] _] [] _)
        [.If (.Compare (.Name n9 _) [.NotIn] [.Name n10 _] _) [.Expr (.Call (.Attribute (.Name n11 _) ap a27) [.Call (.Name so _) [.Call (.Name nR _) [.Name n12 _, .Name n13 _, .Name n14 _, .Name n15 _] [] _] [] _] [] a36) _] [] _] [] _,
      .Return (some (.Name n16 _)) _] =>
    decide (rg = "range") && decide (ln = "len") && decide (so = "sorted") && decide (ap = "append") && decide (nA = "all_views") && decide (nH = "holders_of") && decide (nR = "reached_from") &&
    gloB sc nA && gloB sc nH && gloB sc nR && gloB sc rg && gloB sc ln && gloB sc so && chkTg true sc NCl (.nm 6) tg && dstB sc NCl 2 n1 && varB sc NCl 0 n2 && varB sc NCl 1 n3 && dstB sc NCl 3 n4 && varB sc NCl 2 n5 && dstB sc NCl 4 n6 && dstB sc NCl 5 n7 &&
    varB sc NCl 0 n8 && varB sc NCl 6 n9 && varB sc NCl 4 n10 && varB sc NCl 5 n11 && varB sc NCl 6 n12 && varB sc NCl 2 n13 && varB sc NCl 3 n14 && varB sc NCl 4 n15 && varB sc NCl 5 n16 && (a27.endLine == a36.line)
  | _ => false
section
variable [Tb : Tbl] {P : Program} {w : World} {K : PySem.W.Frag} {mg : Str → Option Value} {base : Heap}
theorem shp_hold {st : Stmt} {f : Addr} {fd : FuncData} {x qual : Str} {k : Nat} (F : Fun K x qual st f fd) (S : FnScope NHo ["views"] (defScope st)) (hblt : ∀ x ∈ bltNames, mg x = none) (h : shpHold (defScope st) (defBody st) = true) :
    FnOk P w K mg base CX0 (k + 1) f fd ["views"] (spHold P w K) := by
  unfold shpHold at h
  split at h
  case h_2 => cases h
  rename_i heq
  simp only [Bool.and_eq_true, decide_eq_true_eq] at h
  obtain ⟨⟨⟨⟨⟨⟨⟨⟨⟨⟨⟨⟨⟨⟨⟨⟨⟨⟨⟨rfl, rfl⟩, rfl⟩, h1⟩, h2⟩, h3⟩, h4⟩, h5⟩, h6⟩, h7⟩, h8⟩, h9⟩, h10⟩, h11⟩, h12⟩, h13⟩, h14⟩, h15⟩, h16⟩, h17⟩ := h
  exact ok_hold F S hblt heq h1 h2 h3 h4 h5 h6 h7 h8 h9 h10 h11 h12 h13 h14 h15 h16 h17
theorem shp_reach {st : Stmt} {f : Addr} {fd : FuncData} {x qual : Str} {k : Nat} (F : Fun K x qual st f fd) (S : FnScope NRe ["place", "views", "holders", "seen"] (defScope st)) (hblt : ∀ x ∈ bltNames, mg x = none) (h : shpReach (defScope st) (defBody st) = true) :
    FnOk P w K mg base CX0 (k + 1) f fd ["place", "views", "holders", "seen"] (spReach P w K) := by
  unfold shpReach at h
  split at h
  case h_2 => cases h
  rename_i heq
  simp only [Bool.and_eq_true, decide_eq_true_eq, beq_iff_eq] at h
  obtain ⟨⟨⟨⟨⟨⟨⟨⟨⟨⟨⟨⟨⟨⟨⟨⟨⟨⟨⟨⟨⟨⟨⟨⟨⟨⟨⟨⟨⟨⟨⟨⟨⟨⟨⟨rfl, rfl⟩, rfl⟩, rfl⟩, rfl⟩, rfl⟩, rfl⟩, rfl⟩, h1⟩, h2⟩, h3⟩, h4⟩, h5⟩, h6⟩, h7⟩, h8⟩, h9⟩, h10⟩, h11⟩, h12⟩, h13⟩, h14⟩, h15⟩, h16⟩, h17⟩, h18⟩, h19⟩, h20⟩, h21⟩, h22⟩, h23⟩, h24⟩, h25⟩, l1⟩, l2⟩, l3⟩ := h
  exact ok_reach F S hblt heq h1 h2 h3 h4 h5 h6 h7 h8 h9 h10 h11 h12 h13 h14 h15 h16 h17 h18 h19 h20 h21 h22 h23 h24 h25 (by simpa using l1) (by simpa using l2) (by simpa using l3)
theorem cls_ok {k : Nat} {Γ : Gam} {b : CSs} {N : List Str} (hblt : ∀ x ∈ bltNames, mg x = none) {st stA stH stR : Stmt} (d : DfnE K mg "classes" ["runs", "rounds"] st) (dA : DfnE K mg "all_views" ["runs", "rounds"] stA) (dH : DfnE K mg "holders_of" ["views"] stH) (dR : DfnE K mg "reached_from" ["place", "views", "holders", "seen"] stR)
    (S : FnScope NCl ["runs", "rounds"] (defScope st)) (SA : FnScope N ["runs", "rounds"] (defScope stA)) (SH : FnScope NHo ["views"] (defScope stH)) (SR : FnScope NRe ["place", "views", "holders", "seen"] (defScope stR)) (G : GamOk P w K mg base k Γ) (he : Γ.ex.lm = []) (hN : 2 ≤ N.length)
    (kA : chkSs Γ (defScope stA) N b (defBody stA) = true) (kH : shpHold (defScope stH) (defBody stH) = true) (kR : shpReach (defScope stR) (defBody stR) = true) (h : shpCls (defScope st) (defBody st) = true) :
    FnT P w K mg base (k + 2) "classes" 2 (clF (runW Γ N.length b)) := by
  unfold shpCls at h
  split at h
  case h_2 => cases h
  rename_i heq
  simp only [Bool.and_eq_true, decide_eq_true_eq] at h
  obtain ⟨⟨⟨⟨⟨⟨⟨⟨⟨⟨⟨⟨⟨⟨⟨⟨⟨⟨⟨⟨⟨⟨⟨⟨⟨⟨⟨⟨⟨⟨rfl, rfl⟩, rfl⟩, rfl⟩, rfl⟩, rfl⟩, rfl⟩, g1⟩, g2⟩, g3⟩, g4⟩, g5⟩, g6⟩, h7⟩, h8⟩, h9⟩, h10⟩, h11⟩, h12⟩, h13⟩, h14⟩, h15⟩, h16⟩, h17⟩, h18⟩, h19⟩, h20⟩, h21⟩, h22⟩, h23⟩, h24⟩ := h
  obtain ⟨f, fd, D⟩ := d
  obtain ⟨fA, fdA, DA⟩ := dA
  obtain ⟨fH, fdH, DH⟩ := dH
  obtain ⟨fR, fdR, DR⟩ := dR
  have FA := fn_okW DA.fn SA G hN kA he
  have FH := shp_hold (P := P) (w := w) (base := base) (k := k) DH.fn SH hblt kH
  have FR := shp_reach (P := P) (w := w) (base := base) (k := k) DR.fn SR hblt kR
  exact ⟨f, fd, ["runs", "rounds"], rfl, ok_classes D.fn S hblt FA FH FR DA.loc DH.loc DR.loc DA.fn.kp DH.fn.kp DR.fn.kp DA.bd DH.bd DR.bd (by decide) (by decide) (by decide) heq g1 g2 g3 g4 g5 g6 h7 h8 h9 h10 h11 h12 h13 h14 h15 h16 h17 h18 h19 h20 h21 h22 h23 h24, D.loc, D.fn.kp, D.bd⟩
end
end DD
set_option Elab.async false
set_option linter.all false
set_option maxRecDepth 100000
set_option maxHeartbeats 1000000
namespace DD
open PySem L2 PyProof.Rows RZ
def lrgF (rs : List (Fl × D)) : Option (Fl × D) := match rs with
  | [(_, .int n)] => if decide (0 ≤ n) && decide (n ≤ 1000) then some (.fr, .lst ((List.range n.toNat).map fun (k : Nat) => .int k)) else none
  | _ => none
def lrgM (sc : Scope) (e : Expr) : Option (List Expr) := match e with
  | .Call (.Name f _) [.Call (.Name g _) [a] [] _] [] _ => if decide (f = "list") && gloB sc f && decide (g = "range") && gloB sc g && notStar a then some [a] else none
  | _ => none
theorem lrg_ok [Tb : Tbl] (X : Cx) (O : OpCx X) (e : Expr) (es : List Expr) (fs : List (Rho → Option (Fl × D))) (hm : lrgM X.env.scope e = some es) (hp : PEs X es fs) :
    PE X e (rd X.K fun ρ => (seqF fs ρ).bind lrgF) ∧ PT X e (rdT X.K fun ρ => toB ((seqF fs ρ).bind lrgF)) := by
  unfold lrgM at hm
  split at hm
  case h_2 => cases hm
  rename_i f p1 g p2 a p3 pos
  split at hm
  case isFalse => cases hm
  rename_i hc
  simp only [Bool.and_eq_true, decide_eq_true_eq] at hc
  obtain ⟨⟨⟨⟨rfl, h1⟩, rfl⟩, h2⟩, h3⟩ := hc
  cases hm
  obtain ⟨f, rfl, n1, ha⟩ := hp.one
  have gg := gl_of (X := X) rfl h1
  have gr := gl_of (X := X) rfl h2
  have b0 := prg_1 (pos := p3) (p := p2) gr.1 (O.blt _ (by simp [bltNames])) ha (star_of h3)
  have base := pe_listRg (pos := pos) (p := p1) O.calm gg.1 (O.blt _ (by simp [bltNames])) b0
  have pe : PE X (.Call (.Name "list" p1) [.Call (.Name "range" p2) [a] [] p3] [] pos) (rd X.K fun ρ => (seqF [f] ρ).bind lrgF) := by
    refine pe_le base fun σ H Q hh => ?_
    obtain ⟨B, ρ, fl, d, hf, S, q⟩ := hh
    dsimp only at hf
    rw [seqF1] at hf
    cases e1 : f ρ with
    | none => simp [e1] at hf
    | some x =>
    obtain ⟨fa, da⟩ := x
    simp only [e1, Option.bind_some, Option.map_some, lrgF] at hf
    split at hf
    case h_2 => cases hf
    rename_i fa' z heq
    cases heq
    split at hf
    case isFalse => cases hf
    rename_i hl
    simp only [Bool.and_eq_true, decide_eq_true_eq] at hl
    cases hf
    refine ⟨B, ρ, _, _, e1, S, fun x H1 z1 r1 => ⟨z, r1.int, RgOk.of_le (Int.le_refl 0) (by omega) (by omega) hl.1, fun p hp => q _ _ (z1.trans (Ext.new hp)) ?_⟩⟩
    have e : rgV 0 z = (((List.range z.toNat).map fun (k : Nat) => (k : Int)).map V.int) := by
      unfold rgV
      rw [List.map_map, Int.sub_zero]
      exact List.map_congr_left fun i _ => by simp
    have e2 : ((List.range z.toNat).map fun (k : Nat) => D.int k) = (((List.range z.toNat).map fun (k : Nat) => (k : Int)).map D.int) := by rw [List.map_map]; rfl
    rw [e, e2]
    simp only [Res, Sep]
    exact ⟨p, _, rfl, z1.back hp, upd_same, Rps.of_ints _⟩
  exact ⟨pe, pt_of pe (by intro _; rfl)⟩
def op_lrg : XOp := ⟨lrgM, lrgF, lrg_ok⟩
end DD
set_option Elab.async false
set_option linter.all false
set_option maxRecDepth 100000
set_option maxHeartbeats 4000000
namespace DD
open PySem L2 PySem.Spec PyProof.Rows RZ
/-- the object of a set just made -/
abbrev setO0 (w : World) : Obj := { cls := .type "set", dict := none, data := .set #[] 0 (.fresh 0 0 (!w.params.followText "set-order")) }
section
variable {P : Program} {w : World} {A : Around} {E : Value → Shared → Prop} {s : Shared}
/-- the turn of set's own loop over the list -/
theorem set_upd {R : Result → Shared → Prop} {l : Addr} {items : Array Value} {ns : List Int} {h1 : Heap} (hh : A.in1.handled = none) (hs : h1.get? s.heap.objs.size = some (setO0 w)) (hl : h1.IsList l items) (hi : IntsAre items.toList ns) (hz : items.size = ns.length) (hb : ns.length + 1 < scanBound) (hln : l ≠ h1.objs.size) (hls : s.heap.objs.size ≠ l) (hsz : s.heap.objs.size ≠ h1.objs.size)
    (k : ∀ s' c, Moved (s.heap.objs.size :: [h1.objs.size]) (fun a b => b = a) { s with heap := h1.push { cls := .type "list_iterator", data := .fields #[.ref l, .int 0 0] } } s' → c ≤ ns.length → SetR w s'.heap s.heap.objs.size (fun j => decide (j ∈ ns)) c → R (.ok (.ret .none)) s') :
    codeAny (model P w) A (.builtin "set.update.loop" ⟨[.ref s.heap.objs.size, .ref h1.objs.size], []⟩) R { s with heap := h1.push { cls := .type "list_iterator", data := .fields #[.ref l, .int 0 0] } } := by
  refine set_update_ints ((Walks.list hh h1.objs.size l hln items).toS) s.heap.objs.size (by simp [hsz, hls]) ns hz hb (fun i v hv => ?_) (items.size - 0) 0 _ rfl (Nat.zero_le _) ⟨⟨_, Heap.get?_push_size _ rfl, rfl, rfl⟩, hl.push _⟩ ⟨0, Nat.le_refl 0, setR_new_at (Heap.get?_push_of_some _ hs)⟩ fun s' c' m hc r => k s' c' m (hz ▸ hc) r
  have hin : i < ns.length := hz ▸ (Array.getElem?_eq_some_iff.mp hv).1
  obtain ⟨t, e⟩ := PyProof.Rows.IntsAre.int_at hi i v (by rw [Array.getElem?_toList]; exact hv)
  exact ⟨ns[i], t, List.getElem?_eq_getElem hin, by rw [e, List.getD_eq_getElem?_getD, List.getElem?_eq_getElem hin]; rfl⟩
set_option maxRecDepth 100000 in
set_option maxHeartbeats 0 in
/-- set(l), l a list of ints -/
theorem set_ints {l : Addr} {items : Array Value} {ns : List Int} {Q : Value → Shared → Prop} (hn : A.handled = none) (hl : s.heap.IsList l items) (hi : IntsAre items.toList ns) (hz : items.size = ns.length) (hb : ns.length + 1 < scanBound)
    (k : ∀ h' tk c, SetR w h' s.heap.objs.size (fun j => decide (j ∈ ns)) c → c ≤ ns.length → (∀ b o, s.heap.get? b = some o → h'.get? b = some o) → Q (.ref s.heap.objs.size) { s with heap := h', toks := tk }) :
    wpAny (model P w) A (call (.type "set") [.ref l]) Q E s := by
  obtain ⟨c0, tl0, hm0⟩ := F.called_set.mro; have m0 := F.called_set.made; have u0 := F.called_set.sub
  refine wpAny_call (codeAny_of_tree (show wpAny _ _ (callAny (.type "set") _) _ _ _ from wpAny_pure ⟨Code.quiet_builtin _ (by decide +kernel), codeAny_builtin F.entry_type_call ?_⟩))
  rw [Around.under_plain (weight_type_call_type "set" [.ref l] []) rfl]
  have t1 := F.called_set.notType; have t2 := F.called_set.canCreate; have t3 := F.typeCall_set_1 (.ref l)
  repeat (any_goals (first | assumption | wp_step))
  refine codeAny_mono (code_set_led1 (.ref l) (E := E) (Q₁ := fun ob s₁ => ob = .ref s.heap.objs.size ∧ s₁ = { s with heap := s.heap.push (setO0 w) }) ⟨rfl, rfl⟩) fun res s₁ hres => ?_
  cases res with
  | error e => exact hres
  | ok fl =>
    cases fl with
    | ret ob =>
      obtain ⟨rfl, rfl⟩ := hres
      have hS : (s.heap.push (setO0 w)).get? s.heap.objs.size = some (setO0 w) := Heap.get?_push_size _ rfl
      have hT : Shared.TypeIs { s with heap := s.heap.push (setO0 w) } (.ref s.heap.objs.size) "set" := ⟨_, hS, rfl⟩
      have i1 := F.called_set.init.lookup; have i2 := F.called_set.init.bind (.ref s.heap.objs.size)
      repeat (any_goals (first | assumption | wp_step))
      refine codeAny_mono (codeAny_call_builtin (R := wants (fun r s₂ => r = .none ∧ ∃ h' tk c, s₂ = { s with heap := h', toks := tk } ∧ SetR w h' s.heap.objs.size (fun j => decide (j ∈ ns)) c ∧ c ≤ ns.length ∧ ∀ b o, s.heap.get? b = some o → h'.get? b = some o) E) F.called_set.init.plain F.entry_set_init (check_set_init_1 hT ?_)) fun r₂ s₂ hr₂ => ?_
      · have hll : l < s.heap.objs.size := let ⟨_, q, _⟩ := hl; Heap.lt_size q
        have hl1 : (s.heap.push (setO0 w)).IsList l items := hl.push _
        obtain ⟨⟨oc, od, ot, os⟩, ho, hc, nl, hd⟩ := id hl1
        simp only at hc hd
        subst hc hd
        have b1 := F.sub_list_set; have b2 := F.sub_list_frozenset; have b3 : (Value.type "list" == Value.type "dict") = false := by decide
        have sz : (s.heap.push (setO0 w)).objs.size = s.heap.objs.size + 1 := Heap.size_push ..
        unfold Builtin.«set.__init__» noKeywords Builtin.Frozenset.updateFrom
        generalize hp : pyIter = pI
        wp_walk
        subst hp
        refine wpAny_pyIter_list hl1 (wpAny_bind (wpAny_runValue ?_))
        refine set_upd (s := s) (by simp [hn]) hS hl1 hi hz hb (by rw [sz]; exact Nat.ne_of_lt (Nat.lt_succ_of_lt hll)) (Nat.ne_of_gt hll) (by rw [sz]; exact Nat.ne_of_lt (Nat.lt_succ_self _)) fun s' c' hm hc' hR => ?_
        obtain ⟨h', g', d', tk', o'⟩ := s'
        have e1 : g' = s.gens := hm.gens
        have e2 : d' = s.drawn := hm.drawn
        have e3 : o' = s.os := hm.os
        subst e1 e2 e3
        refine wpAny_pure (show wpAny _ _ (ret Value.none) _ _ _ from wpAny_pure ⟨rfl, h', tk', c', rfl, hR, hc', fun b o e => ?_⟩)
        have hb0 := Heap.lt_size e
        exact hm.heap b o (by rw [sz]; simp only [List.mem_cons, List.not_mem_nil, or_false, not_or]; exact ⟨Nat.ne_of_lt hb0, Nat.ne_of_lt (Nat.lt_succ_of_lt hb0)⟩) (Heap.get?_push_of_some _ (Heap.get?_push_of_some _ e))
      · cases r₂ with
        | error e => exact hr₂
        | ok fl₂ =>
          cases fl₂ with
          | ret r =>
            obtain ⟨rfl, h', tk, c, rfl, q1, q2, q3⟩ := hr₂
            repeat (any_goals (first | assumption | wp_step))
            exact k h' tk c q1 q2 q3
          | _ => exact hr₂.elim
    | _ => exact hres.elim
end
end DD
set_option Elab.async false
set_option linter.all false
set_option maxRecDepth 100000
set_option maxHeartbeats 1000000
namespace DD
open PySem L2 PyProof.Rows RZ
theorem ris_uniq : ∀ {l m : List Int}, l.Pairwise (· < ·) → m.Pairwise (· < ·) → (∀ k, k ∈ l ↔ k ∈ m) → l = m
  | [], [], _, _, _ => rfl
  | [], b :: m, _, _, h => absurd ((h b).mpr (by simp)) (by simp)
  | a :: l, [], _, _, h => absurd ((h a).mp (by simp)) (by simp)
  | a :: l, b :: m, hl, hm, h => by
    rw [List.pairwise_cons] at hl hm
    have e : a = b := by
      rcases List.mem_cons.mp ((h a).mp (by simp)) with e | e
      · exact e
      · rcases List.mem_cons.mp ((h b).mpr (by simp)) with e' | e'
        · exact e'.symm
        · have := hm.1 a e
          have := hl.1 b e'
          omega
    subst e
    rw [ris_uniq hl.2 hm.2 fun k => ⟨fun hk => ?_, fun hk => ?_⟩]
    · rcases List.mem_cons.mp ((h k).mp (by simp [hk])) with e | e
      · have := hl.1 k hk
        omega
      · exact e
    · rcases List.mem_cons.mp ((h k).mpr (by simp [hk])) with e | e
      · have := hm.1 k hk
        omega
      · exact e
def rSetL (K : PySem.W.Frag) (w : World) : List V → Hp → VK → Prop := fun xs H Q => ∃ (a : Addr) (ns : List Int), xs = [.ref a] ∧ SqL K H a (ns.map V.int) ∧ ns.length ≤ 1000 ∧ ∀ p n, H p = none → n ≤ ns.length → Q (.ref p) (upd H p (SetO w p (fun j => decide (j ∈ ns)) n))
theorem cr_setL {X : Cx} (hc : X.calm = true) : CallR X (.type "set") (rSetL X.K X.w) := by
  intro pins s σ H xs us Q I r h
  obtain ⟨a, ns, rfl, hs, hl, q⟩ := h
  obtain ⟨its, rv, pl, hz⟩ := I.list hs
  rw [Vals.ref1 r]
  have hi := rv.ints
  have hsz : its.toArray.size = ns.length := by rw [List.size_toArray, ← rv.length, List.length_map]
  refine set_ints (I.ok.hd hc) pl.isList (by simpa using hi) hsz (by unfold scanBound; omega) fun h' tk c R hcn hk => ?_
  exact ⟨.ref _, upd H s.heap.objs.size (SetO X.w s.heap.objs.size (fun j => decide (j ∈ ns)) c), I.laid (t' := tk) hk (Nat.le_refl _) (setO_new R), rfl, q _ c (I.hok.fresh (Nat.le_refl _)) hcn⟩
noncomputable def risB (ns : List Int) : Bool := @decide (ns.Pairwise (· < ·)) (Classical.propDecidable _)
noncomputable def ssF (rs : List (Fl × D)) : Option (Fl × D) := match rs with
  | [(_, .lst ds)] => (intsOf ds).bind fun ns => if risB ns && decide (ns.length < 64) then some (.fr, .lst (ns.map .int)) else none
  | _ => none
def ssM (sc : Scope) (e : Expr) : Option (List Expr) := match e with
  | .Call (.Name f _) [.Call (.Name g _) [a] [] _] [] _ => if decide (f = "sorted") && gloB sc f && decide (g = "set") && gloB sc g && notStar a then some [a] else none
  | _ => none
theorem intsOf_spec : ∀ {ds : List D} {ns : List Int}, intsOf ds = some ns → ds = ns.map .int
  | [], ns, h => by cases h; rfl
  | .int i :: ds, ns, h => by
    simp only [intsOf] at h
    cases e : intsOf ds with
    | none => rw [e] at h; cases h
    | some ms => rw [e] at h; cases h; rw [intsOf_spec e]; rfl
  | .non :: ds, ns, h => by simp [intsOf] at h
  | .bl _ :: ds, ns, h => by simp [intsOf] at h
  | .str _ :: ds, ns, h => by simp [intsOf] at h
  | .tup _ :: ds, ns, h => by simp [intsOf] at h
  | .lst _ :: ds, ns, h => by simp [intsOf] at h
  | .fz _ :: ds, ns, h => by simp [intsOf] at h
  | .dic _ _ :: ds, ns, h => by simp [intsOf] at h
  | .dit _ _ :: ds, ns, h => by simp [intsOf] at h
  | .fd _ _ :: ds, ns, h => by simp [intsOf] at h
  | .dk _ _ _ _ :: ds, ns, h => by simp [intsOf] at h
theorem ss_ok [Tb : Tbl] (X : Cx) (O : OpCx X) (e : Expr) (es : List Expr) (fs : List (Rho → Option (Fl × D))) (hm : ssM X.env.scope e = some es) (hp : PEs X es fs) :
    PE X e (rd X.K fun ρ => (seqF fs ρ).bind ssF) ∧ PT X e (rdT X.K fun ρ => toB ((seqF fs ρ).bind ssF)) := by
  unfold ssM at hm
  split at hm
  case h_2 => cases hm
  rename_i f p1 g p2 a p3 pos
  split at hm
  case isFalse => cases hm
  rename_i hc
  simp only [Bool.and_eq_true, decide_eq_true_eq] at hc
  obtain ⟨⟨⟨⟨rfl, h1⟩, rfl⟩, h2⟩, h3⟩ := hc
  cases hm
  obtain ⟨f, rfl, n1, ha⟩ := hp.one
  have gg := gl_of (X := X) rfl h1
  have gr := gl_of (X := X) rfl h2
  have b0 := pe_callTy (pos := p3) (p := p2) (cr_setL O.calm) gr.1 (O.blt _ (by simp [bltNames])) PyProof.Rows.boot_set (pa_cons ha pa_nil (star_of h3)) (by decide) gr.2 (star_of h3) rfl
  have base := pe_callB (pos := pos) (p := p1) (cr_sortedSet O.calm) gg.1 (O.blt _ (by simp [bltNames])) boot_sorted (pa_cons b0 pa_nil) (by decide) gg.2 rfl rfl
  have pe : PE X (.Call (.Name "sorted" p1) [.Call (.Name "set" p2) [a] [] p3] [] pos) (rd X.K fun ρ => (seqF [f] ρ).bind ssF) := by
    refine pe_le base fun σ H Q hh => ?_
    obtain ⟨B, ρ, fl, d, hf, S, q⟩ := hh
    dsimp only at hf
    rw [seqF1] at hf
    cases e1 : f ρ with
    | none => simp [e1] at hf
    | some x =>
    obtain ⟨fa, da⟩ := x
    simp only [e1, Option.bind_some, Option.map_some, ssF] at hf
    split at hf
    case h_2 => cases hf
    rename_i fa' ds heq
    cases heq
    cases e2 : intsOf ds with
    | none => rw [e2] at hf; cases hf
    | some ns =>
    rw [e2, Option.bind_some] at hf
    split at hf
    case isFalse => cases hf
    rename_i hl
    simp only [Bool.and_eq_true, decide_eq_true_eq, risB, dte] at hl
    cases hf
    have eds := intsOf_spec e2
    subst eds
    refine ⟨B, ρ, _, _, e1, S, fun x H1 z1 r1 => ?_⟩
    obtain ⟨la, vs, rfl, hla, rvs⟩ := r1.lst S
    rw [rvs.ints] at hla
    refine ⟨la, ns, rfl, SqL.of hla, by omega, fun p n hp hn => ?_⟩
    refine ⟨p, _, n, rfl, upd_same, by omega, fun ns' p2 hs hk hlen hp2 => ?_⟩
    have en : ns' = ns := ris_uniq hs hl.1 fun k => by rw [hk]; simp
    subst en
    refine q _ _ ((z1.trans (Ext.new hp)).trans (Ext.new hp2)) ?_
    simp only [Res, Sep]
    exact ⟨p2, _, rfl, (z1.trans (Ext.new hp)).back hp2, upd_same, Rps.of_ints _⟩
  exact ⟨pe, pt_of pe (by intro _; rfl)⟩
noncomputable def op_sset : XOp := ⟨ssM, ssF, ss_ok⟩
end DD
set_option Elab.async false
set_option linter.all false
set_option maxRecDepth 100000
set_option maxHeartbeats 2000000
namespace DD
open PySem L2 PyProof.Rows RZ
theorem held_none {tab : Tab} {d : D} (h : tab.find? (fun p => decide (nkD p.1 = nkD d)) = none) : heldOf tab d = [] := by unfold heldOf; rw [h]; rfl
theorem held_some {tab : Tab} {d : D} {q : D × List Nat} (h : tab.find? (fun p => decide (nkD p.1 = nkD d)) = some q) : heldOf tab d = q.2 := by unfold heldOf; rw [h]; rfl
theorem held_add {tab : Tab} {d e : D} : heldOf (addK tab e) d = heldOf tab d := by
  unfold addK
  split
  · rfl
  · cases c : tab.find? (fun p => decide (nkD p.1 = nkD d)) with
    | some q => rw [held_some c, held_some (q := q) (by rw [List.find?_append, c]; rfl)]
    | none =>
      rw [held_none c]
      by_cases k : nkD e = nkD d
      · rw [held_some (q := (e, [])) (by rw [List.find?_append, c]; simp [k])]
      · rw [held_none (by rw [List.find?_append, c]; simp [k])]
theorem held_app {tab : Tab} {d e : D} {p : Nat} (h : hasV tab e = true) : heldOf (appK tab e p) d = heldOf tab d ++ if nkD e = nkD d then [p] else [] := by
  induction tab with
  | nil => simp [hasV] at h
  | cons q tab ih =>
    by_cases k : nkD e = nkD d
    · rw [if_pos k] at *
      by_cases c : nkD q.1 = nkD d
      · rw [held_some (tab := q :: tab) (q := q) (by simp [c]), held_some (q := (q.1, q.2 ++ [p])) (by unfold appK; simp [c, k])]
      · have h' : hasV tab e = true := by unfold hasV at *; rw [List.any_cons, decide_eq_false (by rw [k]; exact c), Bool.false_or] at h; exact h
        have := ih h'
        unfold heldOf appK at *
        rw [List.map_cons, List.find?_cons, List.find?_cons, decide_eq_false c]
        rw [if_neg (by rw [k]; exact c), decide_eq_false c]
        exact this
    · rw [if_neg k, List.append_nil] at *
      have gen : ∀ t : Tab, heldOf (appK t e p) d = heldOf t d := by
        intro t
        induction t with
        | nil => rfl
        | cons q t ih =>
          unfold heldOf appK at *
          rw [List.map_cons, List.find?_cons, List.find?_cons]
          by_cases c : nkD q.1 = nkD d
          · rw [if_neg (fun z => k (z.symm.trans c)), decide_eq_true c]
          · have e1 : nkD (if nkD q.1 = nkD e then (q.1, q.2 ++ [p]) else q).1 = nkD q.1 := by split <;> rfl
            rw [e1, decide_eq_false c]; exact ih
      exact gen _
theorem held_hd1 {tab : Tab} {d e : D} {p x : Nat} : x ∈ heldOf (hd1 p tab e) d ↔ x ∈ heldOf tab d ∨ (x = p ∧ nkD e = nkD d) := by
  unfold hd1
  rw [held_app hasV_add, held_add, List.mem_append]
  split <;> simp [*]
theorem held_row {d : D} {p x : Nat} : ∀ (ds : List D) {tab : Tab}, x ∈ heldOf (hdRow tab p ds) d ↔ x ∈ heldOf tab d ∨ (x = p ∧ ∃ e ∈ ds, nkD e = nkD d)
  | [], tab => by simp [hdRow]
  | e :: ds, tab => by
    show x ∈ heldOf (hdRow (hd1 p tab e) p ds) d ↔ _
    rw [held_row ds, held_hd1]
    constructor
    · rintro ((h | ⟨h1, h2⟩) | ⟨h1, e', h2, h3⟩)
      · exact .inl h
      · exact .inr ⟨h1, e, by simp, h2⟩
      · exact .inr ⟨h1, e', by simp [h2], h3⟩
    · rintro (h | ⟨h1, e', h2, h3⟩)
      · exact .inl (.inl h)
      · rcases List.mem_cons.mp h2 with h2 | h2
        · subst h2; exact .inl (.inr ⟨h1, h3⟩)
        · exact .inr ⟨h1, e', h2, h3⟩
theorem held_up {vss : List (List D)} {d : D} {x : Nat} : ∀ k, x ∈ heldOf (hdUp vss k) d ↔ x < k ∧ ∃ e ∈ vss.getD x [], nkD e = nkD d
  | 0 => by simp [hdUp, heldOf]
  | k + 1 => by
    show x ∈ heldOf (hdRow (hdUp vss k) k (vss.getD k [])) d ↔ _
    rw [held_row, held_up k]
    constructor
    · rintro (⟨h1, h2⟩ | ⟨h1, h2⟩)
      · exact ⟨by omega, h2⟩
      · subst h1; exact ⟨by omega, h2⟩
    · rintro ⟨h1, h2⟩
      by_cases c : x = k
      · subst c; exact .inr ⟨rfl, h2⟩
      · exact .inl ⟨by omega, h2⟩
/-- two places share a view -/
def Adj (vss : List (List D)) (i j : Nat) : Prop := i < vss.length ∧ j < vss.length ∧ ∃ d ∈ vss.getD i [], ∃ e ∈ vss.getD j [], nkD e = nkD d
theorem Adj.symm {vss : List (List D)} {i j : Nat} (h : Adj vss i j) : Adj vss j i := by
  obtain ⟨h1, h2, d, h3, e, h4, h5⟩ := h
  exact ⟨h2, h1, e, h4, d, h3, h5.symm⟩
inductive Pa (vss : List (List D)) (a : Nat) : Nat → Prop
  | refl : Pa vss a a
  | step {b c : Nat} : Pa vss a b → Adj vss b c → Pa vss a c
theorem push_mem {x : Nat} : ∀ (os : List Nat) {s : Rch}, x ∈ (os.foldl push1 s).seen ↔ x ∈ s.seen ∨ x ∈ os
  | [], s => by simp
  | o :: os, s => by
    rw [List.foldl_cons, push_mem os]
    unfold push1
    split
    · rename_i h
      have h : o ∈ s.seen := by simpa using h
      constructor
      · rintro (h1 | h1)
        · exact .inl h1
        · exact .inr (by simp [h1])
      · rintro (h1 | h1)
        · exact .inl h1
        · rcases List.mem_cons.mp h1 with h1 | h1
          · subst h1; exact .inl h
          · exact .inr h1
    · simp only [List.mem_append, List.mem_singleton, List.mem_cons, or_assoc]
      simp
theorem pushV_mem {vss : List (List D)} {x : Nat} : ∀ (ds : List D) {s : Rch}, x ∈ (ds.foldl (pushV (hdUp vss vss.length)) s).seen ↔ x ∈ s.seen ∨ (x < vss.length ∧ ∃ d ∈ ds, ∃ e ∈ vss.getD x [], nkD e = nkD d)
  | [], s => by simp
  | d :: ds, s => by
    rw [List.foldl_cons, pushV_mem ds]
    unfold pushV
    rw [push_mem, held_up]
    constructor
    · rintro ((h | ⟨h1, e, h2, h3⟩) | ⟨h1, d', h2, e, h3, h4⟩)
      · exact .inl h
      · exact .inr ⟨h1, d, by simp, e, h2, h3⟩
      · exact .inr ⟨h1, d', by simp [h2], e, h3, h4⟩
    · rintro (h | ⟨h1, d', h2, e, h3, h4⟩)
      · exact .inl (.inl h)
      · rcases List.mem_cons.mp h2 with h2 | h2
        · subst h2; exact .inl (.inr ⟨h1, e, h3, h4⟩)
        · exact .inr ⟨h1, d', h2, e, h3, h4⟩
/-- what holds all along: what is found is new, each found one is still to be looked at or done -/
structure RInv (vss : List (List D)) (seen0 : List Nat) (p : Nat) (T : Nat → Prop) (s : Rch) : Prop where
  sf : s.seen = seen0 ++ s.found
  td : ∀ x ∈ s.todo, x ∈ s.found
  dn : ∀ x ∈ s.found, x ∈ s.todo ∨ (∀ j, Adj vss x j → j ∈ s.seen) ∨ T x
  pa : ∀ x ∈ s.found, Pa vss p x
theorem RInv.push {vss : List (List D)} {seen0 : List Nat} {p o : Nat} {T : Nat → Prop} {s : Rch} (h : RInv vss seen0 p T s) (ho : Pa vss p o) : RInv vss seen0 p T (push1 s o) := by
  unfold push1
  split
  · exact h
  · refine ⟨by simp [h.sf], fun x hx => ?_, fun x hx => ?_, fun x hx => ?_⟩
    · rcases List.mem_append.mp hx with hx | hx
      · exact List.mem_append_left _ (h.td x hx)
      · exact List.mem_append_right _ hx
    · rcases List.mem_append.mp hx with hx | hx
      · rcases h.dn x hx with h1 | h1 | h1
        · exact .inl (List.mem_append_left _ h1)
        · exact .inr (.inl fun j hj => List.mem_append_left _ (h1 j hj))
        · exact .inr (.inr h1)
      · exact .inl (List.mem_append_right _ hx)
    · rcases List.mem_append.mp hx with hx | hx
      · exact h.pa x hx
      · simp at hx; subst hx; exact ho
theorem RInv.pushes {vss : List (List D)} {seen0 : List Nat} {p : Nat} {T : Nat → Prop} : ∀ (os : List Nat) {s : Rch}, RInv vss seen0 p T s → (∀ o ∈ os, Pa vss p o) → RInv vss seen0 p T (os.foldl push1 s)
  | [], s, h, _ => h
  | o :: os, s, h, ho => RInv.pushes os (h.push (ho o (by simp))) fun x hx => ho x (by simp [hx])
theorem RInv.pushVs {vss : List (List D)} {seen0 : List Nat} {p b : Nat} {T : Nat → Prop} (hb : b < vss.length) (hp : Pa vss p b) : ∀ (ds : List D) {s : Rch}, RInv vss seen0 p T s → (∀ d ∈ ds, d ∈ vss.getD b []) → RInv vss seen0 p T (ds.foldl (pushV (hdUp vss vss.length)) s)
  | [], s, h, _ => h
  | d :: ds, s, h, hd => by
    rw [List.foldl_cons]
    refine RInv.pushVs hb hp ds (h.pushes _ fun o ho => ?_) fun x hx => hd x (by simp [hx])
    rw [held_up] at ho
    obtain ⟨h1, e, h2, h3⟩ := ho
    exact hp.step ⟨hb, h1, d, hd d (by simp), e, h2, h3⟩
theorem RInv.stepR {vss : List (List D)} {seen0 : List Nat} {p : Nat} {s : Rch} (h : RInv vss seen0 p (fun _ => False) s) (hc : s.todo ≠ []) (hlt : ∀ x ∈ s.todo, x < vss.length) : RInv vss seen0 p (fun _ => False) (stepR vss (hdUp vss vss.length) s) := by
  have hm : s.todo.getLastD 0 ∈ s.todo := List.mem_of_getElem? (last_at hc)
  have split : ∀ x, x ∈ s.todo → x = s.todo.getLastD 0 ∨ x ∈ s.todo.dropLast := fun x hx => by
    have e : s.todo.dropLast ++ [s.todo.getLastD 0] = s.todo := by
      rw [List.getLastD_eq_getLast?, List.getLast?_eq_some_getLast hc]
      exact List.dropLast_concat_getLast hc
    have hx' := hx
    rw [← e] at hx'
    rcases List.mem_append.mp hx' with hx | hx
    · exact .inr hx
    · exact .inl (List.mem_singleton.mp hx)
  have h0 : RInv vss seen0 p (fun x => x = s.todo.getLastD 0) (popR1 s) := by
    refine ⟨h.sf, fun x hx => h.td x (List.dropLast_subset _ hx), fun x hx => ?_, h.pa⟩
    rcases h.dn x hx with h1 | h1 | h1
    · rcases split x h1 with e | e
      · exact .inr (.inr e)
      · exact .inl e
    · exact .inr (.inl h1)
    · exact h1.elim
  have h1 := h0.pushVs (hlt _ hm) (h.pa _ (h.td _ hm)) (vss.getD (s.todo.getLastD 0) []) fun d hd => hd
  refine ⟨h1.sf, h1.td, fun x hx => ?_, h1.pa⟩
  rcases h1.dn x hx with h2 | h2 | h2
  · exact .inl h2
  · exact .inr (.inl h2)
  · subst h2
    refine .inr (.inl fun j hj => ?_)
    obtain ⟨_, hj2, d, hd, e, he, hk⟩ := hj
    exact (pushV_mem _).mpr (.inr ⟨hj2, d, hd, e, he, hk⟩)
theorem RInv.reach {vss : List (List D)} {seen0 : List Nat} {p : Nat} : ∀ (m : Nat) {s : Rch}, RchOk vss.length s → RInv vss seen0 p (fun _ => False) s → RInv vss seen0 p (fun _ => False) (reachR vss (hdUp vss vss.length) m s)
  | 0, s, _, h => h
  | m + 1, s, ok, h => by
    show RInv _ _ _ _ (if s.todo.isEmpty then s else _)
    split
    · exact h
    · rename_i hc
      have hc : s.todo ≠ [] := fun z => hc (by rw [z]; rfl)
      exact RInv.reach m (step_ok ok (up_lt _ (Nat.le_refl _))) (h.stepR hc fun x hx => ok.lt x (ok.ts x hx))
/-- one turn: the class of p among those not yet seen -/
theorem turn_ok {vss : List (List D)} {seen : List Nat} {p : Nat} (nd : seen.Nodup) (lt : ∀ x ∈ seen, x < vss.length) (hp : p < vss.length) (hc : p ∉ seen) :
    (turnR vss seen p).seen = seen ++ (turnR vss seen p).found ∧ (seen ++ (turnR vss seen p).found).Nodup ∧ (∀ x ∈ (turnR vss seen p).found, x < vss.length) ∧ p ∈ (turnR vss seen p).found ∧ (∀ x ∈ (turnR vss seen p).found, Pa vss p x) ∧
      ∀ x ∈ (turnR vss seen p).found, ∀ j, Adj vss x j → j ∈ seen ++ (turnR vss seen p).found := by
  have hc' : seen.contains p = false := by
    cases e : seen.contains p with
    | false => rfl
    | true => exact absurd (List.contains_iff_mem.mp e) hc
  have ok := start_r nd lt hp hc'
  obtain ⟨e1, e2⟩ := start_ends ok
  have i0 : RInv vss seen p (fun _ => False) ⟨seen ++ [p], [p], [p]⟩ := ⟨rfl, fun x hx => hx, fun x hx => .inl hx, fun x hx => by simp at hx; subst hx; exact .refl⟩
  have i1 : RInv vss seen p (fun _ => False) (turnR vss seen p) := RInv.reach _ ok i0
  have mono : ∀ (m : Nat) (s : Rch), p ∈ s.seen → p ∈ (reachR vss (hdUp vss vss.length) m s).seen := by
    intro m
    induction m with
    | zero => exact fun s h => h
    | succ m ih =>
      intro s h
      show p ∈ (if s.todo.isEmpty then s else _).seen
      split
      · exact h
      · exact ih _ ((pushV_mem _).mpr (.inl h))
  have hps : p ∈ (turnR vss seen p).seen := mono _ _ (by simp)
  refine ⟨i1.sf, i1.sf ▸ e2.nd, fun x hx => e2.lt x (by rw [i1.sf]; exact List.mem_append_right _ hx), ?_, i1.pa, fun x hx j hj => ?_⟩
  · rw [i1.sf] at hps
    rcases List.mem_append.mp hps with h | h
    · exact absurd h hc
    · exact h
  · rcases i1.dn x hx with h | h | h
    · rw [e1] at h; cases h
    · have := h j hj
      rw [i1.sf] at this; exact this
    · exact h.elim
/-- groups: who is seen is in one; each rises, begins with its least, is a whole class -/
structure GrpsOk (vss : List (List D)) (k : Nat) (seen : List Nat) (Gs : List (List Nat)) : Prop where
  mem : ∀ x, x ∈ seen ↔ ∃ G ∈ Gs, x ∈ G
  low : ∀ p, p < k → p ∈ seen
  ris : ∀ G ∈ Gs, G.Pairwise (· < ·)
  hd : ∀ G ∈ Gs, ∃ h t, G = h :: t ∧ h < k ∧ ∀ x ∈ G, Pa vss h x
  cl : ∀ G ∈ Gs, ∀ x ∈ G, ∀ j, Adj vss x j → j ∈ G
  hds : (Gs.map (·.headD 0)).Pairwise (· < ·)
  dis : Gs.flatten.Nodup
  nd : seen.Nodup
  lt : ∀ x ∈ seen, x < vss.length
def sortN (l : List Nat) : List Nat := l.mergeSort fun a b => decide (a ≤ b)
theorem sortN_perm (l : List Nat) : (sortN l).Perm l := List.mergeSort_perm _ _
theorem sortN_le (l : List Nat) : (sortN l).Pairwise (· ≤ ·) := by
  have := List.pairwise_mergeSort (le := fun a b : Nat => decide (a ≤ b)) (fun a b c h1 h2 => by simp at *; omega) (fun a b => by simp; omega) l
  exact this.imp fun h => by simpa using h
theorem sortN_lt {l : List Nat} (h : l.Nodup) : (sortN l).Pairwise (· < ·) := by
  have h1 := sortN_le l
  have h2 : (sortN l).Nodup := (sortN_perm l).nodup_iff.mpr h
  exact (h1.and h2).imp fun ⟨a, b⟩ => by omega
theorem natI_sort (l : List Nat) : sortI (natI l) = natI (sortN l) := by
  refine (sort_unique ?_ ?_).symm
  · exact (sortN_perm l).map _
  · unfold natI
    rw [List.pairwise_map]
    exact (sortN_le l).imp fun h => by omega
theorem clGo_spec {vss : List (List D)} : ∀ k, k ≤ vss.length → ∃ Gs, (clGo vss k).groups = Gs.map natI ∧ GrpsOk vss k (clGo vss k).seen Gs
  | 0, _ => ⟨[], rfl, ⟨fun x => by simp [clGo], fun p h => by omega, fun G h => by simp at h, fun G h => by simp at h, fun G h => by simp at h, .nil, List.nodup_nil, List.nodup_nil, fun x h => by simp [clGo] at h⟩⟩
  | k + 1, hk => by
    obtain ⟨Gs, e, ok⟩ := clGo_spec (vss := vss) k (by omega)
    rw [clGo_succ]
    generalize clGo vss k = c at *
    unfold clTurn
    split
    · rename_i hc
      have hc : k ∈ c.seen := List.contains_iff_mem.mp hc
      refine ⟨Gs, e, ok.mem, fun p hp => ?_, ok.ris, fun G hG => ?_, ok.cl, ok.hds, ok.dis, ok.nd, ok.lt⟩
      · by_cases z : p = k
        · subst z; exact hc
        · exact ok.low p (by omega)
      · obtain ⟨h, t, a, b, d⟩ := ok.hd G hG
        exact ⟨h, t, a, by omega, d⟩
    · rename_i hc
      have hc : k ∉ c.seen := fun z => hc (List.contains_iff_mem.mpr z)
      obtain ⟨t1, t2, t3, t4, t5, t6⟩ := turn_ok ok.nd ok.lt (by omega) hc
      generalize hT : turnR vss c.seen k = T at *
      have fnd : T.found.Nodup := (List.nodup_append.mp t2).2.1
      have fdis : ∀ x, x ∈ c.seen → x ∈ T.found → False := fun x h1 h2 => (List.nodup_append.mp t2).2.2 x h1 x h2 rfl
      have smem : ∀ x, x ∈ sortN T.found ↔ x ∈ T.found := fun x => (sortN_perm _).mem_iff
      have fge : ∀ x ∈ T.found, k ≤ x := fun x hx => by
        by_cases z : x < k
        · exact absurd hx (fdis x (ok.low x z))
        · omega
      have hcons : ∃ t, sortN T.found = k :: t := by
        cases e2 : sortN T.found with
        | nil => have := (smem k).mpr t4; rw [e2] at this; cases this
        | cons a t =>
          have h1 : a ∈ sortN T.found := by rw [e2]; simp
          have h2 := fge a ((smem a).mp h1)
          have h3 : k ∈ sortN T.found := (smem k).mpr t4
          rw [e2] at h3
          rcases List.mem_cons.mp h3 with z | z
          · exact ⟨t, by rw [z]⟩
          · have := sortN_lt fnd
            rw [e2, List.pairwise_cons] at this
            have := this.1 k z
            omega
      obtain ⟨tl, htl⟩ := hcons
      refine ⟨Gs ++ [sortN T.found], by rw [List.map_append, ← e, natI_sort]; rfl, ?_⟩
      refine ⟨fun x => ?_, fun p hp => ?_, fun G hG => ?_, fun G hG => ?_, fun G hG => ?_, ?_, ?_, ?_, ?_⟩
      · show x ∈ T.seen ↔ _
        rw [t1, List.mem_append, ok.mem]
        constructor
        · rintro (⟨G, h1, h2⟩ | h)
          · exact ⟨G, List.mem_append_left _ h1, h2⟩
          · exact ⟨_, List.mem_append_right _ (by simp), (smem x).mpr h⟩
        · rintro ⟨G, h1, h2⟩
          rcases List.mem_append.mp h1 with h1 | h1
          · exact .inl ⟨G, h1, h2⟩
          · simp at h1; subst h1; exact .inr ((smem x).mp h2)
      · show p ∈ T.seen
        rw [t1, List.mem_append]
        by_cases z : p = k
        · subst z; exact .inr t4
        · exact .inl (ok.low p (by omega))
      · rcases List.mem_append.mp hG with hG | hG
        · exact ok.ris G hG
        · simp at hG; subst hG; exact sortN_lt fnd
      · rcases List.mem_append.mp hG with hG | hG
        · obtain ⟨h, t, a, b, d⟩ := ok.hd G hG
          exact ⟨h, t, a, by omega, d⟩
        · simp at hG; subst hG
          exact ⟨k, tl, htl, by omega, fun x hx => t5 x ((smem x).mp hx)⟩
      · rcases List.mem_append.mp hG with hG | hG
        · exact ok.cl G hG
        · simp at hG; subst hG
          intro x hx j hj
          have hx := (smem x).mp hx
          rcases List.mem_append.mp (t6 x hx j hj) with z | z
          · obtain ⟨G, h1, h2⟩ := (ok.mem j).mp z
            exact absurd hx (fdis x ((ok.mem x).mpr ⟨G, h1, ok.cl G h1 j h2 x hj.symm⟩))
          · exact (smem j).mpr z
      · rw [List.map_append, List.pairwise_append]
        refine ⟨ok.hds, by simp, fun a ha b hb => ?_⟩
        simp only [List.map_cons, List.map_nil, List.mem_singleton, htl, List.headD_cons] at hb
        subst hb
        obtain ⟨G, h1, rfl⟩ := List.mem_map.mp ha
        obtain ⟨h, t, a, b', d⟩ := ok.hd G h1
        rw [a, List.headD_cons]; exact b'
      · rw [List.flatten_append, List.nodup_append]
        refine ⟨ok.dis, by simpa using (sortN_perm _).nodup_iff.mpr fnd, fun x hx y hy => ?_⟩
        rintro rfl
        have hy : x ∈ T.found := by simpa [smem] using hy
        obtain ⟨G, h1, h2⟩ := List.mem_flatten.mp hx
        exact fdis x ((ok.mem x).mpr ⟨G, h1, h2⟩) hy
      · show T.seen.Nodup
        rw [t1]; exact t2
      · intro x hx
        have hx : x ∈ T.seen := hx
        rw [t1] at hx
        rcases List.mem_append.mp hx with z | z
        · exact ok.lt x z
        · exact t3 x z
end DD
set_option Elab.async false
set_option linter.all false
set_option maxRecDepth 100000
set_option maxHeartbeats 2000000
namespace DD
open PySem L2
def n_all_views : List Str := ["runs", "rounds", "run", "view"]
def c_all_views_1 : CE := (.isN true (.var 3))
def e_all_views_2 : CE := (.var 3)
def e_all_views_3 : CE := (.lc [("view", 3)] (.nm 3) (.val (.call 0 (.cons (.var 2) (.cons (.var 1) .nil)))) c_all_views_1 e_all_views_2)
def b_all_views : CSs := (.cons (.ret (.lc [("run", 2)] (.nm 2) (.val (.var 0)) (.bl true) e_all_views_3))
  .nil)
noncomputable def G_all_views : Gam := ⟨[("views_of", 2, R_views_of)], [], []⟩
@[simp] theorem gf_all_views_0 : G_all_views.fn[0]? = some (("views_of" : Str), 2, R_views_of) := rfl
noncomputable def R_all_views : List D → Option D := runW G_all_views 4 b_all_views
theorem r_all_views (runs_ rounds_ : D) : R_all_views [runs_, rounds_] = outR (exs G_all_views true b_all_views [some (.sh runs_), some (.sh rounds_), none, none]) := rfl
noncomputable def R_classes : List D → Option D := clF R_all_views
def n_law_reached_2 : List Str := ["views", "group", "found", "k", "other"]
def c_law_reached_2_1 : CE := (.cmp .lt (.var 3) (.bi .len (.cons (.var 2) .nil)))
def l_law_reached_2_2 : CSs := (.cons (.ite (.and (.cmp .notin (.var 4) (.var 2)) (.call 0 (.cons (.ix (.var 0) (.ix (.var 2) (.var 3))) (.cons (.ix (.var 0) (.var 4)) .nil)))) (.cons (.app 2 (.var 4))
  .nil) .nil)
  .nil)
def l_law_reached_2_3 : CSs := (.cons (.fors (.nm 4) (.val (.var 1)) l_law_reached_2_2)
  (.cons (.set 3 (.bin .add (.var 3) (.int 1)))
  .nil))
def b_law_reached_2 : CSs := (.cons (.set 2 (.lst (.cons (.ix (.var 1) (.int 0)) .nil)))
  (.cons (.set 3 (.int 0))
  (.cons (.whl FUEL c_law_reached_2_1 l_law_reached_2_3)
  (.cons (.ret (.var 2))
  .nil))))
noncomputable def G_law_reached_2 : Gam := ⟨[("_law_meet", 2, R_law_meet)], [], []⟩
@[simp] theorem gf_law_reached_2_0 : G_law_reached_2.fn[0]? = some (("_law_meet" : Str), 2, R_law_meet) := rfl
noncomputable def R_law_reached_2 : List D → Option D := runF G_law_reached_2 false 5 b_law_reached_2
theorem r_law_reached_2 (views_ group_ : D) : R_law_reached_2 [views_, group_] = outR (exs G_law_reached_2 false b_law_reached_2 [some (.sh views_), some (.sh group_), none, none, none]) := run_eq (fun z => by cases z)
def n_law_groups : List Str := ["found", "many", "where", "k", "group", "place"]
def e_law_groups_1 : CE := (.ix (.var 4) (.int 0))
def e_law_groups_2 : CE := (.ix (.var 4) (.int 0))
def l_law_groups_3 : CSs := (.cons (.ite (.or (.not (.call 0 (.cons (.var 5) .nil))) (.cmp .isin (.var 5) (.var 2))) (.cons (.ret .non)
  .nil) .nil)
  (.cons (.sto 2 (.var 5) (.var 3))
  .nil))
def l_law_groups_4 : CSs := (.cons (.ite (.or (.not (.isi "list" (.var 4))) (.or (.cmp .eq (.bi .len (.cons (.var 4) .nil)) (.int 0)) (.cmp .ne (.var 4) (.op 1 (.cons (.var 4) .nil))))) (.cons (.ret .non)
  .nil) .nil)
  (.cons (.fors (.nm 5) (.val (.var 4)) l_law_groups_3)
  .nil))
def b_law_groups : CSs := (.cons (.ite (.not (.isi "list" (.var 0))) (.cons (.ret .non)
  .nil) .nil)
  (.cons (.set 2 .dnil)
  (.cons (.fors (.tp [3, 4]) (.enum (.var 0)) l_law_groups_4)
  (.cons (.ite (.cmp .ne (.bi .sorted (.cons (.var 2) .nil)) (.op 0 (.cons (.var 1) .nil))) (.cons (.ret .non)
  .nil) .nil)
  (.cons (.ite (.cmp .ne (.lc [("group", 4)] (.nm 4) (.val (.var 0)) (.bl true) e_law_groups_1) (.bi .sorted (.cons (.lc [("group", 4)] (.nm 4) (.val (.var 0)) (.bl true) e_law_groups_2) .nil))) (.cons (.ret .non)
  .nil) .nil)
  (.cons (.ret (.var 2))
  .nil))))))
noncomputable def G_law_groups : Gam := @Gam.mk [("_law_whole", 1, R_law_whole_3)] [] [] (@GX.mk (fun _ => none) [] [] [] 0 ⟨[]⟩ ⟨[op_lrg, op_sset], [], [], []⟩)
@[simp] theorem gf_law_groups_0 : G_law_groups.fn[0]? = some (("_law_whole" : Str), 1, R_law_whole_3) := rfl
@[simp] theorem gop_law_groups_0 : G_law_groups.ex.ops.op[0]? = some op_lrg := rfl
@[simp] theorem gop_law_groups_1 : G_law_groups.ex.ops.op[1]? = some op_sset := rfl
noncomputable def R_law_groups : List D → Option D := runF G_law_groups false 6 b_law_groups
theorem r_law_groups (found_ many_ : D) : R_law_groups [found_, many_] = outR (exs G_law_groups false b_law_groups [some (.sh found_), some (.sh many_), none, none, none, none]) := run_eq (fun z => by cases z)
def n_law_list : List Str := ["script", "hands", "cells", "runs", "k", "mixed", "run", "j"]
def l_law_list_1 : CSs := (.cons (.set 5 (.call 1 (.cons (.ix (.var 0) (.var 4)) (.cons (.var 4) .nil))))
  (.cons (.set 6 (.call 0 (.cons (.ix (.var 3) (.bin .mod (.var 5) (.bi .len (.cons (.var 3) .nil)))) (.cons (.bin .fdiv (.var 5) (.int 30)) (.cons (.bin .fdiv (.ix (.var 0) (.var 4)) (.int 4)) .nil)))))
  (.cons (.ite (.cmp .notin (.var 6) (.var 3)) (.frz 6 (.cons (.app 3 (.var 6))
  .nil)) .nil)
  .nil)))
def e_law_list_2 : CE := (.call 3 (.cons (.var 0) (.cons (.bin .add (.int 2) (.var 7)) .nil)))
def b_law_list : CSs := (.cons (.set 2 (.lc [("j", 7)] (.nm 7) (.rng1 (.var 1)) (.bl true) e_law_list_2))
  (.cons (.set 3 (.lst (.cons (.call 2 (.cons (.var 2) (.cons (.var 1) (.cons (.int 0) .nil)))) .nil)))
  (.cons (.fors (.nm 4) (.rng2 (.int 1) (.bi .min (.cons (.bi .len (.cons (.var 0) .nil)) (.cons (.int 26) .nil)))) l_law_list_1)
  (.cons (.ret (.var 3))
  .nil))))
noncomputable def G_law_list : Gam := ⟨[("_law_changed", 3, R_law_changed_2), ("_law_mixed", 2, R_law_mixed_2), ("_law_run", 3, R_law_run_2), ("_law_cell_at", 2, R_law_cell_at)], [], []⟩
@[simp] theorem gf_law_list_0 : G_law_list.fn[0]? = some (("_law_changed" : Str), 3, R_law_changed_2) := rfl
@[simp] theorem gf_law_list_1 : G_law_list.fn[1]? = some (("_law_mixed" : Str), 2, R_law_mixed_2) := rfl
@[simp] theorem gf_law_list_2 : G_law_list.fn[2]? = some (("_law_run" : Str), 3, R_law_run_2) := rfl
@[simp] theorem gf_law_list_3 : G_law_list.fn[3]? = some (("_law_cell_at" : Str), 2, R_law_cell_at) := rfl
noncomputable def R_law_list : List D → Option D := runF G_law_list false 8 b_law_list
theorem r_law_list (script_ hands_ : D) : R_law_list [script_, hands_] = outR (exs G_law_list false b_law_list [some (.sh script_), some (.sh hands_), none, none, none, none, none, none]) := run_eq (fun z => by cases z)
end DD
set_option Elab.async false
set_option linter.all false
set_option maxRecDepth 100000
set_option maxHeartbeats 1000000
namespace DD
open PySem L2 PyProof.Rows RZ
def mtB (n : Nat) (r s : Rn) : Bool := (List.range r.many).any fun k => up r k n && (up s k n && eqB r s n k)
theorem e_meetB {r s : Rn} (K : r.Ok) (hm : r.many = s.many) {n : Nat} (hn : n ≤ 8) : R_law_meet [rowD r n, rowD s n] = some (.bl (mtB n r s)) := by
  have hi := K.hi
  have go := find_go (t := .nm 2) (body := exs G_law_meet false l_law_meet_1) (f := fun (k : Nat) => D.int k) (fun ρ => ∃ a2, ρ = [some (.sh (rowD r n)), some (.sh (rowD s n)), a2]) (fun k => up r k n && (up s k n && eqB r s n k)) (fun _ => .bl true) (List.range r.many) [some (.sh (rowD r n)), some (.sh (rowD s n)), none] ⟨none, rfl⟩ (fun k hk ρ hρ => by
    obtain ⟨a2, rfl⟩ := hρ
    have hk' := List.mem_range.mp hk
    have st := mt_cell (b := up s k n && eqB r s n k) (ix_rangeL (f := vwO r n) hk') (ix_rangeL (f := vwO s n) (show k < s.many by omega)) (fun c => by rw [vwO_isN] at c; exact dEq_vw hm hn c)
    rw [vwO_isN] at st
    refine ⟨_, rfl, ?_⟩
    by_cases c : (up r k n && (up s k n && eqB r s n k)) = true
    · rw [if_pos c] at st ⊢; exact st
    · rw [if_neg c] at st ⊢; exact ⟨_, st, _, rfl⟩)
  have hl : dLen [rowD r n] = some (.int r.many) := by
    unfold rowD
    rw [len_lst (by rw [List.length_map]; exact lim_range (by omega)), List.length_map, List.length_range]
  have hX := rng1_small (n := r.many) (by omega)
  cases e : (List.range r.many).find? fun k => up r k n && (up s k n && eqB r s n k) with
  | none =>
    rw [e] at go
    obtain ⟨ρ2, go, _⟩ := go
    have eb : mtB n r s = false := by
      unfold mtB
      rw [List.any_eq_false]
      exact List.find?_eq_none.mp e
    rw [eb]
    rcases mt_top hl hX go with z | ⟨_, _, z⟩ | ⟨_, _, z⟩
    · exact z
    · cases z
    · cases z
  | some k =>
    rw [e] at go
    have eb : mtB n r s = true := by
      unfold mtB
      rw [List.any_eq_true]
      exact ⟨k, List.mem_of_find?_eq_some e, List.find?_some (p := fun k => up r k n && (up s k n && eqB r s n k)) e⟩
    rw [eb]
    rcases mt_top hl hX go with z | ⟨_, _, z⟩ | ⟨_, _, z⟩
    · exact z
    · cases z
    · cases z
theorem eqB_self {r : Rn} : ∀ {n h : Nat}, eqB r r n h = true
  | 0, h => decide_eq_true rfl
  | n + 1, h => by
    show ((List.range r.many).all fun o => (Hp_ r (n + 1) h o == Hp_ r (n + 1) h o) && (!Hp_ r (n + 1) h o || eqB r r n o)) = true
    rw [List.all_eq_true]
    intro o _
    rw [eqB_self (n := n) (h := o)]
    simp
theorem eqB_of {r s : Rn} (hm : r.many = s.many) {n h : Nat} (e : vw r n h = vw s n h) : eqB r s n h = true := by
  rw [← eqv_vw hm, ← e, eqv_vw rfl]; exact eqB_self
/-- the views of those that are up -/
def vsR (n : Nat) (r : Rn) : List D := ((List.range r.many).filter fun h => up r h n).map (vw r n)
theorem mem_vsR {n : Nat} {r : Rn} {d : D} : d ∈ vsR n r ↔ ∃ h, h < r.many ∧ up r h n = true ∧ d = vw r n h := by
  unfold vsR
  rw [List.mem_map]
  constructor
  · rintro ⟨h, h1, rfl⟩
    rw [List.mem_filter, List.mem_range] at h1
    exact ⟨h, h1.1, h1.2, rfl⟩
  · rintro ⟨h, h1, h2, rfl⟩
    exact ⟨h, by rw [List.mem_filter, List.mem_range]; exact ⟨h1, h2⟩, rfl⟩
theorem keyBs_iff : ∀ {ds : List D}, keyBs ds = true ↔ ∀ d ∈ ds, keyB d = true
  | [] => by simp [keyBs]
  | d :: ds => by simp [keyBs, keyBs_iff (ds := ds)]
theorem depthAll_le {m : Nat} : ∀ {ds : List D}, (∀ d ∈ ds, (nkD d).depth ≤ m) → NestedKey.depthAll (nkDs ds) ≤ m
  | [], _ => by simp [nkDs, NestedKey.depthAll]
  | d :: ds, h => by
    have h1 := h d (by simp)
    have h2 := depthAll_le (ds := ds) fun e he => h e (by simp [he])
    simp only [nkDs, NestedKey.depthAll]
    omega
theorem key_vw {r : Rn} : ∀ {n h : Nat}, keyB (vw r n h) = true ∧ (nkD (vw r n h)).depth ≤ 2 * n + 1
  | 0, h => by simp [vw, keyB, keyBs, nkD, nkDs, NestedKey.depth, NestedKey.depthAll]
  | n + 1, h => by
    have hp : ∀ d ∈ (List.range r.many).map (part r n h), keyB d = true ∧ (nkD d).depth ≤ 2 * n + 1 := fun d hd => by
      obtain ⟨o, _, rfl⟩ := List.mem_map.mp hd
      unfold part
      split
      · exact key_vw
      · simp [keyB, nkD, NestedKey.depth]
    rw [vw_succ]
    generalize (List.range r.many).map (part r n h) = L at *
    have h1 : keyBs L = true := keyBs_iff.mpr fun d hd => (hp d hd).1
    have h2 := depthAll_le fun d hd => (hp d hd).2
    simp only [keyB, keyBs, nkD, nkDs, NestedKey.depth, NestedKey.depthAll, h1]
    exact ⟨rfl, by omega⟩
theorem vw_tup {r : Rn} {n h : Nat} : ∃ d, vw r n h = .tup [.int h, d] := by
  cases n with
  | zero => exact ⟨_, rfl⟩
  | succ n => exact ⟨_, vw_succ⟩
/-- all of the runs' views -/
def vsL (n : Nat) (rs : List Rn) : List (List D) := rs.map (vsR n)
theorem vsL_ok {n : Nat} (hn : n ≤ 3) {rs : List Rn} (K : ∀ r ∈ rs, r.Ok) (hl : rs.length ≤ 1000) : VwsOk (vsL n rs) := by
  refine ⟨fun row hr d hd => ?_, by unfold vsL; rw [List.length_map]; exact hl, fun row hr => ?_⟩
  · obtain ⟨r, h1, rfl⟩ := List.mem_map.mp hr
    obtain ⟨h, h2, h3, rfl⟩ := mem_vsR.mp hd
    obtain ⟨e, he⟩ := vw_tup (r := r) (n := n) (h := h)
    have hk := key_vw (r := r) (n := n) (h := h)
    exact ⟨⟨hk.1, by omega⟩, keyB_imm _ hk.1, _, he⟩
  · obtain ⟨r, h1, rfl⟩ := List.mem_map.mp hr
    unfold vsR
    rw [List.length_map]
    have := List.length_filter_le (fun h => up r h n) (List.range r.many)
    rw [List.length_range] at this
    have := (K r h1).hi
    omega
theorem vsL_at {n : Nat} {rs : List Rn} {i : Nat} (h : i < rs.length) : (vsL n rs).getD i [] = vsR n rs[i] := by
  unfold vsL
  rw [List.getD_eq_getElem?_getD, List.getElem?_map, List.getElem?_eq_getElem h]; rfl
theorem adj_iff {n m : Nat} {rs : List Rn} (hm : ∀ r ∈ rs, r.many = m) {i j : Nat} (hi : i < rs.length) (hj : j < rs.length) : Adj (vsL n rs) i j ↔ mtB n rs[i] rs[j] = true := by
  have e : rs[i].many = rs[j].many := by rw [hm _ (List.getElem_mem hi), hm _ (List.getElem_mem hj)]
  unfold Adj
  rw [vsL_at hi, vsL_at hj]
  have hl : (vsL n rs).length = rs.length := by unfold vsL; rw [List.length_map]
  rw [hl]
  constructor
  · rintro ⟨_, _, d, hd, f, hf, hk⟩
    obtain ⟨h, h1, h2, rfl⟩ := mem_vsR.mp hd
    obtain ⟨h', h1', h2', rfl⟩ := mem_vsR.mp hf
    have hv : vw rs[j] n h' = vw rs[i] n h := nk_inj _ _ key_vw.1 key_vw.1 hk
    have hh : h' = h := by
      obtain ⟨a, ha⟩ := vw_tup (r := rs[i]) (n := n) (h := h)
      obtain ⟨b, hb⟩ := vw_tup (r := rs[j]) (n := n) (h := h')
      rw [ha, hb] at hv
      simp only [D.tup.injEq, List.cons.injEq, D.int.injEq] at hv
      omega
    subst hh
    unfold mtB
    rw [List.any_eq_true]
    exact ⟨h', List.mem_range.mpr h1, by rw [h2, h2', eqB_of e hv.symm]; rfl⟩
  · intro hb
    unfold mtB at hb
    rw [List.any_eq_true] at hb
    obtain ⟨h, h1, h2⟩ := hb
    simp only [Bool.and_eq_true] at h2
    have h1 := List.mem_range.mp h1
    have hv := eqB_vw e h1 h2.2.2
    exact ⟨hi, hj, _, mem_vsR.mpr ⟨h, h1, h2.1, rfl⟩, _, mem_vsR.mpr ⟨h, by omega, h2.2.1, rfl⟩, by rw [hv]⟩
theorem av_row {r : Rn} (K : r.Ok) {n : Nat} (hn : n ≤ 3) {a0 : D} : ev G_all_views e_all_views_3 [some (.sh a0), some (.sh (.int n)), some (.sh r.d), none] = some (.fr, .lst (vsR n r)) := by
  have hi := K.hi
  have h := ev_lcm (Γ := G_all_views) (own := [("view", 3)]) (t := .nm 3) (it := .val (.call 0 (.cons (.var 2) (.cons (.var 1) .nil)))) (c := c_all_views_1) (e := e_all_views_2) (b := false) (xs := List.range r.many) (f := vwO r n) (vw r n) (fun h => up r h n)
    (fun h => [some (.sh a0), some (.sh (.int n)), some (.sh r.d), some (.sh (vwO r n h))]) (ρ := [some (.sh a0), some (.sh (.int n)), some (.sh r.d), none]) (by simp [evi, e_views_of K (show n ≤ 100 by omega), itemsOf]) (by rw [List.length_range]; exact lim_small (by omega)) rfl (fun h hh => ⟨rfl, by simp [c_all_views_1, vwO_isN], fun hu => ⟨.sh, by simp [e_all_views_2, vwO, hu], shb_sh⟩⟩)
  exact h
theorem e_all_views {n : Nat} (hn : n ≤ 3) {rs : List Rn} (K : ∀ r ∈ rs, r.Ok) (hl : rs.length ≤ 1000) : R_all_views [.lst (rs.map Rn.d), .int n] = some (.lst ((vsL n rs).map .lst)) := by
  have h := ev_lcy (Γ := G_all_views) (own := [("run", 2)]) (t := .nm 2) (it := .val (.var 0)) (e := e_all_views_3) (b := false) (xs := rs) (f := Rn.d) (fun r => .lst (vsR n r)) (fun r => [some (.sh (.lst (rs.map Rn.d))), some (.sh (.int n)), some (.sh r.d), none]) (ρ := [some (.sh (.lst (rs.map Rn.d))), some (.sh (.int n)), none, none])
    (by simp [evi, itemsOf]) (lim_small hl) rfl (fun r hr => ⟨rfl, .fr, av_row (K r hr) hn, rfl⟩)
  rw [r_all_views]
  unfold b_all_views vsL
  simp [h, retR, retOk, isMut, outR, Function.comp_def]
theorem e_classes {n : Nat} (hn : n ≤ 3) {rs : List Rn} (K : ∀ r ∈ rs, r.Ok) (hl : rs.length ≤ 1000) : R_classes [.lst (rs.map Rn.d), .int n] = some (clD (vsL n rs)) :=
  clF_of (e_all_views hn K hl) (vsL_ok hn K hl) (by unfold vsL; rw [List.length_map, List.length_map])
/-- what is told of the classes, in plain words -/
structure ClsOk (n : Nat) (rs : List Rn) (Gs : List (List Nat)) : Prop where
  all : ∀ p, p < rs.length ↔ ∃ G ∈ Gs, p ∈ G
  ris : ∀ G ∈ Gs, G.Pairwise (· < ·)
  hd : ∀ G ∈ Gs, ∃ h t, G = h :: t ∧ ∀ x ∈ G, Pa (vsL n rs) h x
  cl : ∀ G ∈ Gs, ∀ x ∈ G, ∀ j, Adj (vsL n rs) x j → j ∈ G
  hds : (Gs.map (·.headD 0)).Pairwise (· < ·)
  dis : Gs.flatten.Nodup
theorem cls_of {n : Nat} (rs : List Rn) : ∃ Gs, clD (vsL n rs) = .lst (Gs.map fun G => .lst (G.map fun (p : Nat) => .int p)) ∧ ClsOk n rs Gs := by
  have hl : (vsL n rs).length = rs.length := by unfold vsL; rw [List.length_map]
  obtain ⟨Gs, e, ok⟩ := clGo_spec (vss := vsL n rs) (vsL n rs).length (Nat.le_refl _)
  refine ⟨Gs, ?_, ⟨fun p => ?_, ok.ris, fun G hG => ?_, ok.cl, ok.hds, ok.dis⟩⟩
  · unfold clD
    rw [e, List.map_map]
    refine congrArg D.lst (List.map_congr_left fun G _ => ?_)
    simp only [Function.comp, natI, List.map_map]
    rfl
  · rw [← ok.mem]
    exact ⟨fun h => ok.low p (by omega), fun h => by have := ok.lt p h; omega⟩
  · obtain ⟨h, t, a, _, b⟩ := ok.hd G hG
    exact ⟨h, t, a, b⟩
end DD
set_option Elab.async false
set_option linter.all false
set_option maxRecDepth 100000
set_option maxHeartbeats 1000000
namespace DD
open PySem L2 PyProof.Rows RZ
instance : Inhabited Rn := ⟨⟨0, fun _ => 0, fun _ => none⟩⟩
abbrev rAt (rs : List Rn) (i : Nat) : Rn := rs.getD i default
theorem rAt_lt {rs : List Rn} {i : Nat} (h : i < rs.length) : rAt rs i = rs[i] := by
  unfold rAt; rw [List.getD_eq_getElem?_getD, List.getElem?_eq_getElem h]; rfl
def natD (F : List Nat) : D := .lst (F.map fun (p : Nat) => .int p)
theorem natD_at {F : List Nat} {k x : Nat} (h : F[k]? = some x) : dIx (natD F) (.int k) = some (.int x) := ix_mapL (f := fun (p : Nat) => D.int p) h
/-- one more, if it is new and met -/
def rStep (mt : Nat → Bool) (F : List Nat) (o : Nat) : List Nat := if (!decide (o ∈ F) && mt o) = true then F ++ [o] else F
theorem lr_cell {V Gd d e : D} {F : List Nat} {k o x : Nat} {mt : Nat → Bool} (hx : F[k]? = some x) (h1 : dIx V (.int x) = some d) (h2 : dIx V (.int o) = some e) (hm : o ∉ F → R_law_meet [d, e] = some (.bl (mt o))) (hl : F.length < lim) :
    exs G_law_reached_2 false l_law_reached_2_2 [some (.sh V), some (.sh Gd), some (.ow (natD F)), some (.sh (.int k)), some (.sh (.int o))] = some (.nx [some (.sh V), some (.sh Gd), some (.ow (natD (rStep mt F o))), some (.sh (.int k)), some (.sh (.int o))]) := by
  have e0 := natD_at hx
  have e1 := d_notin_nats (hs := F) (k := o)
  unfold rStep
  by_cases c : o ∈ F
  · rw [decide_eq_true c] at e1 ⊢
    simp only [Bool.not_true, Bool.false_and, Bool.false_eq_true, if_false]
    exact Eq.trans (st_skip (by unfold natD; simp [e1])) xs_nil
  · have hm := hm c
    rw [decide_eq_false c] at e1 ⊢
    simp only [Bool.not_false, Bool.true_and]
    cases hmt : mt o with
    | false =>
      rw [hmt] at hm
      simp only [Bool.false_eq_true, if_false]
      unfold natD at *
      exact Eq.trans (st_skip (by simp [e1, e0, h1, h2, hm])) xs_nil
    | true =>
      rw [hmt] at hm
      simp only [if_true]
      unfold natD at *
      refine Eq.trans (st_into (ρ2 := [some (.sh V), some (.sh Gd), some (.ow (.lst ((F ++ [o]).map fun (p : Nat) => .int p))), some (.sh (.int k)), some (.sh (.int o))]) (by simp [e1, e0, h1, h2, hm]) ?_) xs_nil
      simp [appR, owned, hl, shb, setS]
/-- all of the group asked once -/
def rRow (mt : Nat → Bool) (F G : List Nat) : List Nat := G.foldl (rStep mt) F
theorem rStep_ext {mt : Nat → Bool} {F : List Nat} {o : Nat} : ∃ E, rStep mt F o = F ++ E := by
  unfold rStep
  split
  · exact ⟨[o], rfl⟩
  · exact ⟨[], by simp⟩
theorem rRow_ext {mt : Nat → Bool} : ∀ (G : List Nat) {F : List Nat}, ∃ E, rRow mt F G = F ++ E
  | [], F => ⟨[], by simp [rRow]⟩
  | o :: G, F => by
    obtain ⟨E, h⟩ := rStep_ext (mt := mt) (F := F) (o := o)
    obtain ⟨E2, h2⟩ := rRow_ext (mt := mt) G (F := rStep mt F o)
    exact ⟨E ++ E2, by show rRow mt (rStep mt F o) G = _; rw [h2, h, List.append_assoc]⟩
theorem rStep_mem {mt : Nat → Bool} {F : List Nat} {o x : Nat} : x ∈ rStep mt F o ↔ x ∈ F ∨ (x = o ∧ mt o = true) := by
  unfold rStep
  by_cases c : o ∈ F
  · rw [decide_eq_true c]
    simp only [Bool.not_true, Bool.false_and, Bool.false_eq_true, if_false]
    constructor
    · exact .inl
    · rintro (h | ⟨h, _⟩)
      · exact h
      · subst h; exact c
  · rw [decide_eq_false c]
    cases mt o <;> simp
theorem rRow_mem {mt : Nat → Bool} {x : Nat} : ∀ (G : List Nat) {F : List Nat}, x ∈ rRow mt F G ↔ x ∈ F ∨ (x ∈ G ∧ mt x = true)
  | [], F => by simp [rRow]
  | o :: G, F => by
    show x ∈ rRow mt (rStep mt F o) G ↔ _
    rw [rRow_mem G, rStep_mem]
    constructor
    · rintro ((h | ⟨h, h2⟩) | ⟨h, h2⟩)
      · exact .inl h
      · subst h; exact .inr ⟨by simp, h2⟩
      · exact .inr ⟨by simp [h], h2⟩
    · rintro (h | ⟨h, h2⟩)
      · exact .inl (.inl h)
      · rcases List.mem_cons.mp h with h | h
        · subst h; exact .inl (.inr ⟨rfl, h2⟩)
        · exact .inr ⟨h, h2⟩
theorem rStep_nd {mt : Nat → Bool} {F : List Nat} {o : Nat} (h : F.Nodup) : (rStep mt F o).Nodup := by
  unfold rStep
  split
  · rename_i c
    simp only [Bool.and_eq_true, Bool.not_eq_true', decide_eq_false_iff_not] at c
    exact List.nodup_append.mpr ⟨h, by simp, fun x hx y hy => by simp at hy; subst hy; exact fun z => c.1 (z ▸ hx)⟩
  · exact h
theorem rRow_nd {mt : Nat → Bool} : ∀ (G : List Nat) {F : List Nat}, F.Nodup → (rRow mt F G).Nodup
  | [], F, h => h
  | o :: G, F, h => rRow_nd G (rStep_nd h)
theorem nd_len {F G : List Nat} (h : F.Nodup) (hs : ∀ x ∈ F, x ∈ G) : F.length ≤ G.length := by
  induction G generalizing F with
  | nil =>
    cases F with
    | nil => exact Nat.le_refl _
    | cons x F => exact absurd (hs x (by simp)) (by simp)
  | cons g G ih =>
    have h1 := ih (F := F.erase g) (h.erase g) (fun x hx => by
      rw [h.mem_erase_iff] at hx
      rcases List.mem_cons.mp (hs x hx.2) with e | e
      · exact absurd e hx.1
      · exact e)
    rw [List.length_erase] at h1
    rw [List.length_cons]
    split at h1 <;> omega
theorem lr_row {V : D} {F G : List Nat} {k x : Nat} {mt : Nat → Bool} {R : Nat → D} (hx : F[k]? = some x) (hV : ∀ o, o ∈ G ∨ o = x → dIx V (.int o) = some (R o)) (hm : ∀ o ∈ G, R_law_meet [R x, R o] = some (.bl (mt o))) (nd : F.Nodup) (hs : ∀ y ∈ F, y ∈ G) (hG : G.length < 1000) {a4 : Option Sl} :
    ∃ b4, exs G_law_reached_2 false l_law_reached_2_3 [some (.sh V), some (.sh (natD G)), some (.ow (natD F)), some (.sh (.int k)), a4] = some (.nx [some (.sh V), some (.sh (natD G)), some (.ow (natD (rRow mt F G))), some (.sh (.int ((k + 1 : Nat) : Int))), b4]) := by
  obtain ⟨ρ2, hw, b4, e2⟩ := for_go (t := .nm 4) (body := exs G_law_reached_2 false l_law_reached_2_2) (f := fun (p : Nat) => D.int p) (ρ := [some (.sh V), some (.sh (natD G)), some (.ow (natD F)), some (.sh (.int k)), a4]) G
    (fun p ρ => ∃ b4, ρ = [some (.sh V), some (.sh (natD G)), some (.ow (natD (rRow mt F p))), some (.sh (.int k)), b4]) ⟨a4, rfl⟩ (by
      rintro p o q e ρ ⟨b4, rfl⟩
      have ho : o ∈ G := by rw [e]; simp
      obtain ⟨E, hE⟩ := rRow_ext (mt := mt) p (F := F)
      have hlt : k < F.length := (List.getElem?_eq_some_iff.mp hx).1
      have hx2 : (rRow mt F p)[k]? = some x := by rw [hE, List.getElem?_append_left hlt]; exact hx
      have hsub : ∀ y ∈ rRow mt F p, y ∈ G := fun y hy => by
        rcases (rRow_mem p).mp hy with h | ⟨h, _⟩
        · exact hs y h
        · rw [e]; simp [h]
      have hl : (rRow mt F p).length < lim := by
        have := nd_len (rRow_nd (mt := mt) p nd) hsub
        have : (1000 : Nat) ≤ lim := by decide
        omega
      have := lr_cell (Gd := natD G) (mt := mt) hx2 (hV x (.inr rfl)) (hV o (.inl ho)) (fun _ => hm o ho) hl
      exact ⟨_, _, rfl, this, some (.sh (.int o)), by unfold rRow; rw [List.foldl_append]; rfl⟩)
  subst e2
  refine ⟨b4, ?_⟩
  unfold l_law_reached_2_3
  refine Eq.trans (st_for (ds := G.map fun (p : Nat) => D.int p) (by simp [natD, evi, itemsOf]) hw) ?_
  refine Eq.trans (st_set (d := .int ((k + 1 : Nat) : Int)) (by simp) rfl) ?_
  simp
theorem e_reached {V : D} {h : Nat} {G t : List Nat} {mt : Nat → Nat → Bool} {R : Nat → D} {A : Nat → Nat → Prop} (hG : G = h :: t) (hV : ∀ o ∈ G, dIx V (.int o) = some (R o)) (hm : ∀ x ∈ G, ∀ o ∈ G, R_law_meet [R x, R o] = some (.bl (mt x o))) (nd : G.Nodup) (hl : G.length ≤ 28)
    (pa : ∀ Pr : Nat → Prop, Pr h → (∀ x y, Pr x → x ∈ G → y ∈ G → mt x y = true → Pr y) → ∀ x ∈ G, Pr x) :
    ∃ F : List Nat, F.Perm G ∧ R_law_reached_2 [V, natD G] = some (natD F) := by
  obtain ⟨ρ2, m, hw, ⟨F, k, a4, n1, n2, n3, n4, n5, n6, rfl⟩, hend⟩ := whl_gox (c := fun y => toB (ev G_law_reached_2 c_law_reached_2_1 y)) (body := exs G_law_reached_2 false l_law_reached_2_3)
    (fun n ρ => ∃ (F : List Nat) (k : Nat) (a4 : Option Sl), F.Nodup ∧ (∀ y ∈ F, y ∈ G) ∧ h ∈ F ∧ k ≤ F.length ∧ n + k = G.length ∧ (∀ x ∈ F.take k, ∀ y ∈ G, mt x y = true → y ∈ F) ∧ ρ = [some (.sh V), some (.sh (natD G)), some (.ow (natD F)), some (.sh (.int k)), a4]) (by
      rintro n ρ ⟨F, k, a4, n1, n2, n3, n4, n5, n6, rfl⟩
      have hF := nd_len n1 n2
      have hd : dLen [natD F] = some (.int F.length) := by
        unfold natD
        rw [len_lst (by rw [List.length_map]; exact lim_small (by omega)), List.length_map]
      refine ⟨decide ((k : Int) < (F.length : Int)), by simp [c_law_reached_2_1, hd], fun hb => ?_⟩
      have hk : k < F.length := by have := of_decide_eq_true hb; omega
      obtain ⟨m, rfl⟩ : ∃ m, n = m + 1 := ⟨n - 1, by omega⟩
      have hx : F[k]? = some F[k] := List.getElem?_eq_getElem hk
      have hxG : F[k] ∈ G := n2 _ (List.getElem_mem hk)
      obtain ⟨b4, hrow⟩ := lr_row (V := V) (G := G) (mt := mt F[k]) (R := R) (a4 := a4) hx (fun o ho => ho.elim (hV o) fun z => by rw [z]; exact hV _ hxG) (fun o ho => hm _ hxG o ho) n1 n2 (by omega)
      obtain ⟨E, hE⟩ := rRow_ext (mt := mt F[k]) G (F := F)
      refine ⟨m, _, rfl, hrow, _, k + 1, b4, rRow_nd G n1, fun y hy => ?_, (rRow_mem G).mpr (.inl n3), by rw [hE, List.length_append]; omega, by omega, fun x hx' y hy hxy => ?_, rfl⟩
      · rcases (rRow_mem G).mp hy with z | z
        · exact n2 y z
        · exact z.1
      · rw [hE, List.take_append_of_le_length (by omega), List.take_succ_eq_append_getElem hk] at hx'
        rcases List.mem_append.mp hx' with z | z
        · exact (rRow_mem G).mpr (.inl (n6 x z y hy hxy))
        · rw [List.mem_singleton] at z
          subst z
          exact (rRow_mem G).mpr (.inr ⟨hy, hxy⟩)) FUEL G.length [some (.sh V), some (.sh (natD G)), some (.ow (natD [h])), some (.sh (.int 0)), none] (by unfold FUEL; omega)
    ⟨[h], 0, none, by simp, fun y hy => by simp at hy; subst hy; rw [hG]; simp, by simp, by simp, by omega, fun x hx => by simp at hx, rfl⟩
  have hF := nd_len n1 n2
  have hd : dLen [natD F] = some (.int F.length) := by
    unfold natD
    rw [len_lst (by rw [List.length_map]; exact lim_small (by omega)), List.length_map]
  have hk : k = F.length := by
    simp [c_law_reached_2_1, hd] at hend
    omega
  subst hk
  rw [List.take_length] at n6
  have all : ∀ x ∈ G, x ∈ F := pa (fun x => x ∈ F) n3 fun x y hx _ hy hxy => n6 x hx y hy hxy
  refine ⟨F, ?_, ?_⟩
  · exact (List.perm_ext_iff_of_nodup n1 nd).mpr fun a => ⟨n2 a, all a⟩
  · rw [r_law_reached_2]
    have h0 : dIx (natD G) (.int 0) = some (.int h) := by rw [hG]; unfold natD; simp [dIx, atI, L2.ixN]
    unfold b_law_reached_2
    rw [show exs G_law_reached_2 false (.cons (.set 2 (.lst (.cons (.ix (.var 1) (.int 0)) .nil))) (.cons (.set 3 (.int 0)) (.cons (.whl FUEL c_law_reached_2_1 l_law_reached_2_3) (.cons (.ret (.var 2)) .nil)))) [some (.sh V), some (.sh (natD G)), none, none, none] = exs G_law_reached_2 false (.cons (.ret (.var 2)) .nil) [some (.sh V), some (.sh (natD G)), some (.ow (natD F)), some (.sh (.int F.length)), a4] from by
      refine Eq.trans (st_setL (L := [.int h]) (by simp [h0])) ?_
      refine Eq.trans (st_set (d := .int 0) (by simp) rfl) ?_
      exact st_whl hw]
    have hi : immE (natD F) = true := by
      unfold natD
      simp only [immE]
      exact immL_map fun _ _ => rfl
    unfold natD at *
    simp [retR, retOk, isMut, hi, outR]
end DD
set_option Elab.async false
set_option linter.all false
set_option maxRecDepth 100000
set_option maxHeartbeats 1000000
namespace DD
open PySem L2 PyProof.Rows RZ
def whD (ps : List (Nat × Nat)) : D := .dic (ps.map fun p => .inl (p.1 : Int)) (ps.map fun p => .int p.2)
theorem wh_has {ps : List (Nat × Nat)} {p : Nat} : hasK (.inl (p : Int)) (ps.map fun q => (.inl (q.1 : Int) : Key)) = decide (p ∈ ps.map (·.1)) := by
  induction ps with
  | nil => rfl
  | cons q ps ih =>
    unfold hasK at *
    rw [List.map_cons, List.any_cons, ih, List.map_cons]
    by_cases c : q.1 = p
    · rw [show decide ((Sum.inl (q.1 : Int) : Key) = Sum.inl (p : Int)) = true from decide_eq_true (by rw [c])]
      simp [c]
    · rw [show decide ((Sum.inl (q.1 : Int) : Key) = Sum.inl (p : Int)) = false from decide_eq_false (fun z => c (by have := Sum.inl.inj z; omega))]
      rw [Bool.false_or]
      refine decide_eq_decide.mpr ?_
      rw [List.mem_cons]
      constructor
      · exact .inr
      · rintro (h | h)
        · exact absurd h.symm c
        · exact h
theorem wh_in {ps : List (Nat × Nat)} {p : Nat} : dCmp .isin (.int p) (whD ps) = some (decide (p ∈ ps.map (·.1))) := by
  unfold whD dCmp
  simp only
  rw [wh_has]
theorem wh_sto {ps : List (Nat × Nat)} {p k : Nat} (h : p ∉ ps.map (·.1)) (hl : ps.length < lim) : dSto (whD ps) (.int p) (.int k) = some (whD (ps ++ [(p, k)])) := by
  unfold whD dSto
  simp only [List.length_map, hl, if_true, keyD, Option.map_some, putD]
  rw [wh_has, decide_eq_false h]
  simp
theorem wh_at {ps : List (Nat × Nat)} {p k : Nat} (hn : (ps.map (·.1)).Nodup) (h : (p, k) ∈ ps) : dIx (whD ps) (.int p) = some (.int k) := by
  unfold whD dIx
  simp only [keyD, Option.bind_some]
  induction ps with
  | nil => cases h
  | cons q ps ih =>
    rw [List.map_cons, List.nodup_cons] at hn
    simp only [List.map_cons, lookD]
    by_cases c : q.1 = p
    · rw [if_pos (by rw [c])]
      rcases List.mem_cons.mp h with e | e
      · rw [← e]
      · exact absurd (List.mem_map_of_mem (f := (·.1)) e) (by rw [← c] at *; exact hn.1)
    · rw [if_neg (fun z => c (by have := Sum.inl.inj z; omega))]
      rcases List.mem_cons.mp h with e | e
      · exact absurd (by rw [← e]) c
      · exact ih hn.2 e
theorem lg_cell {Fd m g : D} {ps : List (Nat × Nat)} {k p : Nat} (h : p ∉ ps.map (·.1)) (hl : ps.length < lim) :
    exs G_law_groups false l_law_groups_3 [some (.sh Fd), some (.sh m), some (.ow (whD ps)), some (.sh (.int k)), some (.sh g), some (.sh (.int p))] = some (.nx [some (.sh Fd), some (.sh m), some (.ow (whD (ps ++ [(p, k)]))), some (.sh (.int k)), some (.sh g), some (.sh (.int p))]) := by
  have e1 := wh_in (ps := ps) (p := p)
  rw [decide_eq_false h] at e1
  have e2 := wh_sto (k := k) h hl
  unfold l_law_groups_3
  refine Eq.trans (st_skip (by simp [e_law_whole_3, e1])) ?_
  refine Eq.trans (st_one (ρ2 := [some (.sh Fd), some (.sh m), some (.ow (whD (ps ++ [(p, k)]))), some (.sh (.int k)), some (.sh g), some (.sh (.int p))]) ?_) xs_nil
  simp [stoR, owned, e2, shb, isMut, setS]
theorem lg_cells {Fd m g : D} {k : Nat} : ∀ (G : List Nat) {ps : List (Nat × Nat)} {a5 : Option Sl}, (ps.map (·.1) ++ G).Nodup → ps.length + G.length < 1000 →
    ∃ b5, forGo (.nm 5) (exs G_law_groups false l_law_groups_3) (G.map fun (p : Nat) => D.int p) [some (.sh Fd), some (.sh m), some (.ow (whD ps)), some (.sh (.int k)), some (.sh g), a5] = some (.nx [some (.sh Fd), some (.sh m), some (.ow (whD (ps ++ G.map fun p => (p, k)))), some (.sh (.int k)), some (.sh g), b5])
  | [], ps, a5, _, _ => ⟨a5, by simp⟩
  | p :: G, ps, a5, hn, hl => by
    have hp : p ∉ ps.map (·.1) := fun z => (List.nodup_append.mp hn).2.2 p z p (by simp) rfl
    have hl' : ps.length < lim := Nat.lt_of_lt_of_le (show ps.length < 1000 by simp at hl; omega) (by decide)
    obtain ⟨b5, h⟩ := lg_cells (Fd := Fd) (m := m) (g := g) (k := k) G (ps := ps ++ [(p, k)]) (a5 := some (.sh (.int p))) (by rw [List.map_append, List.append_assoc]; exact hn) (by simp at hl ⊢; omega)
    refine ⟨b5, ?_⟩
    rw [List.map_cons, forGo_cons]
    have e : bindT (.nm 5) (.int p) [some (.sh Fd), some (.sh m), some (.ow (whD ps)), some (.sh (.int k)), some (.sh g), a5] = some [some (.sh Fd), some (.sh m), some (.ow (whD ps)), some (.sh (.int k)), some (.sh g), some (.sh (.int p))] := rfl
    rw [e, Option.bind_some, lg_cell hp hl', Option.bind_some, nxO_nx, h, List.append_assoc]
    rfl
theorem op_ss {G : List Nat} (h : G.Pairwise (· < ·)) (hl : G.length < 64) {f : Fl} : ssF [(f, natD G)] = some (.fr, natD G) := by
  unfold natD
  rw [nats_map]
  unfold ssF
  simp only [intsOf_of, Option.bind_some, List.length_map]
  rw [if_pos]
  rw [Bool.and_eq_true, decide_eq_true_eq]
  refine ⟨?_, hl⟩
  unfold risB
  rw [dte, List.pairwise_map]
  exact h.imp fun h => by omega
theorem natD_plain {G : List Nat} : plainD 1 (natD G) = true := by
  unfold natD; rw [nats_map]; exact ints_plain _
theorem natD_ne {G : List Nat} : dCmp .ne (natD G) (natD G) = some false := by
  show (dEq (natD G) (natD G)).map not = _
  rw [dEq_refl natD_plain]; rfl
theorem lg_group {Fd m : D} {k : Nat} {G : List Nat} {ps : List (Nat × Nat)} {a5 : Option Sl} (h0 : G ≠ []) (hr : G.Pairwise (· < ·)) (hl : G.length < 64) (hn : (ps.map (·.1) ++ G).Nodup) (hl2 : ps.length + G.length < 1000) :
    ∃ b5, exs G_law_groups false l_law_groups_4 [some (.sh Fd), some (.sh m), some (.ow (whD ps)), some (.sh (.int k)), some (.sh (natD G)), a5] = some (.nx [some (.sh Fd), some (.sh m), some (.ow (whD (ps ++ G.map fun p => (p, k)))), some (.sh (.int k)), some (.sh (natD G)), b5]) := by
  obtain ⟨b5, h⟩ := lg_cells (Fd := Fd) (m := m) (g := natD G) (k := k) G (a5 := a5) hn hl2
  refine ⟨b5, ?_⟩
  have e1 := op_ss hr hl (f := .sh)
  have e2 := natD_ne (G := G)
  have e3 : dLen [natD G] = some (.int G.length) := by
    unfold natD
    rw [len_lst (by rw [List.length_map]; exact lim_small (by omega)), List.length_map]
  have e4 : ¬ (G.length : Int) = 0 := by
    have := List.length_pos_iff.mpr h0
    omega
  have e5 : isLs (natD G) = true := rfl
  have e6 : op_sset.F = ssF := rfl
  unfold l_law_groups_4
  refine Eq.trans (st_skip ?_) ?_
  · simp [e3, h0, e5, e6, e1, e2]
  · refine Eq.trans (st_for (ds := G.map fun (p : Nat) => D.int p) (by simp [natD, evi, itemsOf]) h) xs_nil
def whZ (zs : List (List Nat × Nat)) : List (Nat × Nat) := zs.flatMap fun q => q.1.map fun p => (p, q.2)
theorem whZ_fst (zs : List (List Nat × Nat)) : (whZ zs).map (·.1) = (zs.map (·.1)).flatten := by
  unfold whZ
  induction zs with
  | nil => rfl
  | cons q zs ih => simp [List.flatMap_cons, ih, List.map_map, Function.comp_def]
theorem enum_map {α : Type} (f : α → D) (xs : List α) : (List.range (xs.map f).length).zipWith (fun (i : Nat) d => D.tup [.int i, d]) (xs.map f) = xs.zipIdx.map fun q => .tup [.int q.2, f q.1] := by
  rw [List.length_map]
  apply List.ext_getElem
  · simp
  · intro i h1 h2
    simp
theorem flat_pre {Gs : List (List Nat)} {p : List (List Nat × Nat)} {q : List Nat × Nat} {s : List (List Nat × Nat)} (e : Gs.zipIdx = p ++ q :: s) : (p.map (·.1)).flatten ++ q.1 ++ (s.map (·.1)).flatten = Gs.flatten := by
  have : Gs = (Gs.zipIdx.map (·.1)) := by simp
  rw [this, e]
  simp
theorem lg_all {m : D} {Gs : List (List Nat)} (h0 : ∀ G ∈ Gs, G ≠ []) (hr : ∀ G ∈ Gs, G.Pairwise (· < ·)) (hn : Gs.flatten.Nodup) (hl : Gs.flatten.length < 64) :
    ∃ b3 b4 b5, (b4 = none ∨ ∃ d, b4 = some (.sh d)) ∧ forGo (.tp [3, 4]) (exs G_law_groups false l_law_groups_4) (Gs.zipIdx.map fun q => D.tup [.int q.2, natD q.1]) [some (.sh (.lst (Gs.map natD))), some (.sh m), some (.ow (whD [])), none, none, none] =
      some (.nx [some (.sh (.lst (Gs.map natD))), some (.sh m), some (.ow (whD (whZ Gs.zipIdx))), b3, b4, b5]) := by
  obtain ⟨ρ2, hw, b3, b4, b5, n4, e2⟩ := for_go (t := .tp [3, 4]) (body := exs G_law_groups false l_law_groups_4) (f := fun q : List Nat × Nat => D.tup [.int q.2, natD q.1]) (ρ := [some (.sh (.lst (Gs.map natD))), some (.sh m), some (.ow (whD [])), none, none, none]) Gs.zipIdx
    (fun p ρ => ∃ b3 b4 b5, (b4 = none ∨ ∃ d, b4 = some (.sh d)) ∧ ρ = [some (.sh (.lst (Gs.map natD))), some (.sh m), some (.ow (whD (whZ p))), b3, b4, b5]) ⟨none, none, none, .inl rfl, rfl⟩ (by
      rintro p q s e ρ ⟨b3, b4, b5, _, rfl⟩
      have hq : q.1 ∈ Gs := by
        have : q ∈ Gs.zipIdx := by rw [e]; simp
        exact (List.mem_zipIdx this).2.2 ▸ List.getElem_mem _
      have hf := flat_pre e
      have hn1 : ((p.map (·.1)).flatten ++ q.1).Nodup := by
        rw [← hf] at hn
        exact (List.nodup_append.mp hn).1
      have hlen : (p.map (·.1)).flatten.length + q.1.length < 64 := by
        rw [← hf, List.length_append, List.length_append] at hl
        omega
      obtain ⟨c5, h⟩ := lg_group (Fd := .lst (Gs.map natD)) (m := m) (k := q.2) (G := q.1) (ps := whZ p) (a5 := b5) (h0 _ hq) (hr _ hq) (by omega) (by rw [whZ_fst]; exact hn1) (by
        have := congrArg List.length (whZ_fst p)
        rw [List.length_map] at this
        omega)
      exact ⟨_, _, rfl, h, some (.sh (.int q.2)), some (.sh (natD q.1)), c5, .inr ⟨_, rfl⟩, by simp [whZ]⟩)
  exact ⟨b3, b4, b5, n4, by rw [hw, e2]⟩
theorem heads_ev {Gs : List (List Nat)} (h0 : ∀ G ∈ Gs, G ≠ []) {e : CE} (he : e = .ix (.var 4) (.int 0)) {a1 a2 a3 a4 a5 : Option Sl} (hl : Gs.length ≤ 1000) (ho : noOwn [some (.sh (.lst (Gs.map natD))), a1, a2, a3, a4, a5] [4] = true) :
    ev G_law_groups (.lc [("group", 4)] (.nm 4) (.val (.var 0)) (.bl true) e) [some (.sh (.lst (Gs.map natD))), a1, a2, a3, a4, a5] = some (.fr, natD (Gs.map (·.headD 0))) := by
  subst he
  have h := ev_lcy (Γ := G_law_groups) (own := [("group", 4)]) (t := .nm 4) (it := .val (.var 0)) (e := .ix (.var 4) (.int 0)) (b := false) (xs := Gs) (f := natD) (fun G => .int (G.headD 0 : Nat)) (fun G => [some (.sh (.lst (Gs.map natD))), a1, a2, a3, some (.sh (natD G)), a5])
    (ρ := [some (.sh (.lst (Gs.map natD))), a1, a2, a3, a4, a5]) (by simp [evi, itemsOf]) (lim_small hl) ho (fun G hG => ⟨rfl, .sh, by
      have : dIx (natD G) (.int 0) = some (.int (G.headD 0 : Nat)) := by
        cases hc : G with
        | nil => exact absurd hc (h0 G hG)
        | cons x t => unfold natD; simp [dIx, atI, L2.ixN]
      simp [this], rfl⟩)
  rw [h]
  unfold natD
  rw [List.map_map]; rfl
theorem sorted_nat {L M : List Nat} (hp : L.Perm M) (hs : M.Pairwise (· ≤ ·)) : dBI .sorted [natD L] = some (natD M) := by
  unfold natD
  rw [nats_map, nats_map]
  simp only [dBI, dSorted, intsOf_of]
  congr 3
  refine (sort_unique ((hp.symm).map _) ?_).symm
  rw [List.pairwise_map]
  exact hs.imp fun h => by omega
theorem e_groups {m : Nat} {Gs : List (List Nat)} (h0 : ∀ G ∈ Gs, G ≠ []) (hr : ∀ G ∈ Gs, G.Pairwise (· < ·)) (hn : Gs.flatten.Nodup) (hl : m < 64) (hall : ∀ p, p < m ↔ p ∈ Gs.flatten) (hd : (Gs.map (·.headD 0)).Pairwise (· < ·)) :
    R_law_groups [.lst (Gs.map natD), .int m] = some (whD (whZ Gs.zipIdx)) := by
  have hperm : Gs.flatten.Perm (List.range m) := (List.perm_ext_iff_of_nodup hn List.nodup_range).mpr fun a => by rw [List.mem_range]; exact (hall a).symm
  have hfl : Gs.flatten.length = m := by rw [hperm.length_eq, List.length_range]
  have hGl : Gs.length ≤ 63 := by
    have : ∀ (Ls : List (List Nat)), (∀ G ∈ Ls, G ≠ []) → Ls.length ≤ Ls.flatten.length := by
      intro Ls
      induction Ls with
      | nil => intro _; exact Nat.le_refl _
      | cons G Ls ih =>
        intro h
        have h1 := ih fun G hG => h G (by simp [hG])
        have h2 := List.length_pos_iff.mpr (h G (by simp))
        simp only [List.length_cons, List.flatten_cons, List.length_append]
        omega
    have := this Gs h0
    omega
  obtain ⟨b3, b4, b5, n4, hw⟩ := lg_all (m := .int m) h0 hr hn (by omega)
  have ho : noOwn [some (.sh (.lst (Gs.map natD))), some (.sh (.int m)), some (.ow (whD (whZ Gs.zipIdx))), b3, b4, b5] [4] = true := by
    rcases n4 with rfl | ⟨d, rfl⟩ <;> rfl
  have en : enumOf (.sh, .lst (Gs.map natD)) = some (false, Gs.zipIdx.map fun q => D.tup [.int q.2, natD q.1]) := by
    unfold enumOf
    dsimp only
    rw [enum_map]; rfl
  have el : lrgF [(.sh, .int m)] = some (.fr, natD (List.range m)) := by
    unfold lrgF natD
    dsimp only
    rw [if_pos (by rw [Bool.and_eq_true, decide_eq_true_eq, decide_eq_true_eq]; exact ⟨Int.natCast_nonneg _, by omega⟩), Int.toNat_natCast]
  have es : dBI .sorted [whD (whZ Gs.zipIdx)] = some (natD (List.range m)) := by
    have hk : (whZ Gs.zipIdx).map (·.1) = Gs.flatten := by rw [whZ_fst]; simp
    unfold whD
    simp only [dBI, dSorted, List.length_map]
    have hlen : (whZ Gs.zipIdx).length < 64 := by
      have := congrArg List.length hk
      rw [List.length_map] at this
      omega
    rw [if_pos hlen, show ((whZ Gs.zipIdx).map fun p => (Sum.inl (p.1 : Int) : Key)) = (Gs.flatten.map fun (p : Nat) => (p : Int)).map Sum.inl from by rw [← hk, List.map_map, List.map_map]; rfl, kintsOf_of]
    unfold natD
    rw [nats_map, Option.map_some]
    congr 3
    refine (sort_unique ((hperm.symm).map _) ?_).symm
    rw [List.pairwise_map]
    exact (List.pairwise_lt_range.imp fun h => by omega)
  have e1 := natD_ne (G := List.range m)
  have e2 := natD_ne (G := Gs.map (·.headD 0))
  have es2 : dBI .sorted [natD (Gs.map (·.headD 0))] = some (natD (Gs.map (·.headD 0))) := sorted_nat (List.Perm.refl _) (hd.imp fun h => by omega)
  have e6 : op_lrg.F = lrgF := rfl
  have hi : immE (whD (whZ Gs.zipIdx)) = true := by
    unfold whD
    simp only [immE]
    exact immL_map fun _ _ => rfl
  have hm : isMut (whD (whZ Gs.zipIdx)) = true := rfl
  rw [r_law_groups]
  unfold b_law_groups
  have h1 := heads_ev h0 (e := e_law_groups_1) rfl (by omega) ho
  have h2 := heads_ev h0 (e := e_law_groups_2) rfl (by omega) ho
  have hL : isLs (.lst (Gs.map natD)) = true := rfl
  generalize Gs.map (·.headD 0) = HH at *
  have hfin : exs G_law_groups false b_law_groups [some (.sh (.lst (Gs.map natD))), some (.sh (.int m)), none, none, none, none] = some (.rt (whD (whZ Gs.zipIdx))) := by
    unfold b_law_groups
    refine Eq.trans (st_skip (by simp [hL])) ?_
    refine Eq.trans (st_one (ρ2 := [some (.sh (.lst (Gs.map natD))), some (.sh (.int m)), some (.ow (whD [])), none, none, none]) (by simp [isMut, whD])) ?_
    refine Eq.trans (st_for (by simp [evi, en]) hw) ?_
    refine Eq.trans (st_skip (by simp [es, e6, el, e1])) ?_
    refine Eq.trans (st_skip (by simp [h1, h2, es2, e2])) ?_
    simp [retR, retOk, hm, hi]
  have := congrArg outR hfin
  simpa [b_law_groups, outR] using this
end DD
set_option Elab.async false
set_option linter.all false
set_option maxRecDepth 100000
set_option maxHeartbeats 1000000
namespace DD
open PySem L2 PyProof.Rows RZ
theorem runs_plain (rs : List Rn) : plainD 5 (.lst (rs.map Rn.d)) = true := by
  simp only [plainD, plainDs_iff]
  intro d hd
  obtain ⟨r, _, rfl⟩ := List.mem_map.mp hd
  exact plain_d r
theorem run_notin (r : Rn) (rs : List Rn) : ∃ b, dCmp .notin r.d (.lst (rs.map Rn.d)) = some b := by
  have h1 : shp r.d = true := plain_shp (plain_d r)
  have h2 : shp (.lst (rs.map Rn.d)) = true := plain_shp (runs_plain rs)
  unfold dCmp
  simp only [h1, h2, Bool.and_self, if_true]
  exact ⟨_, rfl⟩
theorem ll_turn {S : D} {C : Option Sl} {k c x l : Int} {rs : List Rn} {r s : Rn} {b : Bool} {a1 a5 a6 a7 : Option Sl} (h1 : dIx S (.int k) = some (.int c)) (h2 : R_law_mixed_2 [.int c, .int k] = some (.int x)) (hl : dLen [.lst (rs.map Rn.d)] = some (.int l)) (l0 : 0 < l) (h3 : dIx (.lst (rs.map Rn.d)) (.int (x % l)) = some r.d)
    (h4 : R_law_changed_2 [r.d, .int (x / 30), .int (c / 4)] = some s.d) (h5 : dCmp .notin s.d (.lst (rs.map Rn.d)) = some b) (hlim : rs.length < lim) :
    exs G_law_list false l_law_list_1 [some (.sh S), a1, C, some (.ow (.lst (rs.map Rn.d))), some (.sh (.int k)), a5, a6, a7] = some (.nx [some (.sh S), a1, C, some (.ow (.lst ((if b = true then rs ++ [s] else rs).map Rn.d))), some (.sh (.int k)), some (.sh (.int x)), some (.sh s.d), a7]) := by
  unfold l_law_list_1
  refine Eq.trans (st_set (d := .int x) (by simp [h1, h2]) rfl) ?_
  simp only [List.set_cons_succ, List.set_cons_zero]
  refine Eq.trans (st_set (d := s.d) (by simp [h1, hl, l0, h3, h4]) rfl) ?_
  simp only [List.set_cons_succ, List.set_cons_zero]
  have hm : isMut s.d = false := rfl
  cases b with
  | false => exact Eq.trans (st_skip (by simp [h5])) xs_nil
  | true =>
    refine Eq.trans (st_into (ρ2 := [some (.sh S), a1, C, some (.ow (.lst ((rs ++ [s]).map Rn.d))), some (.sh (.int k)), some (.sh (.int x)), some (.sh s.d), a7]) (by simp [h5]) ?_) xs_nil
    simp [frzR, appR, owned, hlim, shb, setS]
theorem e_law_list (ns : List Int) (hl : ns.length ≤ 63) {n : Nat} (hn : 2 ≤ n) (hn5 : n ≤ 5) : ∃ rs : List Rn, (∀ r ∈ rs, r.Ok) ∧ (∀ r ∈ rs, r.many = n) ∧ 0 < rs.length ∧ rs.length ≤ 26 ∧ R_law_list [.fz (ns.map .int), .int n] = some (.lst (rs.map Rn.d)) := by
  have hS : dLen [.fz (ns.map .int)] = some (.int ns.length) := by
    rw [len_fz (by rw [List.length_map]; exact lim_small (by omega)), List.length_map]
  have hcells := ev_lcy (Γ := G_law_list) (own := [("j", 7)]) (t := .nm 7) (it := .rng1 (.var 1)) (e := e_law_list_2) (b := false) (xs := List.range n) (f := fun (j : Nat) => D.int j) (fun j => .int (ns.getD (2 + j) 0)) (fun j => [some (.sh (.fz (ns.map .int))), some (.sh (.int n)), none, none, none, none, none, some (.sh (.int j))])
    (ρ := [some (.sh (.fz (ns.map .int))), some (.sh (.int n)), none, none, none, none, none, none]) (evi_rng1 (f := .sh) (by simp) (by omega)) (by rw [List.length_range]; exact lim_small (by omega)) rfl (fun j hj => ⟨rfl, .fr, by
      have := e_cell_at ns hl (2 + j)
      rw [show ((2 + j : Nat) : Int) = 2 + (j : Int) from by omega] at this
      simp [e_law_list_2, this], rfl⟩)
  obtain ⟨r0, K0, m0, _, e0⟩ := e_law_run_2 (cs := (List.range n).map fun j => ns.getD (2 + j) 0) hn hn5 (by simp) n 0
  rw [List.map_map] at e0
  have ec : ((List.range n).map fun j => D.int (ns.getD (2 + j) 0)) = (List.range n).map (D.int ∘ fun j => ns.getD (2 + j) 0) := rfl
  obtain ⟨ρ2, hw, rs, a4, a5, a6, K, M, l0, lk, e2⟩ := for_go (t := .nm 4) (body := exs G_law_list false l_law_list_1) (f := fun (k : Nat) => D.int ((1 + k : Nat) : Int)) (ρ := [some (.sh (.fz (ns.map .int))), some (.sh (.int n)), some (.ow (.lst ((List.range n).map fun j => D.int (ns.getD (2 + j) 0)))), some (.ow (.lst [r0.d])), none, none, none, none]) (List.range (min ns.length 26 - 1))
    (fun p ρ => ∃ (rs : List Rn) (a4 a5 a6 : Option Sl), (∀ r ∈ rs, r.Ok) ∧ (∀ r ∈ rs, r.many = n) ∧ 0 < rs.length ∧ rs.length ≤ p.length + 1 ∧ ρ = [some (.sh (.fz (ns.map .int))), some (.sh (.int n)), some (.ow (.lst ((List.range n).map fun j => D.int (ns.getD (2 + j) 0)))), some (.ow (.lst (rs.map Rn.d))), a4, a5, a6, none])
    ⟨[r0], none, none, none, fun r hr => by simp at hr; subst hr; exact K0, fun r hr => by simp at hr; subst hr; exact m0, by simp, by simp, rfl⟩ (by
      rintro p k q e ρ ⟨rs, a4, a5, a6, K, M, l0, lk, rfl⟩
      obtain ⟨hx, hlt, _⟩ := range_at e
      subst hx
      have hk : 1 + p.length < ns.length := by omega
      have h1 := fz_at (ns := ns) hk
      obtain ⟨x, _, h2⟩ := e_law_mixed_2 (ns.getD (1 + p.length) 0) (k := 1 + p.length) (by omega)
      have hlen : dLen [.lst (rs.map Rn.d)] = some (.int rs.length) := by
        rw [len_lst (by rw [List.length_map]; exact lim_small (by omega)), List.length_map]
      have hi : x % rs.length < rs.length := Nat.mod_lt _ l0
      have h3 : dIx (.lst (rs.map Rn.d)) (.int ((x : Int) % (rs.length : Int))) = some (rs[x % rs.length]).d := by
        rw [← Int.natCast_emod]
        exact ix_mapL (List.getElem?_eq_getElem hi)
      have Kr := K _ (List.getElem_mem hi)
      have Mr := M _ (List.getElem_mem hi)
      obtain ⟨s, Ks, Ms, h4⟩ := e_law_changed Kr (x / 30) (ns.getD (1 + p.length) 0 / 4)
      rw [show ((x / 30 : Nat) : Int) = (x : Int) / 30 from by rw [Int.natCast_ediv]; rfl] at h4
      obtain ⟨b, h5⟩ := run_notin s rs
      have hlim : rs.length < lim := Nat.lt_of_le_of_lt (show rs.length ≤ 1000 by omega) (by decide)
      refine ⟨_, _, rfl, ll_turn (l := (rs.length : Int)) h1 h2 hlen (by omega) h3 h4 h5 hlim, (if b = true then rs ++ [s] else rs), some (.sh (.int ((1 + p.length : Nat) : Int))), some (.sh (.int x)), some (.sh s.d), ?_, ?_, ?_, ?_, rfl⟩
      · intro r hr
        split at hr
        · rcases List.mem_append.mp hr with hr | hr
          · exact K r hr
          · simp at hr; subst hr; exact Ks
        · exact K r hr
      · intro r hr
        split at hr
        · rcases List.mem_append.mp hr with hr | hr
          · exact M r hr
          · simp at hr; subst hr; omega
        · exact M r hr
      · split
        · simp
        · exact l0
      · split
        · simp; omega
        · simp; omega)
  subst e2
  refine ⟨rs, K, M, l0, by rw [List.length_range] at lk; omega, ?_⟩
  have hrng : rng2Of (.int 1) (.int (min ns.length 26 : Nat)) = some ((List.range (min ns.length 26 - 1)).map fun (k : Nat) => D.int ((1 + k : Nat) : Int)) := rng2_one (by omega)
  have hmin : dBI .min [.int ns.length, .int 26] = some (.int (min ns.length 26 : Nat)) := by
    rw [bi_min]
    split <;> (congr 2; omega)
  have hm : isMut r0.d = false := rfl
  rw [← ec] at e0
  generalize ((List.range n).map fun j => D.int (ns.getD (2 + j) 0)) = C at *
  have e0' : R_law_run_2 [.lst C, .int n, .int 0] = some r0.d := e0
  have hfin : exs G_law_list false b_law_list [some (.sh (.fz (ns.map .int))), some (.sh (.int n)), none, none, none, none, none, none] = some (.rt (.lst (rs.map Rn.d))) := by
    unfold b_law_list
    refine Eq.trans (st_setL hcells) ?_
    simp only [List.set_cons_succ, List.set_cons_zero]
    refine Eq.trans (st_setL (L := [r0.d]) (by simp [e0', shb, hm, allShb])) ?_
    simp only [List.set_cons_succ, List.set_cons_zero]
    refine Eq.trans (st_for (by simp [evi, hS, hmin, hrng]) hw) ?_
    have hi : immE (.lst (rs.map Rn.d)) = true := by
      simp only [immE]
      exact immL_map fun r _ => r.imm
    simp [retR, retOk, isMut, hi]
  have := congrArg outR hfin
  rw [r_law_list]
  simpa [outR] using this
end DD
set_option Elab.async false
set_option linter.all false
set_option maxRecDepth 100000
set_option maxHeartbeats 4000000
namespace DD
open PySem L2 PyProof.Rows
/-- the i-th statement of the linked text -/
def top (i : Nat) : Stmt := PySem.Challenge.pw_roundfall_k62_classes_told.main.body.getD i (.Pass ⟨0, 0, 0, 0⟩)
def n_law_k62 : List Str := ["script", "hands", "rounds", "runs", "handed", "found", "where", "views", "k", "group", "j", "run"]
def l_law_k62_1 : CSs := (.cons (.ite (.cmp .ne (.bi .sorted (.cons (.call 0 (.cons (.var 7) (.cons (.var 9) .nil))) .nil)) (.var 9)) (.cons (.ret (.bl false))
  .nil) .nil)
  .nil)
def l_law_k62_2 : CSs := (.cons (.ite (.and (.call 1 (.cons (.ix (.var 7) (.var 8)) (.cons (.ix (.var 7) (.var 10)) .nil))) (.cmp .ne (.ix (.var 6) (.var 8)) (.ix (.var 6) (.var 10)))) (.cons (.ret (.bl false))
  .nil) .nil)
  .nil)
def l_law_k62_3 : CSs := (.cons (.fors (.nm 10) (.rng1 (.var 8)) l_law_k62_2)
  .nil)
def e_law_k62_4 : CE := (.ix (.call 2 (.cons (.var 11) (.cons (.var 2) .nil))) (.var 2))
def b_law_k62 : CSs := (.cons (.set 1 (.bin .add (.int 2) (.bin .mod (.call 6 (.cons (.var 0) (.cons (.int 0) .nil))) (.int 3))))
  (.cons (.set 2 (.bin .mod (.bin .fdiv (.call 6 (.cons (.var 0) (.cons (.int 0) .nil))) (.int 3)) (.int 3)))
  (.cons (.set 3 (.call 5 (.cons (.var 0) (.cons (.var 1) .nil))))
  (.cons (.set 4 (.bi .list (.cons (.var 3) .nil)))
  (.cons (.set 5 (.call 4 (.cons (.var 4) (.cons (.var 2) .nil))))
  (.cons (.set 6 (.call 3 (.cons (.var 5) (.cons (.bi .len (.cons (.var 3) .nil)) .nil))))
  (.cons (.ite (.or (.isN false (.var 6)) (.cmp .ne (.var 4) (.var 3))) (.cons (.ret (.bl false))
  .nil) .nil)
  (.cons (.set 7 (.lc [("run", 11)] (.nm 11) (.val (.var 3)) (.bl true) e_law_k62_4))
  (.cons (.fors (.nm 8) (.rng1 (.bi .len (.cons (.var 3) .nil))) l_law_k62_3)
  (.frz 5 (.cons (.fors (.nm 9) (.val (.var 5)) l_law_k62_1)
  (.cons (.ret (.bl true))
  .nil))))))))))))
noncomputable def G_law_k62 : Gam := ⟨[("_law_reached", 2, R_law_reached_2), ("_law_meet", 2, R_law_meet), ("_law_views", 2, R_law_views_2), ("_law_groups", 2, R_law_groups), ("classes", 2, R_classes), ("_law_list", 2, R_law_list), ("_law_cell_at", 2, R_law_cell_at)], [], []⟩
@[simp] theorem gf_law_k62_0 : G_law_k62.fn[0]? = some (("_law_reached" : Str), 2, R_law_reached_2) := rfl
@[simp] theorem gf_law_k62_1 : G_law_k62.fn[1]? = some (("_law_meet" : Str), 2, R_law_meet) := rfl
@[simp] theorem gf_law_k62_2 : G_law_k62.fn[2]? = some (("_law_views" : Str), 2, R_law_views_2) := rfl
@[simp] theorem gf_law_k62_3 : G_law_k62.fn[3]? = some (("_law_groups" : Str), 2, R_law_groups) := rfl
@[simp] theorem gf_law_k62_4 : G_law_k62.fn[4]? = some (("classes" : Str), 2, R_classes) := rfl
@[simp] theorem gf_law_k62_5 : G_law_k62.fn[5]? = some (("_law_list" : Str), 2, R_law_list) := rfl
@[simp] theorem gf_law_k62_6 : G_law_k62.fn[6]? = some (("_law_cell_at" : Str), 2, R_law_cell_at) := rfl
noncomputable def R_law_k62 : List D → Option D := runF G_law_k62 false 12 b_law_k62
theorem r_law_k62 (script_ : D) : R_law_k62 [script_] = outR (exs G_law_k62 false b_law_k62 [some (.sh script_), none, none, none, none, none, none, none, none, none, none, none]) := run_eq (fun z => by cases z)
theorem k_law_meet : chkSs G_law_meet (defScope (top 26)) n_law_meet b_law_meet (defBody (top 26)) = true := by decide +kernel
theorem s_law_meet : FnScope n_law_meet ["one", "other"] (defScope (top 26)) := ⟨rfl, rfl, rfl, by decide +kernel, rfl, by decide +kernel, by decide +kernel⟩
theorem k_law_reached_2 : chkSs G_law_reached_2 (defScope (top 27)) n_law_reached_2 b_law_reached_2 (defBody (top 27)) = true := by decide +kernel
theorem s_law_reached_2 : FnScope n_law_reached_2 ["views", "group"] (defScope (top 27)) := ⟨rfl, rfl, rfl, by decide +kernel, rfl, by decide +kernel, by decide +kernel⟩
theorem k_law_up : chkSs G_law_up (defScope (top 22)) n_law_up b_law_up (defBody (top 22)) = true := by decide +kernel
theorem s_law_up : FnScope n_law_up ["run", "hand", "rounds"] (defScope (top 22)) := ⟨rfl, rfl, rfl, by decide +kernel, rfl, by decide +kernel, by decide +kernel⟩
theorem k_law_comes_3 : chkSs G_law_comes_3 (defScope (top 23)) n_law_comes_3 b_law_comes_3 (defBody (top 23)) = true := by decide +kernel
theorem s_law_comes_3 : FnScope n_law_comes_3 ["run", "by", "to", "at"] (defScope (top 23)) := ⟨rfl, rfl, rfl, by decide +kernel, rfl, by decide +kernel, by decide +kernel⟩
theorem k_law_views_2 : chkSs G_law_views_2 (defScope (top 24)) n_law_views_2 b_law_views_2 (defBody (top 24)) = true := by decide +kernel
theorem s_law_views_2 : FnScope n_law_views_2 ["run", "rounds"] (defScope (top 24)) := ⟨rfl, rfl, rfl, by decide +kernel, rfl, by decide +kernel, by decide +kernel⟩
theorem k_law_whole_3 : chkSs G_law_whole_3 (defScope (top 28)) n_law_whole_3 b_law_whole_3 (defBody (top 28)) = true := by decide +kernel
theorem s_law_whole_3 : FnScope n_law_whole_3 ["found"] (defScope (top 28)) := ⟨rfl, rfl, rfl, by decide +kernel, rfl, by decide +kernel, by decide +kernel⟩
theorem k_law_groups : chkSs G_law_groups (defScope (top 29)) n_law_groups b_law_groups (defBody (top 29)) = true := by decide +kernel
theorem s_law_groups : FnScope n_law_groups ["found", "many"] (defScope (top 29)) := ⟨rfl, rfl, rfl, by decide +kernel, rfl, by decide +kernel, by decide +kernel⟩
theorem k_many_hands : chkSs G_many_hands (defScope (top 3)) n_many_hands b_many_hands (defBody (top 3)) = true := by decide +kernel
theorem s_many_hands : FnScope n_many_hands ["run"] (defScope (top 3)) := ⟨rfl, rfl, rfl, by decide +kernel, rfl, by decide +kernel, by decide +kernel⟩
theorem k_has_hand : chkSs G_has_hand (defScope (top 1)) n_has_hand b_has_hand (defBody (top 1)) = true := by decide +kernel
theorem s_has_hand : FnScope n_has_hand ["mask", "hand"] (defScope (top 1)) := ⟨rfl, rfl, rfl, by decide +kernel, rfl, by decide +kernel, by decide +kernel⟩
theorem k_fall_of : chkSs G_fall_of (defScope (top 4)) n_fall_of b_fall_of (defBody (top 4)) = true := by decide +kernel
theorem s_fall_of : FnScope n_fall_of ["run", "hand"] (defScope (top 4)) := ⟨rfl, rfl, rfl, by decide +kernel, rfl, by decide +kernel, by decide +kernel⟩
theorem k_is_up : chkSs G_is_up (defScope (top 5)) n_is_up b_is_up (defBody (top 5)) = true := by decide +kernel
theorem s_is_up : FnScope n_is_up ["run", "hand", "rounds"] (defScope (top 5)) := ⟨rfl, rfl, rfl, by decide +kernel, rfl, by decide +kernel, by decide +kernel⟩
theorem k_comes : chkSs G_comes (defScope (top 6)) n_comes b_comes (defBody (top 6)) = true := by decide +kernel
theorem s_comes : FnScope n_comes ["run", "by", "to", "at"] (defScope (top 6)) := ⟨rfl, rfl, rfl, by decide +kernel, rfl, by decide +kernel, by decide +kernel⟩
theorem k_next_view : chkSs G_next_view (defScope (top 8)) n_next_view b_next_view (defBody (top 8)) = true := by decide +kernel
theorem s_next_view : FnScope n_next_view ["run", "views", "hand", "at"] (defScope (top 8)) := ⟨rfl, rfl, rfl, by decide +kernel, rfl, by decide +kernel, by decide +kernel⟩
theorem k_views_of : chkSs G_views_of (defScope (top 9)) n_views_of b_views_of (defBody (top 9)) = true := by decide +kernel
theorem s_views_of : FnScope n_views_of ["run", "rounds"] (defScope (top 9)) := ⟨rfl, rfl, rfl, by decide +kernel, rfl, by decide +kernel, by decide +kernel⟩
theorem k_all_views : chkSs G_all_views (defScope (top 11)) n_all_views b_all_views (defBody (top 11)) = true := by decide +kernel
theorem s_all_views : FnScope n_all_views ["runs", "rounds"] (defScope (top 11)) := ⟨rfl, rfl, rfl, by decide +kernel, rfl, by decide +kernel, by decide +kernel⟩
theorem k_holders_of : shpHold (defScope (top 12)) (defBody (top 12)) = true := by decide +kernel
theorem s_holders_of : FnScope NHo ["views"] (defScope (top 12)) := ⟨rfl, rfl, rfl, by decide +kernel, rfl, by decide +kernel, by decide +kernel⟩
theorem k_reached_from : shpReach (defScope (top 13)) (defBody (top 13)) = true := by decide +kernel
theorem s_reached_from : FnScope NRe ["place", "views", "holders", "seen"] (defScope (top 13)) := ⟨rfl, rfl, rfl, by decide +kernel, rfl, by decide +kernel, by decide +kernel⟩
theorem k_classes : shpCls (defScope (top 14)) (defBody (top 14)) = true := by decide +kernel
theorem s_classes : FnScope NCl ["runs", "rounds"] (defScope (top 14)) := ⟨rfl, rfl, rfl, by decide +kernel, rfl, by decide +kernel, by decide +kernel⟩
theorem k_law_fall : chkSs G_law_fall (defScope (top 19)) n_law_fall b_law_fall (defBody (top 19)) = true := by decide +kernel
theorem s_law_fall : FnScope n_law_fall ["mixed", "hand", "hands", "early"] (defScope (top 19)) := ⟨rfl, rfl, rfl, by decide +kernel, rfl, by decide +kernel, by decide +kernel⟩
theorem k_law_number_2 : chkSs G_law_number_2 (defScope (top 18)) n_law_number_2 b_law_number_2 (defBody (top 18)) = true := by decide +kernel
theorem s_law_number_2 : FnScope n_law_number_2 ["cell"] (defScope (top 18)) := ⟨rfl, rfl, rfl, by decide +kernel, rfl, by decide +kernel, by decide +kernel⟩
theorem k_law_changed_2 : chkSs G_law_changed_2 (defScope (top 21)) n_law_changed_2 b_law_changed_2 (defBody (top 21)) = true := by decide +kernel
theorem s_law_changed_2 : FnScope n_law_changed_2 ["run", "mixed", "cell"] (defScope (top 21)) := ⟨rfl, rfl, rfl, by decide +kernel, rfl, by decide +kernel, by decide +kernel⟩
theorem k_law_mixed_2 : chkSs G_law_mixed_2 (defScope (top 17)) n_law_mixed_2 b_law_mixed_2 (defBody (top 17)) = true := by decide +kernel
theorem s_law_mixed_2 : FnScope n_law_mixed_2 ["cell", "k"] (defScope (top 17)) := ⟨rfl, rfl, rfl, by decide +kernel, rfl, by decide +kernel, by decide +kernel⟩
theorem k_law_run_2 : chkSs G_law_run_2 (defScope (top 20)) n_law_run_2 b_law_run_2 (defBody (top 20)) = true := by decide +kernel
theorem s_law_run_2 : FnScope n_law_run_2 ["cells", "most", "first"] (defScope (top 20)) := ⟨rfl, rfl, rfl, by decide +kernel, rfl, by decide +kernel, by decide +kernel⟩
theorem k_law_cell_at : chkSs G_law_cell_at (defScope (top 16)) n_law_cell_at b_law_cell_at (defBody (top 16)) = true := by decide +kernel
theorem s_law_cell_at : FnScope n_law_cell_at ["script", "k"] (defScope (top 16)) := ⟨rfl, rfl, rfl, by decide +kernel, rfl, by decide +kernel, by decide +kernel⟩
theorem k_law_list : chkSs G_law_list (defScope (top 25)) n_law_list b_law_list (defBody (top 25)) = true := by decide +kernel
theorem s_law_list : FnScope n_law_list ["script", "hands"] (defScope (top 25)) := ⟨rfl, rfl, rfl, by decide +kernel, rfl, by decide +kernel, by decide +kernel⟩
theorem k_law_k62 : chkSs G_law_k62 (defScope (top 30)) n_law_k62 b_law_k62 (defBody (top 30)) = true := by decide +kernel
theorem s_law_k62 : FnScope n_law_k62 ["script"] (defScope (top 30)) := ⟨rfl, rfl, rfl, by decide +kernel, rfl, by decide +kernel, by decide +kernel⟩
set_option maxRecDepth 100000 in
theorem gam_law [Tb : Tbl] {P : Program} {w : World} {K : PySem.W.Frag} {mg : Str → Option Value} {base : Heap} (hb : ∀ x ∈ bltNames, mg x = none) (d_law_meet : DfnE K mg "_law_meet" ["one", "other"] (top 26)) (d_law_reached_2 : DfnE K mg "_law_reached" ["views", "group"] (top 27)) (d_law_up : DfnE K mg "_law_up" ["run", "hand", "rounds"] (top 22)) (d_law_comes_3 : DfnE K mg "_law_comes" ["run", "by", "to", "at"] (top 23)) (d_law_views_2 : DfnE K mg "_law_views" ["run", "rounds"] (top 24)) (d_law_whole_3 : DfnE K mg "_law_whole" ["found"] (top 28)) (d_law_groups : DfnE K mg "_law_groups" ["found", "many"] (top 29)) (d_many_hands : DfnE K mg "many_hands" ["run"] (top 3)) (d_has_hand : DfnE K mg "has_hand" ["mask", "hand"] (top 1)) (d_fall_of : DfnE K mg "fall_of" ["run", "hand"] (top 4)) (d_is_up : DfnE K mg "is_up" ["run", "hand", "rounds"] (top 5)) (d_comes : DfnE K mg "comes" ["run", "by", "to", "at"] (top 6)) (d_next_view : DfnE K mg "next_view" ["run", "views", "hand", "at"] (top 8)) (d_views_of : DfnE K mg "views_of" ["run", "rounds"] (top 9)) (d_all_views : DfnE K mg "all_views" ["runs", "rounds"] (top 11)) (d_holders_of : DfnE K mg "holders_of" ["views"] (top 12)) (d_reached_from : DfnE K mg "reached_from" ["place", "views", "holders", "seen"] (top 13)) (d_classes : DfnE K mg "classes" ["runs", "rounds"] (top 14)) (d_law_fall : DfnE K mg "_law_fall" ["mixed", "hand", "hands", "early"] (top 19)) (d_law_number_2 : DfnE K mg "_law_number" ["cell"] (top 18)) (d_law_changed_2 : DfnE K mg "_law_changed" ["run", "mixed", "cell"] (top 21)) (d_law_mixed_2 : DfnE K mg "_law_mixed" ["cell", "k"] (top 17)) (d_law_run_2 : DfnE K mg "_law_run" ["cells", "most", "first"] (top 20)) (d_law_cell_at : DfnE K mg "_law_cell_at" ["script", "k"] (top 16)) (d_law_list : DfnE K mg "_law_list" ["script", "hands"] (top 25))  : GamOk P w K mg base 7 G_law_k62 := by
  have t_law_meet : ∀ base : Heap, FnT P w K mg base 1 "_law_meet" 2 R_law_meet := fun base => d_law_meet.ok (k := 0) (m := false) s_law_meet (gam_mk hb trivial trivial) (by decide) k_law_meet
  have t_law_reached_2 : ∀ base : Heap, FnT P w K mg base 2 "_law_reached" 2 R_law_reached_2 := fun base => d_law_reached_2.ok (k := 1) (m := false) s_law_reached_2 (gam_mk hb ⟨((t_law_meet base).mono (by omega)), trivial⟩ trivial) (by decide) k_law_reached_2
  have t_law_up : ∀ base : Heap, FnT P w K mg base 1 "_law_up" 3 R_law_up := fun base => d_law_up.ok (k := 0) (m := false) s_law_up (gam_mk hb trivial trivial) (by decide) k_law_up
  have t_law_comes_3 : ∀ base : Heap, FnT P w K mg base 1 "_law_comes" 4 R_law_comes_3 := fun base => d_law_comes_3.ok (k := 0) (m := false) s_law_comes_3 (gam_mk hb trivial trivial) (by decide) k_law_comes_3
  have t_law_views_2 : ∀ base : Heap, FnT P w K mg base 2 "_law_views" 2 R_law_views_2 := fun base => d_law_views_2.ok (k := 1) (m := true) s_law_views_2 (gam_mk hb ⟨((t_law_up base).mono (by omega)), ((t_law_comes_3 base).mono (by omega)), trivial⟩ trivial) (by decide) k_law_views_2
  have t_law_whole_3 : ∀ base : Heap, FnT P w K mg base 1 "_law_whole" 1 R_law_whole_3 := fun base => d_law_whole_3.ok (k := 0) (m := false) s_law_whole_3 (gam_mk hb trivial trivial) (by decide) k_law_whole_3
  have t_law_groups : ∀ base : Heap, FnT P w K mg base 2 "_law_groups" 2 R_law_groups := fun base => d_law_groups.ok (k := 1) (m := false) s_law_groups (gam_ops (gam_mk hb ⟨((t_law_whole_3 base).mono (by omega)), trivial⟩ trivial) trivial) (by decide) k_law_groups
  have t_many_hands : ∀ base : Heap, FnT P w K mg base 1 "many_hands" 1 R_many_hands := fun base => d_many_hands.ok (k := 0) (m := false) s_many_hands (gam_mk hb trivial trivial) (by decide) k_many_hands
  have t_has_hand : ∀ base : Heap, FnT P w K mg base 1 "has_hand" 2 R_has_hand := fun base => d_has_hand.ok (k := 0) (m := false) s_has_hand (gam_mk hb trivial trivial) (by decide) k_has_hand
  have t_fall_of : ∀ base : Heap, FnT P w K mg base 1 "fall_of" 2 R_fall_of := fun base => d_fall_of.ok (k := 0) (m := false) s_fall_of (gam_mk hb trivial trivial) (by decide) k_fall_of
  have t_is_up : ∀ base : Heap, FnT P w K mg base 2 "is_up" 3 R_is_up := fun base => d_is_up.ok (k := 1) (m := false) s_is_up (gam_mk hb ⟨((t_fall_of base).mono (by omega)), trivial⟩ trivial) (by decide) k_is_up
  have t_comes : ∀ base : Heap, FnT P w K mg base 3 "comes" 4 R_comes := fun base => d_comes.ok (k := 2) (m := false) s_comes (gam_mk hb ⟨((t_has_hand base).mono (by omega)), ((t_fall_of base).mono (by omega)), ((t_is_up base).mono (by omega)), trivial⟩ trivial) (by decide) k_comes
  have t_next_view : ∀ base : Heap, FnT P w K mg base 4 "next_view" 4 R_next_view := fun base => d_next_view.ok (k := 3) (m := false) s_next_view (gam_mk hb ⟨((t_many_hands base).mono (by omega)), ((t_comes base).mono (by omega)), ((t_is_up base).mono (by omega)), trivial⟩ trivial) (by decide) k_next_view
  have t_views_of : ∀ base : Heap, FnT P w K mg base 5 "views_of" 2 R_views_of := fun base => d_views_of.ok (k := 4) (m := true) s_views_of (gam_mk hb ⟨((t_many_hands base).mono (by omega)), ((t_next_view base).mono (by omega)), trivial⟩ trivial) (by decide) k_views_of
  have t_classes : ∀ base : Heap, FnT P w K mg base 7 "classes" 2 R_classes := fun base => cls_ok (k := 5) hb d_classes d_all_views d_holders_of d_reached_from s_classes s_all_views s_holders_of s_reached_from (gam_mk hb ⟨((t_views_of base).mono (by omega)), trivial⟩ trivial) rfl (by decide) k_all_views k_holders_of k_reached_from k_classes
  have t_law_fall : ∀ base : Heap, FnT P w K mg base 1 "_law_fall" 4 R_law_fall := fun base => d_law_fall.ok (k := 0) (m := false) s_law_fall (gam_mk hb trivial trivial) (by decide) k_law_fall
  have t_law_number_2 : ∀ base : Heap, FnT P w K mg base 1 "_law_number" 1 R_law_number_2 := fun base => d_law_number_2.ok (k := 0) (m := false) s_law_number_2 (gam_mk hb trivial trivial) (by decide) k_law_number_2
  have t_law_changed_2 : ∀ base : Heap, FnT P w K mg base 2 "_law_changed" 3 R_law_changed_2 := fun base => d_law_changed_2.ok (k := 1) (m := false) s_law_changed_2 (gam_mk hb ⟨((t_law_fall base).mono (by omega)), ((t_law_number_2 base).mono (by omega)), trivial⟩ trivial) (by decide) k_law_changed_2
  have t_law_mixed_2 : ∀ base : Heap, FnT P w K mg base 1 "_law_mixed" 2 R_law_mixed_2 := fun base => d_law_mixed_2.ok (k := 0) (m := false) s_law_mixed_2 (gam_mk hb trivial trivial) (by decide) k_law_mixed_2
  have t_law_run_2 : ∀ base : Heap, FnT P w K mg base 2 "_law_run" 3 R_law_run_2 := fun base => d_law_run_2.ok (k := 1) (m := false) s_law_run_2 (gam_mk hb ⟨((t_law_number_2 base).mono (by omega)), ((t_law_fall base).mono (by omega)), ((t_law_mixed_2 base).mono (by omega)), trivial⟩ trivial) (by decide) k_law_run_2
  have t_law_cell_at : ∀ base : Heap, FnT P w K mg base 1 "_law_cell_at" 2 R_law_cell_at := fun base => d_law_cell_at.ok (k := 0) (m := false) s_law_cell_at (gam_mk hb trivial trivial) (by decide) k_law_cell_at
  have t_law_list : ∀ base : Heap, FnT P w K mg base 3 "_law_list" 2 R_law_list := fun base => d_law_list.ok (k := 2) (m := false) s_law_list (gam_mk hb ⟨((t_law_changed_2 base).mono (by omega)), ((t_law_mixed_2 base).mono (by omega)), ((t_law_run_2 base).mono (by omega)), ((t_law_cell_at base).mono (by omega)), trivial⟩ trivial) (by decide) k_law_list
  exact (gam_mk hb ⟨((t_law_reached_2 base).mono (by omega)), ((t_law_meet base).mono (by omega)), ((t_law_views_2 base).mono (by omega)), ((t_law_groups base).mono (by omega)), ((t_classes base).mono (by omega)), ((t_law_list base).mono (by omega)), ((t_law_cell_at base).mono (by omega)), trivial⟩ trivial)
end DD
namespace DD
open PySem L2
theorem k62_in {S F W V : D} {n k j : Int} {a1 a3 a4 a9 a11 : Option Sl} {d e x : D} {b : Bool} (h1 : dIx V (.int k) = some d) (h2 : dIx V (.int j) = some e) (hm : R_law_meet [d, e] = some (.bl b)) (hw : b = true → ∃ i : Int, dIx W (.int k) = some (.int i) ∧ dIx W (.int j) = some (.int i)) :
    exs G_law_k62 false l_law_k62_2 [some (.sh S), a1, some (.sh (.int n)), a3, a4, some (.ow F), some (.ow W), some (.ow V), some (.sh (.int k)), a9, some (.sh (.int j)), a11] = some (.nx [some (.sh S), a1, some (.sh (.int n)), a3, a4, some (.ow F), some (.ow W), some (.ow V), some (.sh (.int k)), a9, some (.sh (.int j)), a11]) := by
  unfold l_law_k62_2
  cases b with
  | false => exact Eq.trans (st_skip (by simp [h1, h2, hm])) xs_nil
  | true =>
    obtain ⟨i, w1, w2⟩ := hw rfl
    exact Eq.trans (st_skip (by simp [h1, h2, hm, w1, w2])) xs_nil
theorem wh_place {Gs : List (List Nat)} {p i : Nat} {G : List Nat} (h : Gs[i]? = some G) (hp : p ∈ G) : (p, i) ∈ whZ Gs.zipIdx := by
  unfold whZ
  rw [List.mem_flatMap]
  exact ⟨(G, i), List.mem_iff_getElem?.mpr ⟨i, by rw [List.getElem?_zipIdx, h]; simp⟩, List.mem_map.mpr ⟨p, hp, rfl⟩⟩
theorem k62_views {rs : List Rn} {n : Nat} (hn : n ≤ 3) (K : ∀ r ∈ rs, r.Ok) (hl : rs.length ≤ 1000) {a0 a1 a3 a4 a5 a6 a7 a8 a9 a10 : Option Sl} (h3 : a3 = some (.ow (.lst (rs.map Rn.d)))) :
    ev G_law_k62 (.lc [("run", 11)] (.nm 11) (.val (.var 3)) (.bl true) e_law_k62_4) [a0, a1, some (.sh (.int n)), a3, a4, a5, a6, a7, a8, a9, a10, none] = some (.fr, .lst (rs.map fun r => rowD r n)) := by
  subst h3
  exact ev_lcy (Γ := G_law_k62) (own := [("run", 11)]) (t := .nm 11) (it := .val (.var 3)) (e := e_law_k62_4) (b := true) (xs := rs) (f := Rn.d) (fun r => rowD r n) (fun r => [a0, a1, some (.sh (.int n)), some (.ow (.lst (rs.map Rn.d))), a4, a5, a6, a7, a8, a9, a10, some (.sh r.d)])
    (by simp [evi, itemsOf]) (lim_small hl) rfl (fun r hr => ⟨rfl, .sh, by
      have h1 := e_law_views_2 (K r hr) (n := n) (by omega)
      have h2 : dIx (.lst ((List.range (n + 1)).map (rowD r))) (.int n) = some (rowD r n) := ix_rangeL (by omega)
      simp [e_law_k62_4, h1, h2], rfl⟩)
theorem holds (ns : List Int) (hl : ns.length ≤ 63) : runF G_law_k62 false 12 b_law_k62 [.fz (ns.map .int)] = some (.bl true) := by
  show R_law_k62 [.fz (ns.map .int)] = some (.bl true)
  have g0 : R_law_cell_at [.fz (ns.map .int), .int 0] = some (.int (ns.getD 0 0)) := e_cell_at ns hl 0
  obtain ⟨m, m2, m5, hm⟩ : ∃ m : Nat, 2 ≤ m ∧ m ≤ 5 ∧ 2 + ns.getD 0 0 % 3 = (m : Int) := ⟨(2 + ns.getD 0 0 % 3).toNat, by omega, by omega, by omega⟩
  obtain ⟨n, n3, hn⟩ : ∃ n : Nat, n ≤ 2 ∧ ns.getD 0 0 / 3 % 3 = (n : Int) := ⟨(ns.getD 0 0 / 3 % 3).toNat, by omega, by omega⟩
  obtain ⟨rs, K, M, l0, lk, eL⟩ := e_law_list ns hl m2 m5
  generalize ns.getD 0 0 = c0 at *
  have eC := e_classes (n := n) (by omega) K (by omega)
  obtain ⟨Gs, eG, ok⟩ := cls_of (n := n) rs
  rw [eG] at eC
  have hvl : (vsL n rs).length = rs.length := by unfold vsL; rw [List.length_map]
  have hne : ∀ G ∈ Gs, G ≠ [] := fun G hG z => by
    obtain ⟨h, t, e, _⟩ := ok.hd G hG
    rw [z] at e; cases e
  have hall : ∀ p, p < rs.length ↔ p ∈ Gs.flatten := fun p => by rw [ok.all, List.mem_flatten]
  have eW := e_groups (m := rs.length) hne ok.ris ok.dis (by omega) hall ok.hds
  have hS : dLen [.lst (rs.map Rn.d)] = some (.int rs.length) := by
    rw [len_lst (by rw [List.length_map]; exact lim_small (by omega)), List.length_map]
  have hX := rng1_small (n := rs.length) (by omega)
  have hV : ∀ o, o < rs.length → dIx (.lst (rs.map fun r => rowD r n)) (.int o) = some (rowD (rAt rs o) n) := fun o ho => by
    rw [rAt_lt ho]
    exact ix_mapL (f := fun r => rowD r n) (List.getElem?_eq_getElem ho)
  have hmeet : ∀ x o, x < rs.length → o < rs.length → R_law_meet [rowD (rAt rs x) n, rowD (rAt rs o) n] = some (.bl (mtB n (rAt rs x) (rAt rs o))) := fun x o hx ho => by
    rw [rAt_lt hx, rAt_lt ho]
    exact e_meetB (K _ (List.getElem_mem hx)) (by rw [M _ (List.getElem_mem hx), M _ (List.getElem_mem ho)]) (by omega)
  have hadj : ∀ x o, x < rs.length → o < rs.length → (Adj (vsL n rs) x o ↔ mtB n (rAt rs x) (rAt rs o) = true) := fun x o hx ho => by
    rw [rAt_lt hx, rAt_lt ho]
    exact adj_iff M hx ho
  have hkeys : ((whZ Gs.zipIdx).map (·.1)).Nodup := by
    rw [whZ_fst]
    simpa using ok.dis
  have eD : Gs.map natD = Gs.map fun G => .lst (G.map fun (p : Nat) => .int p) := rfl
  rw [← eD] at eC
  -- the loop over the pairs
  obtain ⟨ρ2, w1, a8, a10, e2⟩ := for_go (t := .nm 8) (body := exs G_law_k62 false l_law_k62_3) (f := fun (k : Nat) => D.int k) (ρ := [some (.sh (.fz (ns.map .int))), some (.sh (.int m)), some (.sh (.int n)), some (.ow (.lst (rs.map Rn.d))), some (.ow (.lst (rs.map Rn.d))), some (.ow (.lst (Gs.map natD))), some (.ow (whD (whZ Gs.zipIdx))), some (.ow (.lst (rs.map fun r => rowD r n))), none, none, none, none]) (List.range rs.length)
    (fun p ρ => ∃ a8 a10, ρ = [some (.sh (.fz (ns.map .int))), some (.sh (.int m)), some (.sh (.int n)), some (.ow (.lst (rs.map Rn.d))), some (.ow (.lst (rs.map Rn.d))), some (.ow (.lst (Gs.map natD))), some (.ow (whD (whZ Gs.zipIdx))), some (.ow (.lst (rs.map fun r => rowD r n))), a8, none, a10, none]) ⟨none, none, rfl⟩ (by
      rintro p k q e ρ ⟨a8, a10, rfl⟩
      obtain ⟨hx, hlt, _⟩ := range_at e
      subst hx
      obtain ⟨ρ3, w3, h3⟩ := for_keep (i := 10) (body := exs G_law_k62 false l_law_k62_2) ((List.range p.length).map fun (k : Nat) => D.int k) [some (.sh (.fz (ns.map .int))), some (.sh (.int m)), some (.sh (.int n)), some (.ow (.lst (rs.map Rn.d))), some (.ow (.lst (rs.map Rn.d))), some (.ow (.lst (Gs.map natD))), some (.ow (whD (whZ Gs.zipIdx))), some (.ow (.lst (rs.map fun r => rowD r n))), some (.sh (.int p.length)), none, a10, none] (fun d hd => by
        obtain ⟨j, hj, rfl⟩ := List.mem_map.mp hd
        have hj := List.mem_range.mp hj
        refine k62_in (x := .non) (hV _ hlt) (hV _ (by omega)) (hmeet _ _ hlt (by omega)) fun hb => ?_
        obtain ⟨G, hG, hp⟩ := (ok.all p.length).mp hlt
        obtain ⟨i, hi⟩ := List.getElem?_of_mem hG
        have hjG := ok.cl G hG _ hp j ((hadj _ _ hlt (by omega)).mpr hb)
        exact ⟨i, wh_at hkeys (wh_place hi hp), wh_at hkeys (wh_place hi hjG)⟩)
      have hX3 := rng1_small (n := p.length) (by omega)
      refine ⟨_, _, rfl, (Eq.trans (st_for (ρ2 := ρ3) (by simp [evi, hX3]) w3) xs_nil : exs G_law_k62 false l_law_k62_3 [some (.sh (.fz (ns.map .int))), some (.sh (.int m)), some (.sh (.int n)), some (.ow (.lst (rs.map Rn.d))), some (.ow (.lst (rs.map Rn.d))), some (.ow (.lst (Gs.map natD))), some (.ow (whD (whZ Gs.zipIdx))), some (.ow (.lst (rs.map fun r => rowD r n))), some (.sh (.int p.length)), none, a10, none] = _), ?_⟩
      rcases h3 with rfl | ⟨v, rfl⟩
      · exact ⟨_, _, rfl⟩
      · exact ⟨_, _, rfl⟩)
  subst e2
  -- the loop over the groups
  obtain ⟨ρ4, w4, h4⟩ := for_keep (i := 9) (body := exs G_law_k62 false l_law_k62_1) (Gs.map natD) [some (.sh (.fz (ns.map .int))), some (.sh (.int m)), some (.sh (.int n)), some (.ow (.lst (rs.map Rn.d))), some (.ow (.lst (rs.map Rn.d))), some (.sh (.lst (Gs.map natD))), some (.ow (whD (whZ Gs.zipIdx))), some (.ow (.lst (rs.map fun r => rowD r n))), a8, none, a10, none] (fun d hd => by
    obtain ⟨G, hG, rfl⟩ := List.mem_map.mp hd
    obtain ⟨h, t, eG2, hpa⟩ := ok.hd G hG
    have hlt : ∀ x ∈ G, x < rs.length := fun x hx => (ok.all x).mpr ⟨G, hG, hx⟩
    have nd : G.Nodup := (ok.ris G hG).imp fun h => by omega
    have hGl : G.length ≤ 28 := by
      have h1 := nd_len (G := List.range rs.length) nd fun x hx => List.mem_range.mpr (hlt x hx)
      rw [List.length_range] at h1
      omega
    have hh : h ∈ G := by rw [eG2]; simp
    obtain ⟨F, hF, eF⟩ := e_reached (V := .lst (rs.map fun r => rowD r n)) (R := fun o => rowD (rAt rs o) n) (mt := fun x o => mtB n (rAt rs x) (rAt rs o)) (A := fun _ _ => True) eG2 (fun o ho => hV o (hlt o ho)) (fun x hx o ho => hmeet x o (hlt x hx) (hlt o ho)) nd hGl (by
      intro Pr p0 ps x hx
      have : ∀ y, Pa (vsL n rs) h y → y ∈ G ∧ Pr y := by
        intro y hy
        induction hy with
        | refl => exact ⟨hh, p0⟩
        | step _ adj ih =>
          have hc := ok.cl G hG _ ih.1 _ adj
          exact ⟨hc, ps _ _ ih.2 ih.1 hc ((hadj _ _ (hlt _ ih.1) (hlt _ hc)).mp adj)⟩
      exact (this x (hpa x hx)).2)
    have eS := sorted_nat hF ((ok.ris G hG).imp fun h => by omega)
    have eN := natD_ne (G := G)
    unfold l_law_k62_1
    exact Eq.trans (st_skip (by simp [eF, eS, eN])) xs_nil)
  have hv := k62_views (rs := rs) (n := n) (by omega) K (by omega) (a0 := some (.sh (.fz (ns.map .int)))) (a1 := some (.sh (.int m))) (a3 := some (.ow (.lst (rs.map Rn.d)))) (a4 := some (.ow (.lst (rs.map Rn.d)))) (a5 := some (.ow (.lst (Gs.map natD)))) (a6 := some (.ow (whD (whZ Gs.zipIdx)))) (a7 := none) (a8 := none) (a9 := none) (a10 := none) rfl
  have hne2 : dCmp .ne (.lst (rs.map Rn.d)) (.lst (rs.map Rn.d)) = some false := by
    show (dEq _ _).map not = _
    rw [dEq_refl (runs_plain rs)]; rfl
  have hfin : exs G_law_k62 false b_law_k62 [some (.sh (.fz (ns.map .int))), none, none, none, none, none, none, none, none, none, none, none] = some (.rt (.bl true)) := by
    unfold b_law_k62
    refine Eq.trans (st_set (d := .int m) (by simp [g0, hm]) rfl) ?_
    simp only [List.set_cons_succ, List.set_cons_zero]
    refine Eq.trans (st_set (d := .int n) (by simp [g0, hn]) rfl) ?_
    simp only [List.set_cons_succ, List.set_cons_zero]
    refine Eq.trans (st_setL (L := rs.map Rn.d) (by simp [eL])) ?_
    simp only [List.set_cons_succ, List.set_cons_zero]
    refine Eq.trans (st_setL (L := rs.map Rn.d) (by simp)) ?_
    simp only [List.set_cons_succ, List.set_cons_zero]
    refine Eq.trans (st_setL (L := Gs.map natD) (by simp [eC])) ?_
    simp only [List.set_cons_succ, List.set_cons_zero]
    refine Eq.trans (st_one (ρ2 := [some (.sh (.fz (ns.map .int))), some (.sh (.int m)), some (.sh (.int n)), some (.ow (.lst (rs.map Rn.d))), some (.ow (.lst (rs.map Rn.d))), some (.ow (.lst (Gs.map natD))), some (.ow (whD (whZ Gs.zipIdx))), none, none, none, none, none]) (by simp [hS, eW, isMut, whD])) ?_
    refine Eq.trans (st_skip (by simp [isND, whD, hne2])) ?_
    refine Eq.trans (st_setL hv) ?_
    simp only [List.set_cons_succ, List.set_cons_zero]
    refine Eq.trans (st_for (by simp [evi, hS, hX]) w1) ?_
    rw [xs_frz]
    refine Eq.trans (st_for (ds := Gs.map natD) (by simp [frzR, setS, evi, itemsOf]) (by simpa [frzR, setS] using w4)) ?_
    simp [retR, retOk]
  have := congrArg outR hfin
  rw [r_law_k62]
  simpa [outR] using this
end DD
open PySem PySem.W PyProof.Rows
set_option maxRecDepth 100000 in
set_option maxHeartbeats 0 in
theorem PySem.Challenge.cw_roundfall_k62_classes_told_holds : PySem.Challenge.rw_roundfall_k62_classes_told.Holds := by
  w_on; o_law; k_head; (case hw => w_witness2)
  k_fill
  refine DD.walkD (l := PySem.Challenge.rw_roundfall_k62_classes_told) (k := 8) rfl rfl ⟨rfl, by decide, by decide⟩ (fun w h Y => PySem.W.kIn_of Y) ?F
  case F =>
    intro w mg fa h KX G hmg
    have d_law_meet : DD.DfnE (L2.KOf KX) mg "_law_meet" ["one", "other"] (DD.top 26) := by
      dsimp only [L2.KOf]; refine' ⟨_, _, DD.dfn_mk KX G ?a ?l ?c ?k (fun _ _ _ _ _ _ us hl => match us, hl with | [_, _], _ => rfl)⟩; (case a => k_is); (case l => k_is); (case c => k_is); (case k => k_is)
    have d_law_reached_2 : DD.DfnE (L2.KOf KX) mg "_law_reached" ["views", "group"] (DD.top 27) := by
      dsimp only [L2.KOf]; refine' ⟨_, _, DD.dfn_mk KX G ?a ?l ?c ?k (fun _ _ _ _ _ _ us hl => match us, hl with | [_, _], _ => rfl)⟩; (case a => k_is); (case l => k_is); (case c => k_is); (case k => k_is)
    have d_law_up : DD.DfnE (L2.KOf KX) mg "_law_up" ["run", "hand", "rounds"] (DD.top 22) := by
      dsimp only [L2.KOf]; refine' ⟨_, _, DD.dfn_mk KX G ?a ?l ?c ?k (fun _ _ _ _ _ _ us hl => match us, hl with | [_, _, _], _ => rfl)⟩; (case a => k_is); (case l => k_is); (case c => k_is); (case k => k_is)
    have d_law_comes_3 : DD.DfnE (L2.KOf KX) mg "_law_comes" ["run", "by", "to", "at"] (DD.top 23) := by
      dsimp only [L2.KOf]; refine' ⟨_, _, DD.dfn_mk KX G ?a ?l ?c ?k (fun _ _ _ _ _ _ us hl => match us, hl with | [_, _, _, _], _ => rfl)⟩; (case a => k_is); (case l => k_is); (case c => k_is); (case k => k_is)
    have d_law_views_2 : DD.DfnE (L2.KOf KX) mg "_law_views" ["run", "rounds"] (DD.top 24) := by
      dsimp only [L2.KOf]; refine' ⟨_, _, DD.dfn_mk KX G ?a ?l ?c ?k (fun _ _ _ _ _ _ us hl => match us, hl with | [_, _], _ => rfl)⟩; (case a => k_is); (case l => k_is); (case c => k_is); (case k => k_is)
    have d_law_whole_3 : DD.DfnE (L2.KOf KX) mg "_law_whole" ["found"] (DD.top 28) := by
      dsimp only [L2.KOf]; refine' ⟨_, _, DD.dfn_mk KX G ?a ?l ?c ?k (fun _ _ _ _ _ _ us hl => match us, hl with | [_], _ => rfl)⟩; (case a => k_is); (case l => k_is); (case c => k_is); (case k => k_is)
    have d_law_groups : DD.DfnE (L2.KOf KX) mg "_law_groups" ["found", "many"] (DD.top 29) := by
      dsimp only [L2.KOf]; refine' ⟨_, _, DD.dfn_mk KX G ?a ?l ?c ?k (fun _ _ _ _ _ _ us hl => match us, hl with | [_, _], _ => rfl)⟩; (case a => k_is); (case l => k_is); (case c => k_is); (case k => k_is)
    have d_many_hands : DD.DfnE (L2.KOf KX) mg "many_hands" ["run"] (DD.top 3) := by
      dsimp only [L2.KOf]; refine' ⟨_, _, DD.dfn_mk KX G ?a ?l ?c ?k (fun _ _ _ _ _ _ us hl => match us, hl with | [_], _ => rfl)⟩; (case a => k_is); (case l => k_is); (case c => k_is); (case k => k_is)
    have d_has_hand : DD.DfnE (L2.KOf KX) mg "has_hand" ["mask", "hand"] (DD.top 1) := by
      dsimp only [L2.KOf]; refine' ⟨_, _, DD.dfn_mk KX G ?a ?l ?c ?k (fun _ _ _ _ _ _ us hl => match us, hl with | [_, _], _ => rfl)⟩; (case a => k_is); (case l => k_is); (case c => k_is); (case k => k_is)
    have d_fall_of : DD.DfnE (L2.KOf KX) mg "fall_of" ["run", "hand"] (DD.top 4) := by
      dsimp only [L2.KOf]; refine' ⟨_, _, DD.dfn_mk KX G ?a ?l ?c ?k (fun _ _ _ _ _ _ us hl => match us, hl with | [_, _], _ => rfl)⟩; (case a => k_is); (case l => k_is); (case c => k_is); (case k => k_is)
    have d_is_up : DD.DfnE (L2.KOf KX) mg "is_up" ["run", "hand", "rounds"] (DD.top 5) := by
      dsimp only [L2.KOf]; refine' ⟨_, _, DD.dfn_mk KX G ?a ?l ?c ?k (fun _ _ _ _ _ _ us hl => match us, hl with | [_, _, _], _ => rfl)⟩; (case a => k_is); (case l => k_is); (case c => k_is); (case k => k_is)
    have d_comes : DD.DfnE (L2.KOf KX) mg "comes" ["run", "by", "to", "at"] (DD.top 6) := by
      dsimp only [L2.KOf]; refine' ⟨_, _, DD.dfn_mk KX G ?a ?l ?c ?k (fun _ _ _ _ _ _ us hl => match us, hl with | [_, _, _, _], _ => rfl)⟩; (case a => k_is); (case l => k_is); (case c => k_is); (case k => k_is)
    have d_next_view : DD.DfnE (L2.KOf KX) mg "next_view" ["run", "views", "hand", "at"] (DD.top 8) := by
      dsimp only [L2.KOf]; refine' ⟨_, _, DD.dfn_mk KX G ?a ?l ?c ?k (fun _ _ _ _ _ _ us hl => match us, hl with | [_, _, _, _], _ => rfl)⟩; (case a => k_is); (case l => k_is); (case c => k_is); (case k => k_is)
    have d_views_of : DD.DfnE (L2.KOf KX) mg "views_of" ["run", "rounds"] (DD.top 9) := by
      dsimp only [L2.KOf]; refine' ⟨_, _, DD.dfn_mk KX G ?a ?l ?c ?k (fun _ _ _ _ _ _ us hl => match us, hl with | [_, _], _ => rfl)⟩; (case a => k_is); (case l => k_is); (case c => k_is); (case k => k_is)
    have d_all_views : DD.DfnE (L2.KOf KX) mg "all_views" ["runs", "rounds"] (DD.top 11) := by
      dsimp only [L2.KOf]; refine' ⟨_, _, DD.dfn_mk KX G ?a ?l ?c ?k (fun _ _ _ _ _ _ us hl => match us, hl with | [_, _], _ => rfl)⟩; (case a => k_is); (case l => k_is); (case c => k_is); (case k => k_is)
    have d_holders_of : DD.DfnE (L2.KOf KX) mg "holders_of" ["views"] (DD.top 12) := by
      dsimp only [L2.KOf]; refine' ⟨_, _, DD.dfn_mk KX G ?a ?l ?c ?k (fun _ _ _ _ _ _ us hl => match us, hl with | [_], _ => rfl)⟩; (case a => k_is); (case l => k_is); (case c => k_is); (case k => k_is)
    have d_reached_from : DD.DfnE (L2.KOf KX) mg "reached_from" ["place", "views", "holders", "seen"] (DD.top 13) := by
      dsimp only [L2.KOf]; refine' ⟨_, _, DD.dfn_mk KX G ?a ?l ?c ?k (fun _ _ _ _ _ _ us hl => match us, hl with | [_, _, _, _], _ => rfl)⟩; (case a => k_is); (case l => k_is); (case c => k_is); (case k => k_is)
    have d_classes : DD.DfnE (L2.KOf KX) mg "classes" ["runs", "rounds"] (DD.top 14) := by
      dsimp only [L2.KOf]; refine' ⟨_, _, DD.dfn_mk KX G ?a ?l ?c ?k (fun _ _ _ _ _ _ us hl => match us, hl with | [_, _], _ => rfl)⟩; (case a => k_is); (case l => k_is); (case c => k_is); (case k => k_is)
    have d_law_fall : DD.DfnE (L2.KOf KX) mg "_law_fall" ["mixed", "hand", "hands", "early"] (DD.top 19) := by
      dsimp only [L2.KOf]; refine' ⟨_, _, DD.dfn_mk KX G ?a ?l ?c ?k (fun _ _ _ _ _ _ us hl => match us, hl with | [_, _, _, _], _ => rfl)⟩; (case a => k_is); (case l => k_is); (case c => k_is); (case k => k_is)
    have d_law_number_2 : DD.DfnE (L2.KOf KX) mg "_law_number" ["cell"] (DD.top 18) := by
      dsimp only [L2.KOf]; refine' ⟨_, _, DD.dfn_mk KX G ?a ?l ?c ?k (fun _ _ _ _ _ _ us hl => match us, hl with | [_], _ => rfl)⟩; (case a => k_is); (case l => k_is); (case c => k_is); (case k => k_is)
    have d_law_changed_2 : DD.DfnE (L2.KOf KX) mg "_law_changed" ["run", "mixed", "cell"] (DD.top 21) := by
      dsimp only [L2.KOf]; refine' ⟨_, _, DD.dfn_mk KX G ?a ?l ?c ?k (fun _ _ _ _ _ _ us hl => match us, hl with | [_, _, _], _ => rfl)⟩; (case a => k_is); (case l => k_is); (case c => k_is); (case k => k_is)
    have d_law_mixed_2 : DD.DfnE (L2.KOf KX) mg "_law_mixed" ["cell", "k"] (DD.top 17) := by
      dsimp only [L2.KOf]; refine' ⟨_, _, DD.dfn_mk KX G ?a ?l ?c ?k (fun _ _ _ _ _ _ us hl => match us, hl with | [_, _], _ => rfl)⟩; (case a => k_is); (case l => k_is); (case c => k_is); (case k => k_is)
    have d_law_run_2 : DD.DfnE (L2.KOf KX) mg "_law_run" ["cells", "most", "first"] (DD.top 20) := by
      dsimp only [L2.KOf]; refine' ⟨_, _, DD.dfn_mk KX G ?a ?l ?c ?k (fun _ _ _ _ _ _ us hl => match us, hl with | [_, _, _], _ => rfl)⟩; (case a => k_is); (case l => k_is); (case c => k_is); (case k => k_is)
    have d_law_cell_at : DD.DfnE (L2.KOf KX) mg "_law_cell_at" ["script", "k"] (DD.top 16) := by
      dsimp only [L2.KOf]; refine' ⟨_, _, DD.dfn_mk KX G ?a ?l ?c ?k (fun _ _ _ _ _ _ us hl => match us, hl with | [_, _], _ => rfl)⟩; (case a => k_is); (case l => k_is); (case c => k_is); (case k => k_is)
    have d_law_list : DD.DfnE (L2.KOf KX) mg "_law_list" ["script", "hands"] (DD.top 25) := by
      dsimp only [L2.KOf]; refine' ⟨_, _, DD.dfn_mk KX G ?a ?l ?c ?k (fun _ _ _ _ _ _ us hl => match us, hl with | [_, _], _ => rfl)⟩; (case a => k_is); (case l => k_is); (case c => k_is); (case k => k_is)
    have hb : ∀ x ∈ DD.bltNames, mg x = none := by
      intro x hx
      rcases List.mem_cons.mp hx with rfl | hx
      · refine' PySem.W.mg_none_of KX G ?a; (case a => k_is)
      rcases List.mem_cons.mp hx with rfl | hx
      · refine' PySem.W.mg_none_of KX G ?a; (case a => k_is)
      rcases List.mem_cons.mp hx with rfl | hx
      · refine' PySem.W.mg_none_of KX G ?a; (case a => k_is)
      rcases List.mem_cons.mp hx with rfl | hx
      · refine' PySem.W.mg_none_of KX G ?a; (case a => k_is)
      rcases List.mem_cons.mp hx with rfl | hx
      · refine' PySem.W.mg_none_of KX G ?a; (case a => k_is)
      rcases List.mem_cons.mp hx with rfl | hx
      · refine' PySem.W.mg_none_of KX G ?a; (case a => k_is)
      rcases List.mem_cons.mp hx with rfl | hx
      · refine' PySem.W.mg_none_of KX G ?a; (case a => k_is)
      rcases List.mem_cons.mp hx with rfl | hx
      · refine' PySem.W.mg_none_of KX G ?a; (case a => k_is)
      rcases List.mem_cons.mp hx with rfl | hx
      · refine' PySem.W.mg_none_of KX G ?a; (case a => k_is)
      rcases List.mem_cons.mp hx with rfl | hx
      · refine' PySem.W.mg_none_of KX G ?a; (case a => k_is)
      rcases List.mem_cons.mp hx with rfl | hx
      · refine' PySem.W.mg_none_of KX G ?a; (case a => k_is)
      rcases List.mem_cons.mp hx with rfl | hx
      · refine' PySem.W.mg_none_of KX G ?a; (case a => k_is)
      rcases List.mem_cons.mp hx with rfl | hx
      · refine' PySem.W.mg_none_of KX G ?a; (case a => k_is)
      rcases List.mem_cons.mp hx with rfl | hx
      · refine' PySem.W.mg_none_of KX G ?a; (case a => k_is)
      rcases List.mem_cons.mp hx with rfl | hx
      · refine' PySem.W.mg_none_of KX G ?a; (case a => k_is)
      rcases List.mem_cons.mp hx with rfl | hx
      · refine' PySem.W.mg_none_of KX G ?a; (case a => k_is)
      rcases List.mem_cons.mp hx with rfl | hx
      · refine' PySem.W.mg_none_of KX G ?a; (case a => k_is)
      rcases List.mem_cons.mp hx with rfl | hx
      · refine' PySem.W.mg_none_of KX G ?a; (case a => k_is)
      cases hx
    refine' DD.law_fd (k := 7) (DD.dfn_mk (x := "law") (ps := ["script"]) (st := DD.top 30) KX G ?a ?l ?c ?k (fun _ _ _ _ _ _ us hl => match us, hl with | [_], _ => rfl)) hmg (fun s v => .of_eq rfl) ?L; (case a => k_is); (case l => k_is); (case c => k_is); (case k => k_is)
    case L => exact ⟨DD.n_law_k62, false, DD.b_law_k62, DD.G_law_k62, DD.s_law_k62, fun base _ _ => DD.gam_law hb d_law_meet d_law_reached_2 d_law_up d_law_comes_3 d_law_views_2 d_law_whole_3 d_law_groups d_many_hands d_has_hand d_fall_of d_is_up d_comes d_next_view d_views_of d_all_views d_holders_of d_reached_from d_classes d_law_fall d_law_number_2 d_law_changed_2 d_law_mixed_2 d_law_run_2 d_law_cell_at d_law_list , by decide, rfl, DD.k_law_k62, DD.holds⟩
#print axioms PySem.Challenge.cw_roundfall_k62_classes_told_holds
