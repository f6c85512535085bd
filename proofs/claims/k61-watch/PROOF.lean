import PyProof.Rows.All
import Wide.All
import OpenK.AllK
import Wide.FinOn
import HandS.NoneIn
import HandS.ForMost
import HandS.ForExc
import HandS.Flow
import HandS.Slots
import HandS.SlotsOwn
import HandS.Defaults
import HandS.HeadHook4
import HandS.Lambda
import HandS.TupAny
import HandS.TupMul
import HandS.TupLe
import HandS.Star
import HandS.Conv
import HandS.IsInst
import HandS.Text
import HandS.Zip
import HandS.Deep
import HandS.MakeKw
import HandS.Set
import HandS.SetKeys
import HandS.Strs
import HandS.More
import HandS.SetFor
import KE.GoesMore
import KE.KLam
import KE.SortKeyHeap
import KE.DataMinMax
import KE.DataEq
import HandS.Head0
import HandS.Head1
import HandS.Head2
import HandS.HeadEnd
import HandS.Keys
import HandS.SortKw
import KE.KSortKey
import HandS.HeadWalk
import HandS.OwnEq
import KE.SortData
import HandS.SortOrd
import HandS.DictComp
import HandS.WordsDict
import KE.KEqDict
import PyProof.InstNe
import HandS.FStr
import KE.KDictList
import PyProof.Rows.AssignMoreSeq
import KE.KDictPairs
import KE.KDictDisplayH
import HandS.TryMany
import HandS.TryOnly
import HandS.ExcOwn
import HandS.ExcField
import HandS.ExcInit
import HandS.ClsMeth
import HandS.Property
import HandS.Style
import PySem.Challenge.RW_seerings_k61_whole_observers_and_lookups
set_option Elab.async false
set_option linter.all false
set_option maxRecDepth 100000
set_option maxHeartbeats 0
namespace MP
open PySem PySem.Spec PyProof.Rows L2 PySem.SeqAt PySem.W
/-! ### dicts whose keys are None or ints, of which only the keys matter -/
abbrev oiK (k : Option Int) : Option Key := k.map Sum.inl
theorem oiK_inj {a b : Option Int} (h : oiK a = oiK b) : a = b := by
  cases a <;> cases b <;> simp_all [oiK]
/-- the kind of key; its hash does not ask the world -/
def oiKind (prog : Program) (w : World) : PySem.KeyKind prog w (Option Int) where
  is := fun k v => nkIs (oiK k) v
  hash := fun k => match k with
    | none => reduceHash 0xFCA86420
    | some i => hashInt i
  inj := fun v a b ha hb => oiK_inj ((noneKind prog w).inj v _ _ ha hb)
  byValue := fun k v h => (noneKind prog w).byValue _ v h
  pyHash := @fun A E s k v Q hv h => (noneKind prog w).pyHash (k := oiK k) hv (by cases k <;> exact h)
  eqBool := @fun A E s a b u v Q hu hv h => (noneKind prog w).eqBool (a := oiK a) (b := oiK b) hu hv (by
    have e : decide (oiK a = oiK b) = decide (a = b) := by
      by_cases z : a = b
      · rw [z, decide_eq_true rfl, decide_eq_true rfl]
      · rw [decide_eq_false z, decide_eq_false fun q => z (oiK_inj q)]
    rw [e]
    exact h)
  «strs» := fun k x t v h => (noneKind prog w).«strs» (oiK k) x t v h
/-- the dict: ks its keys, as they were laid -/
def OiR (h : Heap) (a : Addr) (ks : List (Option Int)) : Prop := (a == sysModules) = false ∧ ∃ vs, (∀ (P : Program) (w : World), h.DictOf (oiKind P w) a vs) ∧ vs.map (·.1) = ks
def OiO (a : Addr) (ks : List (Option Int)) : HO := .ext fun h => OiR h a ks
end MP
/-! MP: plain data above the hand layer. -/
namespace MP
open PySem L2
/-- data as a whole -/
inductive D where
  | non | bl (b : Bool) | int (i : Int) | str (s : Str)
  | tup (ds : List D) | lst (ds : List D) | dct (kvs : List (D × D)) | ins (c : Str) (fs : List D)
  /-- dicts by keys that are ints or texts; by keys that are tuples of such; lk: it is never changed any more, and known to be locked -/
  | dk (lk : Bool) (ks : List Key) (ds : List D) | dt (lk : Bool) (ks : List (List Key)) (ds : List D)
  /-- the empty tuple, known to be tracked -/
  | te
  /-- a tuple, not of ints alone, that is known to have no dict -/
  | tf (ds : List D)
/-! ### classes whose instances have a dict: the fields, in the order in which they are first set; the fields that hold a list or a dict of the instance's own -/
def CLS : List (Str × List Str) := [
  ("Walk", ["word", "steps", "sought", "effort"]),
  ("Gathering", ["drawer", "rule", "way", "agenda", "walked", "visited", "gathered"]),
  ("Pile", ["base", "rule", "order", "effort"]),
  ("Wear", ["base", "rule", "requests", "strength", "left", "counts", "made"]),
  ("Observer", ["rows", "met", "has_ended"]),
  ("Sharing", ["base", "rule", "known"]),
  ("Reader", ["data", "spot"]),
  ("Machine", ["present", "output", "step_count"])]
def flds (c : Str) : List Str := (CLS.lookup c).getD []
def LBOX : List Str := ["steps", "sought", "agenda", "visited", "counts", "rows", "output"]
def KBOX : List Str := ["walked", "gathered"]
def TBOX : List Str := ["known"]
def boxF (f : Str) : Bool := LBOX.elem f || KBOX.elem f || TBOX.elem f
abbrev Ex (H H' : Hp) : Prop := Same H H'
theorem Ex.rfl {H : Hp} : Ex H H := Same.refl H
theorem Ex.new {H : Hp} {p : Addr} {o : HO} (h : H p = none) : Ex H (upd H p o) := fun a u e => by
  rw [upd_ne (ne_of_none e h)]
  exact e
/-! ### tables of code objects: a lambda that is made is told there -/
def isTb : HO → Bool
  | .tbl _ => true
  | _ => false
def isFz : HO → Bool
  | .frz _ _ => true
  | _ => false
/-- a code object, as it stands -/
def CodF (oc : Obj) : Prop := ∃ (vs : Array Value) (q : Str) (t : Tok), oc.data = .fields vs ∧ vs[1]? = some (.str q t)
/-- what stands in H stands in H', but for the tables -/
def ExN (H H' : Hp) : Prop := ∀ a o, H a = some o → isTb o = false → H' a = some o
theorem Ex.n {H H' : Hp} (e : Ex H H') : ExN H H' := fun a o h _ => e a o h
/-- what a table tells is a code object -/
def TabsH (T : List Addr) (H : Hp) : Prop := ∀ P ∈ T, ∀ ps, H P = some (.tbl ps) → TriplesOk ps.toList ∧ ∀ (pos : Pos) (cv : Value), codeAmong pos ps.toList = some cv → ∃ c oc, cv = .ref c ∧ H c = some (.frz oc (.own 0)) ∧ CodF oc
def TabsK (H H' : Hp) : Prop := ∀ P ps, H P = some (.tbl ps) → ∃ ps', H' P = some (.tbl ps')
theorem TabsK.rfl {H : Hp} : TabsK H H := fun _ ps h => ⟨ps, h⟩
theorem TabsK.trans {H H1 H2 : Hp} (a : TabsK H H1) (b : TabsK H1 H2) : TabsK H H2 := fun P ps h => let ⟨p1, h1⟩ := a P ps h; b P p1 h1
/-- an object that is neither table nor code is put -/
def plainO (o : HO) : Prop := isTb o = false ∧ isFz o = false
theorem TabsH.upd {T : List Addr} {H : Hp} (t : TabsH T H) {a : Addr} {o : HO} (h : H a = none ∨ ∃ u, H a = some u ∧ plainO u) (ho : isTb o = false) : TabsH T (upd H a o) := fun P hT ps e => by
  by_cases z : P = a
  · subst z; rw [upd_same] at e; cases e; cases ho
  · rw [upd_ne z] at e
    obtain ⟨x, y⟩ := t P hT ps e
    refine ⟨x, fun pos cv hc => ?_⟩
    obtain ⟨c, q, e1, e2, e3⟩ := y pos cv hc
    refine ⟨c, q, e1, ?_, e3⟩
    have n : c ≠ a := fun w => by
      subst w
      rcases h with h | ⟨u, h, hu⟩
      · rw [h] at e2; cases e2
      · rw [h] at e2; cases e2; exact nomatch hu.2
    rw [upd_ne n]; exact e2
theorem TabsK.upd {H : Hp} {a : Addr} {o : HO} (h : ∀ ps, H a ≠ some (.tbl ps)) : TabsK H (upd H a o) := fun P ps e => ⟨ps, by
  have n : P ≠ a := fun z => h ps (z ▸ e)
  rw [upd_ne n]; exact e⟩
/-- the defs that make lambdas -/
def LAMS : List He.Defn := [("_law_cards", none), ("_law_drawer", none), ("filed", none), ("law", none), ("_law_are_refused", none), ("_law_more", none), ("_law_calls", none), ("_law_do", none), ("_law_great", none)]
def lamOn (K : PySem.W.Frag) (p : He.Defn) : Bool := PySem.W.codeHdIn K (He.cT K p).1 (He.cT K p).2
def lamT (K : PySem.W.Frag) : List Addr := (LAMS.filter (lamOn K)).map fun p => (He.cT K p).2
def isTp : HO → Bool
  | .tup _ => true
  | _ => false
/-- among the plain things are no tables, and all tuples -/
structure NB (H B : Hp) : Prop where
  nt : ∀ (a : Addr) (ps : Array Value), B a ≠ some (.tbl ps)
  tp : ∀ (a : Addr) (vs : List V), H a = some (.tup vs) → B a = some (.tup vs)
structure TabK (K : PySem.W.Frag) (H B : Hp) : Prop where
  th : TabsH (lamT K) H
  on : ∀ P ∈ lamT K, ∃ ps, H P = some (.tbl ps)
  nb : NB H B
theorem plain_lst {vs : List V} : plainO (.lst vs) := ⟨rfl, rfl⟩
theorem TabsK.put {H : Hp} {a : Addr} {o o' : HO} (h : H a = some o) (po : plainO o) : TabsK H (L2.upd H a o') := TabsK.upd fun ps z => by rw [h] at z; cases z; exact nomatch po.1
theorem TabK.put {K : PySem.W.Frag} {H B : Hp} (t : TabK K H B) {a : Addr} {o o' : HO} (h : H a = some o) (po : plainO o) (ho : isTb o' = false) (ht : isTp o' = false := by rfl) : TabK K (L2.upd H a o') B :=
  ⟨t.th.upd (.inr ⟨o, h, po⟩) ho, fun P hP => let ⟨ps, e⟩ := t.on P hP; TabsK.put h po P ps e, ⟨t.nb.nt, fun b vs e => by
    by_cases z : b = a
    · rw [z, upd_same] at e; cases e; cases ht
    · rw [upd_ne z] at e; exact t.nb.tp b vs e⟩⟩
/-- the plain part grew by no table -/
theorem TabK.grow {K : PySem.W.Frag} {H B : Hp} (t : TabK K H B) {a : Addr} {o : HO} (h : H a = some o) (ho : isTb o = false := by rfl) : TabK K H (L2.upd B a o) := ⟨t.th, t.on, fun b ps e => by
  by_cases z : b = a
  · subst z; rw [upd_same] at e; cases e; cases ho
  · rw [upd_ne z] at e; exact t.nb.nt b ps e, fun b vs e => by
  by_cases z : b = a
  · rw [z, h] at e; cases e; rw [z, upd_same]
  · rw [upd_ne z]; exact t.nb.tp b vs e⟩
/-- a dict among the plain things: locked, or perhaps not -/
def LkB (B : Hp) (a : Addr) (lk : Bool) (u : HO) : Prop := (∃ o, B a = some (.frz o u)) ∨ (lk = false ∧ B a = some u)
theorem LkB.mono {B B' : Hp} {a : Addr} {lk : Bool} {u : HO} (e : Ex B B') (h : LkB B a lk u) : LkB B' a lk u := h.imp (fun ⟨o, q⟩ => ⟨o, e _ _ q⟩) fun ⟨l, q⟩ => ⟨l, e _ _ q⟩
/-- some, all of them ints -/
def allI (vs : List V) : Bool := !vs.isEmpty && vs.all fun v => match v with
  | .int _ => true
  | _ => false
/-- a tuple that is read; one of ints alone is tracked -/
abbrev TqT (K : PySem.W.Frag) (B : Hp) (a : Addr) (vs : List V) : Prop := SqT K B a vs ∧ (allI vs = true → B a = some (.tup vs))
theorem tq {K : PySem.W.Frag} {B : Hp} {a : Addr} {vs : List V} (h : B a = some (.tup vs)) : TqT K B a vs := ⟨.inl (.inl h), fun _ => h⟩
mutual
inductive Rep (K : PySem.W.Frag) (B : Hp) : V → D → Prop
  | non : Rep K B .non .non
  | bl (b : Bool) : Rep K B (.bl b) (.bl b)
  | int (i : Int) : Rep K B (.int i) (.int i)
  | str (s : Str) (h : PyData.strOk s = true) : Rep K B (.str s) (.str s)
  | tup {a : Addr} {vs : List V} {ds : List D} : TqT K B a vs → Reps K B vs ds → ds.length ≤ sizeLine → Rep K B (.ref a) (.tup ds)
  | lst {a : Addr} {vs : List V} {ds : List D} : SqL K B a vs → Reps K B vs ds → ds.length ≤ sizeLine → Rep K B (.ref a) (.lst ds)
  | sl {a dx : Addr} {c : Str} {vs : List V} {ds : List D} : (flds c).isEmpty = true → SlX.Slt B a (He.ga K c) dx (vs.map some) → Reps K B vs ds → Rep K B (.ref a) (.ins c ds)
  | di {a dx : Addr} {c : Str} {vs : List V} {ds : List D} : (flds c).isEmpty = false → ds.length = (flds c).length → B a = some (.ins (He.ga K c) dx ((flds c).zip vs)) → B dx = some (.own a) → Reps K B vs ds → Rep K B (.ref a) (.ins c ds)
  | dk {a : Addr} {lk : Bool} {ks : List Key} {vs : List V} {ds : List D} : LkB B a lk (.dK (ks.zip vs)) → Reps K B vs ds → ks.length = ds.length → ds.length ≤ sizeLine → (∀ x, Sum.inr x ∈ ks → PyData.strOk x = true) → Rep K B (.ref a) (.dk lk ks ds)
  | dt {a : Addr} {lk : Bool} {ks : List (List Key)} {vs : List V} {ds : List D} : LkB B a lk (.dT (ks.zip vs)) → Reps K B vs ds → ks.length = ds.length → ds.length ≤ sizeLine → (∀ k ∈ ks, ∀ x, Sum.inr x ∈ k → PyData.strOk x = true) → Rep K B (.ref a) (.dt lk ks ds)
  | te {a : Addr} : B a = some (.tup []) → Rep K B (.ref a) .te
  | tf {a : Addr} {o : Obj} {vs : List V} {ds : List D} : B a = some (.frz o (.tup vs)) → o.dict = none → allI vs = false → Reps K B vs ds → ds.length ≤ sizeLine → Rep K B (.ref a) (.tf ds)
  | oi {a : Addr} {ks : List (Option Int)} : B a = some (OiO a ks) → Rep K B (.ref a) (.dct (ks.map fun k => ((match k with | none => D.non | some i => D.int i), D.bl true)))
inductive Reps (K : PySem.W.Frag) (B : Hp) : List V → List D → Prop
  | nil : Reps K B [] []
  | cons {v : V} {d : D} {vs : List V} {ds : List D} : Rep K B v d → Reps K B vs ds → Reps K B (v :: vs) (d :: ds)
end
theorem seqT {K : PySem.W.Frag} {H H' : Hp} {a : Addr} {xs : List V} (e : Ex H H') (h : SqT K H a xs) : SqT K H' a xs := by
  rcases h with (h | ⟨o, h⟩) | h
  · exact .inl (.inl (e _ _ h))
  · exact .inl (.inr ⟨o, e _ _ h⟩)
  · exact .inr h
theorem sltX {H H' : Hp} {a C dx : Addr} {vs : List (Option V)} (e : Ex H H') (h : SlX.Slt H a C dx vs) : SlX.Slt H' a C dx vs := by
  rcases h with ⟨h, q⟩ | ⟨h, q⟩
  · exact .inl ⟨e _ _ h, q⟩
  · exact .inr ⟨e _ _ h, e _ _ q⟩
mutual
theorem Rep.mono {K : PySem.W.Frag} {B B' : Hp} (e : Ex B B') : ∀ {v : V} {d : D}, Rep K B v d → Rep K B' v d
  | _, _, .non => .non
  | _, _, .bl b => .bl b
  | _, _, .int i => .int i
  | _, _, .str s h => .str s h
  | _, _, .tup h r l => .tup ⟨seqT e h.1, fun q => e _ _ (h.2 q)⟩ (Reps.mono e r) l
  | _, _, .lst h r l => .lst (e.seq h) (Reps.mono e r) l
  | _, _, .sl n h r => .sl n (sltX e h) (Reps.mono e r)
  | _, _, .di n l h1 h2 r => .di n l (e _ _ h1) (e _ _ h2) (Reps.mono e r)
  | _, _, .dk h r l z q => .dk (h.mono e) (Reps.mono e r) l z q
  | _, _, .dt h r l z q => .dt (h.mono e) (Reps.mono e r) l z q
  | _, _, .oi h => .oi (e _ _ h)
  | _, _, .te h => .te (e _ _ h)
  | _, _, .tf h n i r l => .tf (e _ _ h) n i (Reps.mono e r) l
theorem Reps.mono {K : PySem.W.Frag} {B B' : Hp} (e : Ex B B') : ∀ {vs : List V} {ds : List D}, Reps K B vs ds → Reps K B' vs ds
  | _, _, .nil => .nil
  | _, _, .cons r t => .cons (Rep.mono e r) (Reps.mono e t)
end
section
variable {K : PySem.W.Frag} {B : Hp}
theorem Reps.len : ∀ {vs : List V} {ds : List D}, Reps K B vs ds → vs.length = ds.length
  | _, _, .nil => rfl
  | _, _, .cons _ t => congrArg (· + 1) (Reps.len t)
theorem Reps.get : ∀ {vs : List V} {ds : List D} {i : Nat} {d : D}, Reps K B vs ds → ds[i]? = some d → ∃ v, vs[i]? = some v ∧ Rep K B v d
  | _, _, _, _, .nil, e => by simp at e
  | _, _, 0, _, .cons r _, e => by simp at e; subst e; exact ⟨_, rfl, r⟩
  | _, _, i + 1, _, .cons _ t, e => by
    obtain ⟨v, h1, h2⟩ := Reps.get (i := i) t (by simpa using e)
    exact ⟨v, by simpa using h1, h2⟩
theorem Reps.getV : ∀ {vs : List V} {ds : List D} {i : Nat} {v : V}, Reps K B vs ds → vs[i]? = some v → ∃ d, ds[i]? = some d ∧ Rep K B v d
  | _, _, _, _, .nil, e => by simp at e
  | _, _, 0, _, .cons r _, e => by simp at e; subst e; exact ⟨_, rfl, r⟩
  | _, _, i + 1, _, .cons _ t, e => by
    obtain ⟨d, h1, h2⟩ := Reps.getV (i := i) t (by simpa using e)
    exact ⟨d, by simpa using h1, h2⟩
theorem Reps.append : ∀ {vs us : List V} {ds es : List D}, Reps K B vs ds → Reps K B us es → Reps K B (vs ++ us) (ds ++ es)
  | _, _, _, _, .nil, q => q
  | _, _, _, _, .cons r t, q => .cons r (t.append q)
theorem Reps.one {v : V} {d : D} (r : Rep K B v d) : Reps K B [v] [d] := .cons r .nil
theorem Reps.take : ∀ {vs : List V} {ds : List D} (n : Nat), Reps K B vs ds → Reps K B (vs.take n) (ds.take n)
  | _, _, 0, _ => by simp; exact .nil
  | _, _, n + 1, .nil => by simp; exact .nil
  | _, _, n + 1, .cons r t => by simpa using Reps.cons r (t.take n)
theorem Reps.drop : ∀ {vs : List V} {ds : List D} (n : Nat), Reps K B vs ds → Reps K B (vs.drop n) (ds.drop n)
  | _, _, 0, r => by simpa using r
  | _, _, n + 1, .nil => by simp; exact .nil
  | _, _, n + 1, .cons _ t => by simpa using t.drop n
theorem Reps.set {v : V} {d : D} (r : Rep K B v d) : ∀ {vs : List V} {ds : List D} (n : Nat), Reps K B vs ds → Reps K B (vs.set n v) (ds.set n d)
  | _, _, _, .nil => by simp; exact .nil
  | _, _, 0, .cons _ t => by simpa using Reps.cons r t
  | _, _, n + 1, .cons q t => by simpa using Reps.cons q (t.set r n)
theorem Reps.eraseIdx : ∀ {vs : List V} {ds : List D} (n : Nat), Reps K B vs ds → Reps K B (vs.eraseIdx n) (ds.eraseIdx n)
  | _, _, _, .nil => by simp; exact .nil
  | _, _, 0, .cons _ t => by simpa using t
  | _, _, n + 1, .cons q t => by simpa using Reps.cons q (t.eraseIdx n)
theorem Reps.ofInts : ∀ (ns : List Int), Reps K B (ns.map V.int) (ns.map D.int)
  | [] => .nil
  | n :: ns => .cons (.int n) (Reps.ofInts ns)
theorem Reps.ofStrs : ∀ (ns : List Str), (∀ n ∈ ns, PyData.strOk n = true) → Reps K B (ns.map V.str) (ns.map D.str)
  | [], _ => .nil
  | n :: ns, h => .cons (.str n (h n (by simp))) (Reps.ofStrs ns fun m hm => h m (by simp [hm]))
end
/-! ### slots -/
/-- how a slot stands: unknown; a value; a list of the frame's own; a list that the caller handed in to be changed; an instance with slots that is being made; an instance of the frame's own; one that the caller handed in; a dict of the frame's own by ints and texts, by tuples -/
inductive Stt where
  | U | V | L | R | I | O | M | K | T
  deriving DecidableEq
def Stt.own : Stt → Bool
  | .L | .R | .O | .M | .K | .T => true
  | _ => false
/-- lists; instances -/
def Stt.isL : Stt → Bool
  | .L | .R => true
  | _ => false
def Stt.isO : Stt → Bool
  | .O | .M => true
  | _ => false
theorem Stt.isL_own {s : Stt} (h : s.isL = true) : s.own = true := by cases s <;> first | rfl | cases h
theorem Stt.isO_own {s : Stt} (h : s.isO = true) : s.own = true := by cases s <;> first | rfl | cases h
/-- of the frame's own: it may become a plain value -/
def Stt.fsh : Stt → Bool
  | .L | .O | .K | .T => true
  | _ => false
theorem Stt.fsh_own {s : Stt} (h : s.fsh = true) : s.own = true := by cases s <;> first | rfl | cases h
def Stt.kind : Stt → D → Prop
  | .L, d | .R, d => ∃ ds, d = .lst ds
  | .O, d | .M, d => ∃ c fs, d = .ins c fs
  | .K, d => ∃ ks ds, d = .dk false ks ds
  | .T, d => ∃ ks ds, d = .dt false ks ds
  | _, _ => True
/-- the run of a def: the heap and the plain part of it at the entry; the lists that may be changed -/
structure Gam where
  H : Hp
  B : Hp
  ref : Addr → Prop
  pr : Hp
  me : Option (Addr × Addr × Str)
  rf : Option Addr
structure Keep (K : PySem.W.Frag) (G : Gam) (H B : Hp) : Prop where
  bh : Ex B H
  pr : Ex G.pr H
  prb : ∀ a o, G.pr a = some o → B a = none
  b0 : Ex G.B B
  fr : ∀ a o, G.H a = some o → ¬ G.ref a → isTb o = false → H a = some o
  dom : ∀ a o, G.H a = some o → ∃ o', H a = some o'
  old : ∀ a o, G.H a = some o → B a = G.B a
  prn : ∀ a o, G.pr a = some o → isTb o = false
  tk : TabsK G.H H
  tab : TabK K H B
def LstOk (K : PySem.W.Frag) (H B : Hp) (a : Addr) (ds : List D) : Prop := ∃ vs, H a = some (.lst vs) ∧ Reps K B vs ds ∧ ds.length ≤ sizeLine ∧ B a = none
/-- an instance with slots that is being made -/
structure InsOk (K : PySem.W.Frag) (H B : Hp) (x dx : Addr) (c : Str) (us : List V) (fs : List D) : Prop where
  sl : SlX.Slt H x (He.ga K c) dx (us.map some)
  dxo : H dx = some (.own x) ∨ H dx = some (.xd [])
  rs : Reps K B us fs
  bx : B x = none
  bd : B dx = none
  ne : dx ≠ x
theorem InsOk.nl {K : PySem.W.Frag} {H B : Hp} {x dx : Addr} {c : Str} {us : List V} {fs : List D} (o : InsOk K H B x dx c us fs) {p : Addr} {vs : List V} (h : H p = some (.lst vs)) : x ≠ p ∧ dx ≠ p := by
  refine ⟨fun z => ?_, fun z => ?_⟩
  · rcases o.sl with ⟨h1, _⟩ | ⟨h1, _⟩ <;> · rw [z, h] at h1; cases h1
  · rcases o.dxo with h1 | h1 <;> · rw [z, h] at h1; cases h1
theorem InsOk.xs {K : PySem.W.Frag} {H B : Hp} {x dx : Addr} {c : Str} {us : List V} {fs : List D} (o : InsOk K H B x dx c us fs) : (∃ q, H x = some q) ∧ ∃ q, H dx = some q := by
  refine ⟨?_, ?_⟩
  · rcases o.sl with ⟨h1, _⟩ | ⟨h1, _⟩ <;> exact ⟨_, h1⟩
  · rcases o.dxo with h1 | h1 <;> exact ⟨_, h1⟩
theorem InsOk.nt {K : PySem.W.Frag} {H B : Hp} {x dx : Addr} {c : Str} {us : List V} {fs : List D} (o : InsOk K H B x dx c us fs) : (∀ q, H x = some q → isTb q = false) ∧ ∀ q, H dx = some q → isTb q = false := by
  refine ⟨fun q e => ?_, fun q e => ?_⟩
  · rcases o.sl with ⟨h1, _⟩ | ⟨h1, _⟩ <;> · rw [e] at h1; cases h1; rfl
  · rcases o.dxo with h1 | h1 <;> · rw [e] at h1; cases h1; rfl
theorem InsOk.pl {K : PySem.W.Frag} {H B : Hp} {x dx : Addr} {c : Str} {us : List V} {fs : List D} (o : InsOk K H B x dx c us fs) : (∃ q, H x = some q ∧ plainO q) ∧ ∃ q, H dx = some q ∧ plainO q := by
  refine ⟨?_, ?_⟩
  · rcases o.sl with ⟨h1, _⟩ | ⟨h1, _⟩ <;> exact ⟨_, h1, rfl, rfl⟩
  · rcases o.dxo with h1 | h1 <;> exact ⟨_, h1, rfl, rfl⟩
/-- it stays, where its two objects stay -/
theorem InsOk.stay {K : PySem.W.Frag} {H B H' B' : Hp} {x dx : Addr} {c : Str} {us : List V} {fs : List D} (o : InsOk K H B x dx c us fs) (h1 : ∀ q, H x = some q → H' x = some q) (h2 : ∀ q, H dx = some q → H' dx = some q) (e : Ex B B') (b1 : B' x = none) (b2 : B' dx = none) : InsOk K H' B' x dx c us fs := by
  refine ⟨?_, o.dxo.elim (fun z => .inl (h2 _ z)) fun z => .inr (h2 _ z), o.rs.mono e, b1, b2, o.ne⟩
  rcases o.sl with ⟨q1, q2⟩ | ⟨q1, q2⟩
  · exact .inl ⟨h1 _ q1, q2⟩
  · exact .inr ⟨h1 _ q1, h2 _ q2⟩
/-! ### data of a frame's own: a list, a dict, an instance with its dict and its own cells -/
def DkOk (K : PySem.W.Frag) (H B : Hp) (a : Addr) (ks : List Key) (ds : List D) : Prop := ∃ vs, H a = some (.dK (ks.zip vs)) ∧ Reps K B vs ds ∧ ks.length = ds.length ∧ ds.length ≤ sizeLine ∧ B a = none ∧ ∀ x, Sum.inr x ∈ ks → PyData.strOk x = true
def DtOk (K : PySem.W.Frag) (H B : Hp) (a : Addr) (ks : List (List Key)) (ds : List D) : Prop := ∃ vs, H a = some (.dT (ks.zip vs)) ∧ Reps K B vs ds ∧ ks.length = ds.length ∧ ds.length ≤ sizeLine ∧ B a = none ∧ ∀ k ∈ ks, ∀ x, Sum.inr x ∈ k → PyData.strOk x = true
def CellOk (K : PySem.W.Frag) (H B : Hp) (a : Addr) : D → Prop
  | .lst ds => LstOk K H B a ds
  | .dk lk ks ds => lk = false ∧ DkOk K H B a ks ds
  | .dt lk ks ds => lk = false ∧ DtOk K H B a ks ds
  | _ => False
/-- the fields that hold lists, dicts by ints and texts, dicts by tuples -/
def boxK (f : Str) : D → Bool
  | .lst _ => LBOX.elem f
  | .dk _ _ _ => KBOX.elem f
  | .dt _ _ _ => TBOX.elem f
  | _ => false
def FOk (K : PySem.W.Frag) (H B : Hp) : List Str → List V → List D → Prop
  | _, [], [] => True
  | n :: ns, v :: vs, d :: ds => (if boxF n = true then ∃ a, v = .ref a ∧ CellOk K H B a d ∧ boxK n d = true else Rep K B v d) ∧ FOk K H B ns vs ds
  | _, _, _ => False
structure InOk (K : PySem.W.Frag) (H B : Hp) (x dx : Addr) (c : Str) (us : List V) (fs : List D) : Prop where
  hx : H x = some (.ins (He.ga K c) dx ((flds c).zip us))
  hd : H dx = some (.own x)
  fo : FOk K H B (flds c) us fs
  bx : B x = none
  bd : B dx = none
  ne : (flds c).isEmpty = false
  un : ∀ (i j : Nat) (f g : Str) (a : Addr), boxF f = true → boxF g = true → ((flds c).zip us)[i]? = some (f, .ref a) → ((flds c).zip us)[j]? = some (g, .ref a) → i = j
def MOk (K : PySem.W.Frag) (H B : Hp) (x : Addr) : D → Prop
  | .ins c fs => ∃ dx us, InOk K H B x dx c us fs
  | d => CellOk K H B x d
/-- what the thing at x is made of -/
def Root (H : Hp) (x a : Addr) : Prop := a = x ∨ ∃ C dx gs, H x = some (.ins C dx gs) ∧ (a = dx ∨ ∃ f, boxF f = true ∧ (f, V.ref a) ∈ gs)
def Rt (H : Hp) (v : Option V) (a : Addr) : Prop := ∃ x, v = some (.ref x) ∧ Root H x a
theorem Root.self {H : Hp} {x : Addr} : Root H x x := .inl rfl
theorem Root.congr {H H' : Hp} {x a : Addr} (h : H' x = H x) : Root H' x a ↔ Root H x a := by unfold Root; rw [h]
theorem Rt.of {H : Hp} {x a : Addr} (h : Rt H (some (.ref x)) a) : Root H x a := by obtain ⟨y, e, r⟩ := h; cases e; exact r
theorem CellOk.ntp {K : PySem.W.Frag} {H B : Hp} {a : Addr} {d : D} {u : HO} (h : CellOk K H B a d) (e : H a = some u) : isTp u = false := by
  cases d with
  | lst ds => obtain ⟨vs, q, _⟩ := h; rw [q] at e; cases e; rfl
  | dk lk ks ds => obtain ⟨_, vs, q, _⟩ := h; rw [q] at e; cases e; rfl
  | dt lk ks ds => obtain ⟨_, vs, q, _⟩ := h; rw [q] at e; cases e; rfl
  | _ => exact h.elim
theorem CellOk.has {K : PySem.W.Frag} {H B : Hp} {a : Addr} {d : D} (h : CellOk K H B a d) : (∃ o, H a = some o ∧ plainO o ∧ ∀ C dx gs, o ≠ .ins C dx gs) ∧ B a = none := by
  cases d with
  | lst ds => obtain ⟨vs, e, _, _, b⟩ := h; exact ⟨⟨_, e, ⟨rfl, rfl⟩, fun _ _ _ z => by cases z⟩, b⟩
  | dk lk ks ds => obtain ⟨_, vs, e, _, _, _, b, _⟩ := h; exact ⟨⟨_, e, ⟨rfl, rfl⟩, fun _ _ _ z => by cases z⟩, b⟩
  | dt lk ks ds => obtain ⟨_, vs, e, _, _, _, b, _⟩ := h; exact ⟨⟨_, e, ⟨rfl, rfl⟩, fun _ _ _ z => by cases z⟩, b⟩
  | _ => exact h.elim
theorem CellOk.root {K : PySem.W.Frag} {H B : Hp} {x a : Addr} {d : D} (h : CellOk K H B x d) (r : Root H x a) : a = x := by
  rcases r with r | ⟨C, dx, gs, e, _⟩
  · exact r
  · obtain ⟨⟨o, e2, _, n⟩, _⟩ := h.has
    rw [e] at e2; cases e2; exact (n _ _ _ rfl).elim
theorem CellOk.stay {K : PySem.W.Frag} {H B H' B' : Hp} {a : Addr} {d : D} (h : CellOk K H B a d) (k : ∀ o, H a = some o → H' a = some o) (e : Ex B B') (b : B' a = none) : CellOk K H' B' a d := by
  cases d with
  | lst ds => obtain ⟨vs, q, r, z, _⟩ := h; exact ⟨vs, k _ q, r.mono e, z, b⟩
  | dk lk ks ds => obtain ⟨w, vs, q, r, l, z, _, n⟩ := h; exact ⟨w, vs, k _ q, r.mono e, l, z, b, n⟩
  | dt lk ks ds => obtain ⟨w, vs, q, r, l, z, _, n⟩ := h; exact ⟨w, vs, k _ q, r.mono e, l, z, b, n⟩
  | _ => exact h.elim
theorem FOk.has {K : PySem.W.Frag} {H B : Hp} : ∀ {ns : List Str} {us : List V} {fs : List D} {f : Str} {a : Addr}, FOk K H B ns us fs → boxF f = true → (f, V.ref a) ∈ ns.zip us → ∃ d, CellOk K H B a d
  | _, [], _, f, a, _, _, m => by simp at m
  | n :: ns, v :: vs, d :: ds, f, a, h, hf, m => by
    obtain ⟨h1, h2⟩ := h
    rw [List.zip_cons_cons] at m
    rcases List.mem_cons.mp m with z | z
    · cases z
      rw [if_pos hf] at h1
      obtain ⟨b, e, c, _⟩ := h1
      cases e
      exact ⟨d, c⟩
    · exact FOk.has h2 hf z
  | _ :: _, _ :: _, [], _, _, h, _, _ => h.elim
  | [], _ :: _, _, _, _, h, _, m => by simp at m
theorem FOk.stay {K : PySem.W.Frag} {H B H' B' : Hp} (e : Ex B B') : ∀ {ns : List Str} {us : List V} {fs : List D}, FOk K H B ns us fs → (∀ f a, boxF f = true → (f, V.ref a) ∈ ns.zip us → (∀ o, H a = some o → H' a = some o) ∧ B' a = none) → FOk K H' B' ns us fs
  | _, [], [], _, _ => by unfold FOk; trivial
  | n :: ns, v :: vs, d :: ds, h, k => by
    obtain ⟨h1, h2⟩ := h
    refine ⟨?_, FOk.stay e h2 fun f a hf m => k f a hf (by rw [List.zip_cons_cons]; exact List.mem_cons_of_mem _ m)⟩
    by_cases q : boxF n = true
    · rw [if_pos q] at h1 ⊢
      obtain ⟨a, rfl, c, kd⟩ := h1
      obtain ⟨k1, k2⟩ := k n a q (by rw [List.zip_cons_cons]; exact List.mem_cons_self)
      exact ⟨a, rfl, c.stay k1 e k2, kd⟩
    · rw [if_neg q] at h1 ⊢
      exact h1.mono e
  | _ :: _, _ :: _, [], h, _ => h.elim
  | [], _ :: _, _, h, _ => h.elim
  | [], [], _ :: _, h, _ => h.elim
  | _ :: _, [], _ :: _, h, _ => h.elim
theorem FOk.len {K : PySem.W.Frag} {H B : Hp} : ∀ {ns : List Str} {us : List V} {fs : List D}, FOk K H B ns us fs → us.length = fs.length ∧ fs.length ≤ ns.length
  | _, [], [], _ => ⟨rfl, by simp⟩
  | n :: ns, v :: vs, d :: ds, h => by
    obtain ⟨a, b⟩ := FOk.len h.2
    exact ⟨by simp [a], by simp [b]⟩
  | _ :: _, _ :: _, [], h => h.elim
  | [], _ :: _, _, h => h.elim
  | [], [], _ :: _, h => h.elim
  | _ :: _, [], _ :: _, h => h.elim
theorem MOk.cell {K : PySem.W.Frag} {H B : Hp} {x : Addr} {d : D} (h : MOk K H B x d) : (∃ c fs, d = .ins c fs) ∨ CellOk K H B x d := by
  cases d with
  | ins c fs => exact .inl ⟨c, fs, rfl⟩
  | _ => exact .inr h
theorem MOk.has {K : PySem.W.Frag} {H B : Hp} {x a : Addr} {d : D} (h : MOk K H B x d) (r : Root H x a) : (∃ o, H a = some o ∧ plainO o) ∧ B a = none := by
  rcases h.cell with ⟨c, fs, rfl⟩ | h
  · obtain ⟨dx, us, o⟩ := h
    rcases r with rfl | ⟨C, dx', gs, e, r⟩
    · exact ⟨⟨_, o.hx, rfl, rfl⟩, o.bx⟩
    · rw [o.hx] at e
      cases e
      rcases r with rfl | ⟨f, hf, m⟩
      · exact ⟨⟨_, o.hd, rfl, rfl⟩, o.bd⟩
      · obtain ⟨d, c⟩ := o.fo.has hf m
        obtain ⟨⟨q, e, p, _⟩, b⟩ := c.has
        exact ⟨⟨q, e, p⟩, b⟩
  · obtain ⟨⟨q, e, p, _⟩, b⟩ := h.has
    rw [h.root r]
    exact ⟨⟨q, e, p⟩, b⟩
theorem MOk.stay {K : PySem.W.Frag} {H B H' B' : Hp} {x : Addr} {d : D} (h : MOk K H B x d) (k : ∀ a o, Root H x a → H a = some o → H' a = some o) (e : Ex B B') (b : ∀ a, Root H x a → B' a = none) : MOk K H' B' x d := by
  rcases h.cell with ⟨c, fs, rfl⟩ | h'
  · obtain ⟨dx, us, o⟩ := h
    have rx : Root H x x := .inl rfl
    have rd : Root H x dx := .inr ⟨_, _, _, o.hx, .inl rfl⟩
    exact ⟨dx, us, k _ _ rx o.hx, k _ _ rd o.hd, o.fo.stay e fun f a hf m => ⟨fun q => k a q (.inr ⟨_, _, _, o.hx, .inr ⟨f, hf, m⟩⟩), b a (.inr ⟨_, _, _, o.hx, .inr ⟨f, hf, m⟩⟩)⟩, b x rx, b dx rd, o.ne, o.un⟩
  · have := h'.stay (k x · .self) e (b x .self)
    cases d with
    | ins c fs => exact this.elim
    | _ => exact this
theorem MOk.same {K : PySem.W.Frag} {H B H' : Hp} {x a : Addr} {d : D} (h : MOk K H B x d) (k : ∀ o, H x = some o → H' x = some o) : Root H' x a ↔ Root H x a := by
  obtain ⟨⟨o, e, _⟩, _⟩ := h.has .self
  exact Root.congr (by rw [e, k o e])
/-- an instance has all its fields -/
def fullB : D → Bool
  | .ins c fs => fs.length == (flds c).length
  | _ => true
def Full : D → Prop
  | .ins c fs => fs.length = (flds c).length
  | _ => True
theorem fullB_ok {d : D} (h : fullB d = true) : Full d := by
  cases d with
  | ins c fs => exact eq_of_beq h
  | _ => trivial
theorem CellOk.rep {K : PySem.W.Frag} {H B B' : Hp} {a : Addr} {d : D} (h : CellOk K H B a d) (e : Ex B B') (b : B' a = H a) : Rep K B' (.ref a) d := by
  cases d with
  | lst ds => obtain ⟨vs, q, r, z, _⟩ := h; exact .lst (.inl (.inl (b.trans q))) (r.mono e) z
  | dk lk ks ds => obtain ⟨w, vs, q, r, l, z, _, n⟩ := h; exact .dk (.inr ⟨w, b.trans q⟩) (r.mono e) l z n
  | dt lk ks ds => obtain ⟨w, vs, q, r, l, z, _, n⟩ := h; exact .dt (.inr ⟨w, b.trans q⟩) (r.mono e) l z n
  | _ => exact h.elim
theorem FOk.reps {K : PySem.W.Frag} {H B B' : Hp} (e : Ex B B') : ∀ {ns : List Str} {us : List V} {fs : List D}, FOk K H B ns us fs → (∀ f a, boxF f = true → (f, V.ref a) ∈ ns.zip us → B' a = H a) → Reps K B' us fs
  | _, [], [], _, _ => .nil
  | n :: ns, v :: vs, d :: ds, h, k => by
    obtain ⟨h1, h2⟩ := h
    refine .cons ?_ (FOk.reps e h2 fun f a hf m => k f a hf (by rw [List.zip_cons_cons]; exact List.mem_cons_of_mem _ m))
    by_cases q : boxF n = true
    · rw [if_pos q] at h1
      obtain ⟨a, rfl, c, _⟩ := h1
      exact c.rep e (k n a q (by rw [List.zip_cons_cons]; exact List.mem_cons_self))
    · rw [if_neg q] at h1
      exact h1.mono e
  | _ :: _, _ :: _, [], h, _ => h.elim
  | [], _ :: _, _, h, _ => h.elim
  | [], [], _ :: _, h, _ => h.elim
  | _ :: _, [], _ :: _, h, _ => h.elim
theorem MOk.rep {K : PySem.W.Frag} {H B B' : Hp} {x : Addr} {d : D} (h : MOk K H B x d) (f : Full d) (e : Ex B B') (b : ∀ a, Root H x a → B' a = H a) : Rep K B' (.ref x) d := by
  rcases h.cell with ⟨c, fs, rfl⟩ | h'
  · obtain ⟨dx, us, o⟩ := h
    have rd : Root H x dx := .inr ⟨_, _, _, o.hx, .inl rfl⟩
    exact .di o.ne f ((b x .self).trans o.hx) ((b dx rd).trans o.hd) (o.fo.reps e fun f a hf m => b a (.inr ⟨_, _, _, o.hx, .inr ⟨f, hf, m⟩⟩))
  · exact h'.rep e (b x .self)
/-- a thing of the frame's own; one that was handed in -/
def OwnOk (K : PySem.W.Frag) (G : Gam) (H B : Hp) (v : Option V) (d : D) : Prop := ∃ a, v = some (.ref a) ∧ (MOk K H B a d ∧ Full d) ∧ ∀ b, Root H a b → G.pr b = none ∧ G.H b = none
def RefOk (K : PySem.W.Frag) (G : Gam) (H B : Hp) (v : Option V) (d : D) : Prop := ∃ a, v = some (.ref a) ∧ MOk K H B a d ∧ (∀ b, Root H a b → G.pr b = none ∧ (G.H b = none ∨ G.ref b)) ∧ G.rf = some a
def SlotOk (K : PySem.W.Frag) (G : Gam) (H B : Hp) (st : Stt) (v : Option V) (d : D) : Prop := match st with
  | .U => True
  | .V => ∃ x, v = some x ∧ Rep K B x d
  | .I => ∃ x dx c us fs, v = some (.ref x) ∧ d = .ins c fs ∧ InsOk K H B x dx c us fs ∧ (G.pr x = none ∧ G.pr dx = none) ∧ G.me = some (x, dx, c) ∧ G.ref x ∧ G.ref dx
  | .R => RefOk K G H B v d ∧ Stt.R.kind d
  | .M => RefOk K G H B v d ∧ Stt.M.kind d
  | .L => OwnOk K G H B v d ∧ Stt.L.kind d
  | .O => OwnOk K G H B v d ∧ Stt.O.kind d
  | .K => OwnOk K G H B v d ∧ Stt.K.kind d
  | .T => OwnOk K G H B v d ∧ Stt.T.kind d
abbrev Env := List D
def look (ρ : Env) (i : Nat) : D := ρ.getD i .non
structure Rel (K : PySem.W.Frag) (G : Gam) (own : List Stt) (ρ : Env) (σ : L2.St) (H B : Hp) : Prop where
  keep : Keep K G H B
  lr : ρ.length = own.length
  ls : σ.length = own.length
  slot : ∀ (i : Nat) (st : Stt), own[i]? = some st → SlotOk K G H B st (σ[i]?).join (look ρ i)
  sep : ∀ (i j : Nat) (si sj : Stt) (a : Addr), own[i]? = some si → own[j]? = some sj → si.own = true → sj.own = true → Rt H (σ[i]?).join a → Rt H (σ[j]?).join a → i = j
theorem SlotOk.split {K : PySem.W.Frag} {G : Gam} {H B : Hp} {st : Stt} {v : Option V} {d : D} (hs : st.own = true) : SlotOk K G H B st v d ↔ (if st.fsh = true then OwnOk K G H B v d else RefOk K G H B v d) ∧ st.kind d := by
  cases st with
  | L => show _ ↔ (if true = true then _ else _) ∧ _; rw [if_pos rfl]; exact Iff.rfl
  | O => show _ ↔ (if true = true then _ else _) ∧ _; rw [if_pos rfl]; exact Iff.rfl
  | K => show _ ↔ (if true = true then _ else _) ∧ _; rw [if_pos rfl]; exact Iff.rfl
  | T => show _ ↔ (if true = true then _ else _) ∧ _; rw [if_pos rfl]; exact Iff.rfl
  | R => show _ ↔ (if false = true then _ else _) ∧ _; rw [if_neg (by decide)]; exact Iff.rfl
  | M => show _ ↔ (if false = true then _ else _) ∧ _; rw [if_neg (by decide)]; exact Iff.rfl
  | _ => cases hs
/-- data of the frame's own, in whichever way -/
theorem SlotOk.mok {K : PySem.W.Frag} {G : Gam} {H B : Hp} {st : Stt} {v : Option V} {d : D} (h : SlotOk K G H B st v d) (hs : st.own = true) : ∃ a, v = some (.ref a) ∧ MOk K H B a d ∧ ∀ b, Root H a b → G.pr b = none ∧ (G.H b = none ∨ G.ref b) := by
  obtain ⟨h, _⟩ := (SlotOk.split hs).mp h
  split at h
  · obtain ⟨a, e, ⟨m, _⟩, g⟩ := h; exact ⟨a, e, m, fun b r => ⟨(g b r).1, .inl (g b r).2⟩⟩
  · obtain ⟨a, e, m, g, _⟩ := h; exact ⟨a, e, m, g⟩
theorem SlotOk.knd {K : PySem.W.Frag} {G : Gam} {H B : Hp} {st : Stt} {v : Option V} {d : D} (h : SlotOk K G H B st v d) (hs : st.own = true) : st.kind d := ((SlotOk.split hs).mp h).2
/-- it stays, where the heap stays -/
theorem SlotOk.keepF {K : PySem.W.Frag} {G G' : Gam} {H B H' B' : Hp} {st : Stt} {v : Option V} {d d' : D} (h : SlotOk K G H B st v d) (hs : st.own = true) {a : Addr} (ha : v = some (.ref a)) (m : MOk K H' B' a d') (fl : st.fsh = true → Full d') (kd : st.kind d → st.kind d') (rr : ∀ b, Root H' a b → Root H a b ∨ (G'.pr b = none ∧ G'.H b = none))
    (g : ∀ b, Root H a b → G.pr b = none → G'.pr b = none) (g1 : G'.H = G.H := by rfl) (g2 : G'.ref = G.ref := by rfl) (g3 : G'.rf = G.rf := by rfl) : SlotOk K G' H' B' st v d' := by
  obtain ⟨h, k0⟩ := (SlotOk.split hs).mp h
  refine (SlotOk.split hs).mpr ⟨?_, kd k0⟩
  split at h
  · rename_i q0
    rw [if_pos q0]
    obtain ⟨x, e, ⟨_, fu⟩, q⟩ := h
    rw [ha] at e; cases e
    refine ⟨a, ha, ⟨m, fl q0⟩, fun b r => ?_⟩
    rcases rr b r with r | r
    · exact ⟨g b r (q b r).1, by rw [g1]; exact (q b r).2⟩
    · exact r
  · rename_i q0
    rw [if_neg q0]
    obtain ⟨x, e, _, q, f⟩ := h
    rw [ha] at e; cases e
    refine ⟨a, ha, m, fun b r => ?_, by rw [g3]; exact f⟩
    rcases rr b r with r | r
    · refine ⟨g b r (q b r).1, ?_⟩
      rw [g1, g2]; exact (q b r).2
    · exact ⟨r.1, .inl r.2⟩
/-- it stays, where the heap stays -/
theorem SlotOk.keep {K : PySem.W.Frag} {G G' : Gam} {H B H' B' : Hp} {st : Stt} {v : Option V} {d d' : D} (h : SlotOk K G H B st v d) (hs : st.own = true) {a : Addr} (ha : v = some (.ref a)) (m : MOk K H' B' a d') (fl : Full d → Full d') (kd : st.kind d → st.kind d') (rr : ∀ b, Root H' a b → Root H a b ∨ (G'.pr b = none ∧ G'.H b = none))
    (g : ∀ b, Root H a b → G.pr b = none → G'.pr b = none) (g1 : G'.H = G.H := by rfl) (g2 : G'.ref = G.ref := by rfl) (g3 : G'.rf = G.rf := by rfl) : SlotOk K G' H' B' st v d' := by
  refine SlotOk.keepF h hs ha m (fun q0 => fl ?_) kd rr g g1 g2 g3
  have x := ((SlotOk.split hs).mp h).1
  rw [if_pos q0] at x
  obtain ⟨_, _, ⟨_, fu⟩, _⟩ := x
  exact fu
/-- the heap grew, and the plain part with it -/
structure New (K : PySem.W.Frag) (B H B' H' : Hp) : Prop where
  b : Ex B B'
  h : ExN H H'
  dm : ∀ a o, H a = some o → ∃ o', H' a = some o'
  bh : Ex B' H'
  old : ∀ a o, H a = some o → B' a = B a
  tk : TabsK H H'
  th : TabsH (lamT K) H → TabsH (lamT K) H'
  nb : NB H B → NB H' B'
/-- without a thing that was thought plain for a while -/
theorem New.less {K : PySem.W.Frag} {B H B' H' : Hp} {p : Addr} {o : HO} (n : New K (upd B p o) H B' H') (hp : H p = some o) (hb : B p = none) (hz : isTp o = false) (ho : isTb o = false := by rfl) : New K B H (fun a => if a = p then none else B' a) H' := by
  refine ⟨fun a u e => ?_, n.h, n.dm, fun a u e => ?_, fun a u e => ?_, n.tk, n.th, fun t => ?_⟩
  · rw [if_neg (ne_of_none e hb)]; exact n.b a u (by rw [upd_ne (ne_of_none e hb)]; exact e)
  · by_cases z : a = p
    · rw [if_pos z] at e; cases e
    · rw [if_neg z] at e; exact n.bh a u e
  · by_cases z : a = p
    · rw [if_pos z, z, hb]
    · rw [if_neg z, n.old a u e, upd_ne z]
  · have t2 : NB H (upd B p o) := ⟨fun a ps z => by
      by_cases w : a = p
      · rw [w, upd_same] at z; cases z; cases ho
      · rw [upd_ne w] at z; exact t.nt a ps z, fun a vs z => by
      by_cases w : a = p
      · rw [w, hp] at z; cases z; cases hz
      · rw [upd_ne w]; exact t.tp a vs z⟩
    have t3 := n.nb t2
    refine ⟨fun a ps z => ?_, fun a vs z => ?_⟩
    · by_cases w : a = p
      · rw [if_pos w] at z; cases z
      · rw [if_neg w] at z; exact t3.nt a ps z
    · by_cases w : a = p
      · have := n.h p o hp ho
        rw [w, this] at z; cases z; cases hz
      · rw [if_neg w]; exact t3.tp a vs z
theorem New.refl {K : PySem.W.Frag} {B H : Hp} (e : Ex B H) : New K B H B H := ⟨Ex.rfl, Ex.rfl.n, fun _ o h => ⟨o, h⟩, e, fun _ _ _ => rfl, TabsK.rfl, id, id⟩
theorem New.trans {K : PySem.W.Frag} {B H B1 H1 B2 H2 : Hp} (x : New K B H B1 H1) (y : New K B1 H1 B2 H2) : New K B H B2 H2 :=
  ⟨x.b.trans y.b, fun a o e n => y.h a o (x.h a o e n) n, fun a o e => let ⟨o1, e1⟩ := x.dm a o e; y.dm a o1 e1, y.bh, fun a o e => let ⟨o1, e1⟩ := x.dm a o e; (y.old a o1 e1).trans (x.old a o e), x.tk.trans y.tk, fun t => y.th (x.th t), fun t => y.nb (x.nb t)⟩
theorem New.alloc {K : PySem.W.Frag} {B H : Hp} (e : Ex B H) {p : Addr} {o : HO} (hp : H p = none) (ho : isTb o = false := by rfl) : New K B H (upd B p o) (upd H p o) := by
  have hb : B p = none := e.free hp
  refine ⟨Ex.new hb, (Ex.new hp).n, fun a u q => ⟨u, Ex.new hp a u q⟩, fun a u q => ?_, fun a u q => ?_, TabsK.upd fun ps z => (by rw [hp] at z; cases z), fun t => t.upd (.inl hp) ho, fun t => ⟨fun a ps z => ?_, fun a vs z => ?_⟩⟩
  · by_cases ha : a = p
    · subst ha; rw [upd_same] at q ⊢; exact q
    · rw [upd_ne ha] at q ⊢; exact e _ _ q
  · rw [upd_ne (ne_of_none q hp)]
  · by_cases w : a = p
    · subst w; rw [upd_same] at z; cases z; cases ho
    · rw [upd_ne w] at z; exact t.nt a ps z
  · by_cases w : a = p
    · rw [w, upd_same] at z; rw [w, upd_same]; exact z
    · rw [upd_ne w] at z; rw [upd_ne w]; exact t.tp a vs z
/-- the heap grew by what the plain part does not tell -/
theorem New.heap {K : PySem.W.Frag} {B H : Hp} (e : Ex B H) {p : Addr} {o : HO} (hp : H p = none) (ho : isTb o = false := by rfl) (ht : isTp o = false := by rfl) : New K B H B (upd H p o) :=
  ⟨Ex.rfl, (Ex.new hp).n, fun a u q => ⟨u, Ex.new hp a u q⟩, e.trans (Ex.new hp), fun _ _ _ => rfl, TabsK.upd fun ps z => (by rw [hp] at z; cases z), fun t => t.upd (.inl hp) ho, fun t => ⟨t.nt, fun a vs z => by
    by_cases w : a = p
    · rw [w, upd_same] at z; cases z; cases ht
    · rw [upd_ne w] at z; exact t.tp a vs z⟩⟩
section
variable {K : PySem.W.Frag} {G : Gam} {own : List Stt} {ρ : Env} {σ : L2.St} {H B H' B' : Hp}
theorem TabK.new (t : TabK K H B) (n : New K B H B' H') : TabK K H' B' := ⟨n.th t.th, fun P hP => let ⟨ps, e⟩ := t.on P hP; n.tk P ps e, n.nb t.nb⟩
theorem Keep.new (k : Keep K G H B) (n : New K B H B' H') : Keep K G H' B' :=
  ⟨n.bh, fun a o e => n.h a o (k.pr a o e) (k.prn a o e), fun a o e => (n.old a o (k.pr a o e)).trans (k.prb a o e), k.b0.trans n.b, fun a o e na nt => n.h _ _ (k.fr a o e na nt) nt, fun a o e => let ⟨o', q⟩ := k.dom a o e; n.dm a o' q, fun a o e => by
    obtain ⟨o', q⟩ := k.dom a o e
    exact (n.old a o' q).trans (k.old a o e), k.prn, k.tk.trans n.tk, k.tab.new n⟩
theorem LstOk.new {a : Addr} {ds : List D} (l : LstOk K H B a ds) (n : New K B H B' H') : LstOk K H' B' a ds := by
  obtain ⟨vs, h, r, z, b⟩ := l
  exact ⟨vs, n.h _ _ h rfl, r.mono n.b, z, (n.old a _ h).trans b⟩
theorem MOk.new {a : Addr} {d : D} (m : MOk K H B a d) (n : New K B H B' H') : MOk K H' B' a d ∧ ∀ b, Root H' a b ↔ Root H a b := by
  have key : ∀ b o, Root H a b → H b = some o → H' b = some o := fun b o r e => by
    obtain ⟨⟨o', e', p⟩, _⟩ := m.has r
    rw [e] at e'; cases e'
    exact n.h b o e p.1
  refine ⟨m.stay key n.b fun b r => ?_, fun b => m.same fun o e => key a o .self e⟩
  obtain ⟨⟨o', e', _⟩, q⟩ := m.has r
  exact (n.old b o' e').trans q
theorem SlotOk.new {st : Stt} {v : Option V} {d : D} (x : SlotOk K G H B st v d) (n : New K B H B' H') : SlotOk K G H' B' st v d := by
  have own1 : st.own = true → SlotOk K G H' B' st v d := fun os => by
    obtain ⟨a, e, m, _⟩ := x.mok os
    exact SlotOk.keep x os e (m.new n).1 id id (fun b r => .inl (((m.new n).2 b).mp r)) fun _ _ q => q
  cases st with
  | U => trivial
  | V => obtain ⟨x, e, r⟩ := x; exact ⟨x, e, r.mono n.b⟩
  | I =>
    obtain ⟨y, dx, c, us, fs, e, e2, o, g⟩ := x
    obtain ⟨⟨q1, h1⟩, q2, h2⟩ := o.xs
    exact ⟨y, dx, c, us, fs, e, e2, o.stay (fun q z => n.h _ _ z (o.nt.1 q z)) (fun q z => n.h _ _ z (o.nt.2 q z)) n.b ((n.old _ _ h1).trans o.bx) ((n.old _ _ h2).trans o.bd), g⟩
  | _ => exact own1 rfl
/-- the roots of a slot, where its thing stays -/
theorem Rel.back (r : Rel K G own ρ σ H B) {i : Nat} {si : Stt} {a : Addr} (hi : own[i]? = some si) (oi : si.own = true) (k : ∀ x o, (σ[i]?).join = some (.ref x) → H x = some o → plainO o → H' x = some o) (h : Rt H' (σ[i]?).join a) : Rt H (σ[i]?).join a := by
  obtain ⟨x, e, m, _⟩ := (r.slot i si hi).mok oi
  obtain ⟨y, e2, rt⟩ := h
  rw [e] at e2; cases e2
  obtain ⟨⟨o, eo, po⟩, _⟩ := m.has .self
  exact ⟨x, e, (Root.congr (by rw [eo, k x o e eo po])).mp rt⟩
theorem Rel.new (r : Rel K G own ρ σ H B) (n : New K B H B' H') : Rel K G own ρ σ H' B' :=
  ⟨r.keep.new n, r.lr, r.ls, fun i st h => (r.slot i st h).new n, fun i j si sj a hi hj oi oj ei ej => r.sep i j si sj a hi hj oi oj (r.back hi oi (fun x o _ e p => n.h x o e p.1) ei) (r.back hj oj (fun x o _ e p => n.h x o e p.1) ej)⟩
theorem look_set {i j : Nat} {d : D} (h : i < ρ.length) : look (ρ.set i d) j = if j = i then d else look ρ j := by
  unfold look
  by_cases e : j = i
  · subst e; simp [h]
  · rw [if_neg e]
    simp only [List.getD_eq_getElem?_getD]
    rw [List.getElem?_set_ne (fun z => e z.symm)]
theorem join_set {i j : Nat} {v : Option V} (h : i < σ.length) : ((σ.set i v)[j]?).join = if j = i then v else (σ[j]?).join := by
  by_cases e : j = i
  · subst e; simp [h]
  · rw [if_neg e, List.getElem?_set_ne (fun z => e z.symm)]
theorem own_set {i j : Nat} {st u : Stt} (h : (own.set i st)[j]? = some u) : (j = i ∧ u = st ∧ i < own.length) ∨ (j ≠ i ∧ own[j]? = some u) := by
  by_cases e : j = i
  · subst e
    by_cases hl : j < own.length
    · rw [List.getElem?_set_self hl] at h; exact .inl ⟨rfl, (Option.some.inj h).symm, hl⟩
    · rw [List.getElem?_eq_none (by simpa using hl)] at h; cases h
  · rw [List.getElem?_set_ne (fun z => e z.symm)] at h; exact .inr ⟨e, h⟩
/-- a name is given a value -/
theorem Rel.setV (r : Rel K G own ρ σ H B) {i : Nat} {v : V} {d : D} (hv : Rep K B v d) : Rel K G (own.set i .V) (ρ.set i d) (σ.set i (some v)) H B := by
  refine ⟨r.keep, by simpa using r.lr, by simpa using r.ls, fun j st h => ?_, fun j k sj sk a hj hk oj ok ej ek => ?_⟩
  · rcases own_set h with ⟨rfl, rfl, hl⟩ | ⟨hne, h⟩
    · rw [join_set (by rw [r.ls]; exact hl), if_pos rfl, look_set (by rw [r.lr]; exact hl), if_pos rfl]
      exact ⟨v, rfl, hv⟩
    · by_cases hl : i < own.length
      · rw [join_set (by rw [r.ls]; exact hl), if_neg hne, look_set (by rw [r.lr]; exact hl), if_neg hne]
        exact r.slot j st h
      · have e1 : σ.set i (some v) = σ := List.set_eq_of_length_le (by rw [r.ls]; omega)
        have e2 : ρ.set i d = ρ := List.set_eq_of_length_le (by rw [r.lr]; omega)
        rw [e1, e2]; exact r.slot j st h
  · have key : ∀ (j : Nat) (sj : Stt), (own.set i .V)[j]? = some sj → sj.own = true → Rt H ((σ.set i (some v))[j]?).join a → own[j]? = some sj ∧ Rt H (σ[j]?).join a := fun j sj hj oj ej => by
      rcases own_set hj with ⟨rfl, rfl, hl⟩ | ⟨hne, h⟩
      · cases oj
      · refine ⟨h, ?_⟩
        by_cases hl : i < σ.length
        · rwa [join_set hl, if_neg hne] at ej
        · rwa [List.set_eq_of_length_le (by omega)] at ej
    obtain ⟨a1, a2⟩ := key j sj hj oj ej
    obtain ⟨b1, b2⟩ := key k sk hk ok ek
    exact r.sep j k sj sk a a1 b1 oj ok a2 b2
/-- less is said -/
def Stt.le (a b : Stt) : Bool := a == .U || a == b
theorem Rel.weak (r : Rel K G own ρ σ H B) {o : List Stt} (hl : o.length = own.length) (h : ∀ (i : Nat) (a b : Stt), o[i]? = some a → own[i]? = some b → a.le b = true) : Rel K G o ρ σ H B := by
  have key : ∀ (i : Nat) (a : Stt), o[i]? = some a → a = .U ∨ own[i]? = some a := fun i a e => by
    have hi : i < own.length := by rw [← hl]; exact (List.getElem?_eq_some_iff.mp e).1
    have e2 : own[i]? = some own[i] := List.getElem?_eq_getElem hi
    have := h i a _ e e2
    unfold Stt.le at this
    rcases Bool.or_eq_true_iff.mp this with q | q
    · exact .inl (eq_of_beq q)
    · exact .inr (by rw [e2, eq_of_beq q])
  refine ⟨r.keep, r.lr.trans hl.symm, r.ls.trans hl.symm, fun i st e => ?_, fun i j si sj a hi hj oi oj ei ej => ?_⟩
  · rcases key i st e with rfl | q
    · trivial
    · exact r.slot i st q
  · rcases key i si hi with rfl | q
    · cases oi
    · rcases key j sj hj with rfl | q2
      · cases oj
      · exact r.sep i j si sj a q q2 oi oj ei ej
theorem Rel.own_lt (r : Rel K G own ρ σ H B) {i : Nat} {st : Stt} (h : own[i]? = some st) : i < own.length := (List.getElem?_eq_some_iff.mp h).1
/-- no slot's thing has p -/
def NoRt (own : List Stt) (σ : L2.St) (H : Hp) (p : Addr) : Prop := ∀ (j : Nat) (sj : Stt), own[j]? = some sj → sj.own = true → ¬ Rt H (σ[j]?).join p
theorem NoRt.put {own : List Stt} {σ : L2.St} {H : Hp} {p : Addr} {o : HO} (n : NoRt own σ H p) : NoRt own σ (upd H p o) p := fun j sj hj oj ⟨x, e, r⟩ => by
  by_cases z : x = p
  · exact n j sj hj oj ⟨x, e, .inl z.symm⟩
  · exact n j sj hj oj ⟨x, e, (Root.congr (upd_ne z)).mp r⟩
def noI (own : List Stt) : Prop := ∀ i : Nat, own[i]? ≠ some .I
def noIB (own : List Stt) : Bool := own.all fun s => s != .I
theorem noI_of {own : List Stt} (h : noIB own = true) : noI own := fun i e => by
  have := List.all_eq_true.mp h _ (List.mem_of_getElem? e)
  exact absurd this (by decide)
/-- things that nobody has are told from now on -/
theorem Rel.tell (r : Rel K G own ρ σ H B) {B' : Hp} (eB : Ex B B') (bh : Ex B' H) (nw : ∀ b o, B' b = some o → B b = none → (G.pr b = none ∧ G.H b = none) ∧ NoRt own σ H b ∧ isTb o = false ∧ ∀ y dx c us fs, InsOk K H B y dx c us fs → b ≠ y ∧ b ≠ dx) : Rel K G own ρ σ H B' := by
  have nn : ∀ b, B b = none → (∀ o, B' b = some o → False) → B' b = none := fun b _ h => by
    cases q : B' b with
    | none => rfl
    | some o => exact (h o q).elim
  refine ⟨⟨bh, r.keep.pr, fun b o q => nn b (r.keep.prb b o q) fun u z => ?_, r.keep.b0.trans eB, r.keep.fr, r.keep.dom, fun b o q => ?_, r.keep.prn, r.keep.tk, ⟨r.keep.tab.th, r.keep.tab.on, ⟨fun b ps z => ?_, fun b vs z => eB b _ (r.keep.tab.nb.tp b vs z)⟩⟩⟩, r.lr, r.ls, fun j st hj => ?_, r.sep⟩
  · have := (nw b u z (r.keep.prb b o q)).1.1; rw [q] at this; cases this
  · cases hB : B b with
    | some u => rw [eB b u hB, ← hB]; exact r.keep.old b o q
    | none =>
      have h0 := r.keep.old b o q
      rw [hB] at h0
      rw [← h0]
      refine nn b hB fun u z => ?_
      have := (nw b u z hB).1.2; rw [q] at this; cases this
  · cases hB : B b with
    | some u =>
      rw [eB b u hB] at z
      cases z
      exact r.keep.tab.nb.nt b ps hB
    | none => have := (nw b _ z hB).2.2.1; cases this
  · have x := r.slot j st hj
    have own1 : st.own = true → SlotOk K G H B' st (σ[j]?).join (look ρ j) := fun os => by
      obtain ⟨a, e, m, _⟩ := x.mok os
      refine SlotOk.keep x os e (m.stay (fun _ _ _ q => q) eB fun b rt => nn b (m.has rt).2 fun o z => ?_) id id (fun b q => .inl q) fun _ _ q => q
      exact (nw b o z (m.has rt).2).2.1 j st hj os ⟨a, e, rt⟩
    cases st with
    | U => trivial
    | V => obtain ⟨x, q1, q2⟩ := x; exact ⟨x, q1, q2.mono eB⟩
    | L => exact own1 rfl
    | R => exact own1 rfl
    | O => exact own1 rfl
    | M => exact own1 rfl
    | K => exact own1 rfl
    | T => exact own1 rfl
    | I =>
      obtain ⟨y, dx, c, us, fs, q1, q2, o, q4⟩ := x
      exact ⟨y, dx, c, us, fs, q1, q2, o.stay (fun _ z => z) (fun _ z => z) eB (nn y o.bx fun u z => ((nw y u z o.bx).2.2.2 y dx c us fs o).1 rfl) (nn dx o.bd fun u z => ((nw dx u z o.bd).2.2.2 y dx c us fs o).2 rfl), q4⟩
/-- an address of a kind that instances with slots have not -/
def isI : HO → Bool
  | .ins _ _ _ | .own _ | .xd _ | .ext _ => true
  | _ => false
theorem ins_ne {K : PySem.W.Frag} {H B : Hp} {b : Addr} {o : HO} (h : H b = some o) (ho : isI o = false) : ∀ y dx c us fs, InsOk K H B y dx c us fs → b ≠ y ∧ b ≠ dx := fun y dx c us fs q => by
  refine ⟨fun z => ?_, fun z => ?_⟩
  · rcases q.sl with ⟨h1, _⟩ | ⟨h1, _⟩ <;> · rw [← z, h] at h1; cases h1; cases ho
  · rcases q.dxo with h1 | h1 <;> · rw [← z, h] at h1; cases h1; cases ho
/-- the thing of slot i is nobody's from now on -/
theorem Rel.drop (r : Rel K G own ρ σ H B) {i : Nat} {d : D} : Rel K G (own.set i .U) (ρ.set i d) σ H B := by
  refine ⟨r.keep, by simpa using r.lr, by simpa using r.ls, fun j st h => ?_, fun j k sj sk a hj hk oj ok ej ek => ?_⟩
  · rcases own_set h with ⟨rfl, rfl, hl⟩ | ⟨hne, h⟩
    · trivial
    · by_cases hl : i < ρ.length
      · rw [look_set hl, if_neg hne]; exact r.slot j st h
      · rw [List.set_eq_of_length_le (by omega)]; exact r.slot j st h
  · rcases own_set hj with ⟨rfl, rfl, _⟩ | ⟨_, hj⟩
    · cases oj
    · rcases own_set hk with ⟨rfl, rfl, _⟩ | ⟨_, hk⟩
      · cases ok
      · exact r.sep j k sj sk a hj hk oj ok ej ek
/-- what nobody has, and its parts, becomes a plain value -/
theorem Rel.lay (r : Rel K G own ρ σ H B) {a : Addr} {d : D} (m : MOk K H B a d) (f : Full d) (g : ∀ b, Root H a b → (G.pr b = none ∧ G.H b = none) ∧ NoRt own σ H b) (nI : (∃ ds, d = .lst ds) ∨ ∀ i : Nat, own[i]? ≠ some .I) : ∃ B', Ex B B' ∧ Rel K G own ρ σ H B' ∧ Rep K B' (.ref a) d := by
  classical
  let B' : Hp := fun b => if Root H a b then H b else B b
  have e1 : ∀ b, Root H a b → B' b = H b := fun b q => if_pos q
  have e2 : ∀ b, ¬ Root H a b → B' b = B b := fun b q => if_neg q
  have eB : Ex B B' := fun b o q => by
    have n : ¬ Root H a b := fun z => by rw [(m.has z).2] at q; cases q
    rw [e2 b n]; exact q
  have bh : Ex B' H := fun b o q => by
    by_cases z : Root H a b
    · rw [← e1 b z]; exact q
    · rw [e2 b z] at q; exact r.keep.bh b o q
  have nn : ∀ b, ¬ Root H a b → B b = none → B' b = none := fun b z q => by rw [e2 b z]; exact q
  refine ⟨B', eB, ?_, m.rep f eB e1⟩
  rcases nI with ⟨ds, rfl⟩ | nI
  · refine r.tell eB bh fun b o q q2 => ?_
    have z : Root H a b := Classical.byContradiction fun z => by rw [nn b z q2] at q; cases q
    have eb := CellOk.root (K := K) (B := B) (d := .lst ds) m z
    subst eb
    obtain ⟨vs, hv, _⟩ := id m
    have := e1 b z
    rw [hv, q] at this
    cases this
    exact ⟨(g b z).1, (g b z).2, rfl, ins_ne hv rfl⟩
  · refine ⟨⟨bh, r.keep.pr, fun b o q => nn b (fun z => by rw [(g b z).1.1] at q; cases q) (r.keep.prb b o q), r.keep.b0.trans eB, r.keep.fr, r.keep.dom, fun b o q => ?_, r.keep.prn, r.keep.tk, ⟨r.keep.tab.th, r.keep.tab.on, ⟨fun b ps z => ?_, fun b vs z => eB b _ (r.keep.tab.nb.tp b vs z)⟩⟩⟩, r.lr, r.ls, fun j st hj => ?_, r.sep⟩
    · rw [e2 b (fun z => by rw [(g b z).1.2] at q; cases q)]; exact r.keep.old b o q
    · by_cases w : Root H a b
      · rw [e1 b w] at z
        obtain ⟨⟨o, q, p⟩, _⟩ := m.has w
        rw [z] at q; cases q; exact nomatch p.1
      · rw [e2 b w] at z; exact r.keep.tab.nb.nt b ps z
    · have x := r.slot j st hj
      have own1 : st.own = true → SlotOk K G H B' st (σ[j]?).join (look ρ j) := fun os => by
        obtain ⟨y, e, my, _⟩ := x.mok os
        exact SlotOk.keep x os e (my.stay (fun _ _ _ q => q) eB fun b rt => nn b (fun z => (g b z).2 j st hj os ⟨y, e, rt⟩) (my.has rt).2) id id (fun b q => .inl q) fun _ _ q => q
      cases st with
      | U => trivial
      | V => obtain ⟨x, q1, q2⟩ := x; exact ⟨x, q1, q2.mono eB⟩
      | L => exact own1 rfl
      | R => exact own1 rfl
      | O => exact own1 rfl
      | M => exact own1 rfl
      | K => exact own1 rfl
      | T => exact own1 rfl
      | I => exact absurd hj (nI j)
theorem set_look {ρ : Env} {i : Nat} : ρ.set i (look ρ i) = ρ := by
  apply List.ext_getElem?
  intro j
  by_cases z : j = i
  · subst z
    by_cases h : j < ρ.length
    · rw [List.getElem?_set_self h]; unfold look; simp [List.getD_eq_getElem?_getD, h]
    · rw [List.set_eq_of_length_le (by omega)]
  · rw [List.getElem?_set_ne (fun w => z w.symm)]
/-- the thing of a slot becomes a plain value -/
theorem Rel.freeze (r : Rel K G own ρ σ H B) {i : Nat} {st : Stt} (h : own[i]? = some st) (hf : st.fsh = true) (nI : ∀ i : Nat, own[i]? ≠ some .I) : ∃ B', Ex B B' ∧ Rel K G (own.set i .V) ρ σ H B' := by
  have x := ((SlotOk.split (Stt.fsh_own hf)).mp (r.slot i st h)).1
  rw [if_pos hf] at x
  obtain ⟨a, e, ⟨m, fu⟩, hg⟩ := x
  have hl := r.own_lt h
  have R1 : Rel K G (own.set i .U) ρ σ H B := by
    have := r.drop (i := i) (d := look ρ i)
    rwa [set_look] at this
  have nI1 : ∀ j : Nat, (own.set i .U)[j]? ≠ some .I := fun j z => by
    rcases own_set z with ⟨rfl, q, _⟩ | ⟨_, q⟩
    · cases q
    · exact nI j q
  obtain ⟨B', eB, R2, rp⟩ := R1.lay m fu (fun b rt => ⟨hg b rt, fun j sj hj oj rj => by
    rcases own_set hj with ⟨rfl, rfl, _⟩ | ⟨hne, hj⟩
    · cases oj
    · exact hne (r.sep j i sj st b hj h oj (Stt.fsh_own hf) rj ⟨a, e, rt⟩)⟩) (.inr nI1)
  refine ⟨B', eB, R2.keep, by simpa using r.lr, by simpa using r.ls, fun j st hj => ?_, fun j k sj sk b hj hk oj ok ej ek => ?_⟩
  · rcases own_set hj with ⟨rfl, rfl, _⟩ | ⟨hne, hj⟩
    · exact ⟨_, e, rp⟩
    · exact R2.slot j st (by rw [List.getElem?_set_ne (fun z => hne z.symm)]; exact hj)
  · rcases own_set hj with ⟨rfl, rfl, _⟩ | ⟨_, hj⟩
    · cases oj
    · rcases own_set hk with ⟨rfl, rfl, _⟩ | ⟨_, hk⟩
      · cases ok
      · exact r.sep j k sj sk b hj hk oj ok ej ek
end
/-! ### outcomes -/
inductive Res (α : Type) where
  | ok (a : α) (ρ : Env)
  | ex (c : Str) (fs : List (Str × D)) (ρ : Env)
  | bad
abbrev M (α : Type) := Env → Res α
def Res.bnd {α β : Type} (r : Res α) (f : α → M β) : Res β := match r with
  | .ok a ρ => f a ρ
  | .ex c fs ρ => .ex c fs ρ
  | .bad => .bad
def ret {α : Type} (a : α) : M α := fun ρ => .ok a ρ
def bnd {α β : Type} (m : M α) (f : α → M β) : M β := fun ρ => (m ρ).bnd f
def ofO {α : Type} (o : Option α) : M α := fun ρ => match o with
  | some a => .ok a ρ
  | none => .bad
/-- the way out by an exception: what is wanted, what must hold of the slots -/
structure XC where
  W : WX
  own : List Stt
def RepX (K : PySem.W.Frag) (B : Hp) (C : Value) (d : Option Addr) (c : Str) (fs : List (Str × D)) : Prop :=
  C = .ref (He.ga K c) ∧ (fs = [] ∨ ∃ x vs, d = some x ∧ B x = some (.xd ((fs.map (·.1)).zip vs)) ∧ Reps K B vs (fs.map (·.2)))
section
variable {α β γ δ : Type}
def Run (K : PySem.W.Frag) (Z : XC) (G : Gam) (own : List Stt) (Rl : Hp → Hp → β → α → Prop) (r : Res α) (σ : L2.St) (B : Hp) (p : (β → Hp → Prop) → Prop) : Prop := match r with
  | .ok d ρ' => ∀ Q : β → Hp → Prop, (∀ v H' B', Ex B B' → Rel K G own ρ' σ H' B' → Rl H' B' v d → Q v H') → p Q
  | .ex c fs ρ' => (∀ C dd H' B', Ex B B' → Rel K G Z.own ρ' σ H' B' → RepX K B' C dd c fs → Z.W C dd σ H') → ∀ Q, p Q
  | .bad => True
variable {K : PySem.W.Frag} {Z : XC} {G : Gam} {own : List Stt} {Rl : Hp → Hp → β → α → Prop} {Rl2 : Hp → Hp → δ → γ → Prop} {σ : L2.St} {H B : Hp}
theorem Run.seq {r : Res α} {f : α → M γ} {p1 : (β → Hp → Prop) → Prop} {p2 : β → Hp → (δ → Hp → Prop) → Prop} (h1 : Run K Z G own Rl r σ B p1)
    (h2 : ∀ d ρ1 v H1 B1, r = .ok d ρ1 → Ex B B1 → Rel K G own ρ1 σ H1 B1 → Rl H1 B1 v d → Run K Z G own Rl2 (f d ρ1) σ B1 (p2 v H1)) :
    Run K Z G own Rl2 (r.bnd f) σ B (fun Q => p1 fun v H1 => p2 v H1 Q) := by
  cases r with
  | ok d ρ1 =>
    show Run K Z G own Rl2 (f d ρ1) σ B _
    cases hf : f d ρ1 with
    | ok d2 ρ2 =>
      intro Q hQ
      refine h1 _ fun v H1 B1 e R l => ?_
      have := h2 d ρ1 v H1 B1 rfl e R l
      rw [hf] at this
      exact this Q fun v2 H2 B2 e2 R2 l2 => hQ v2 H2 B2 (e.trans e2) R2 l2
    | ex c fs ρ2 =>
      intro hW Q
      refine h1 _ fun v H1 B1 e R l => ?_
      have := h2 d ρ1 v H1 B1 rfl e R l
      rw [hf] at this
      exact this (fun C dd H2 B2 e2 R2 x => hW C dd H2 B2 (e.trans e2) R2 x) Q
    | bad => trivial
  | ex c fs ρ1 => exact fun hW Q => h1 hW _
  | bad => trivial
theorem Run.imp {r : Res α} {p p' : (β → Hp → Prop) → Prop} (h : Run K Z G own Rl r σ B p) (hp : ∀ Q, p Q → p' Q) : Run K Z G own Rl r σ B p' := by
  cases r with
  | ok d ρ => exact fun Q q => hp _ (h Q q)
  | ex c fs ρ => exact fun w Q => hp _ (h w Q)
  | bad => trivial
theorem Run.thn {r : Res α} {f : α → M γ} {p1 : (β → Hp → Prop) → Prop} {p2 : β → Hp → (δ → Hp → Prop) → Prop} {p : (δ → Hp → Prop) → Prop} (h1 : Run K Z G own Rl r σ B p1)
    (h2 : ∀ d ρ1 v H1 B1, r = .ok d ρ1 → Ex B B1 → Rel K G own ρ1 σ H1 B1 → Rl H1 B1 v d → Run K Z G own Rl2 (f d ρ1) σ B1 (p2 v H1))
    (hp : ∀ Q, p1 (fun v H1 => p2 v H1 Q) → p Q := by exact fun Q q => q) : Run K Z G own Rl2 (r.bnd f) σ B p := Run.imp (Run.seq h1 h2) hp
/-- the value is there -/
theorem Run.now {d : α} {ρ : Env} {v : β} {p : (β → Hp → Prop) → Prop} (R : Rel K G own ρ σ H B) (l : Rl H B v d) (h : ∀ Q : β → Hp → Prop, Q v H → p Q) : Run K Z G own Rl (.ok d ρ) σ B p :=
  fun Q q => h Q (q v H B Ex.rfl R l)
/-- a pure step over plain values -/
def Prim (K : PySem.W.Frag) (Rl : Hp → Hp → β → α → Prop) (o : Option α) (H B : Hp) (p : (β → Hp → Prop) → Prop) : Prop := match o with
  | some d => ∀ Q : β → Hp → Prop, (∀ v H' B', New K B H B' H' → Rl H' B' v d → Q v H') → p Q
  | none => True
theorem Run.prim {o : Option α} {ρ : Env} {p : (β → Hp → Prop) → Prop} (R : Rel K G own ρ σ H B) (h : Prim K Rl o H B p) : Run K Z G own Rl (ofO o ρ) σ B p := by
  cases o with
  | some d => exact fun Q q => h Q fun v H' B' n l => q v H' B' n.b (R.new n) l
  | none => trivial
theorem Prim.now {d : α} {v : β} {p : (β → Hp → Prop) → Prop} (bh : Ex B H) (l : Rl H B v d) (h : ∀ Q : β → Hp → Prop, Q v H → p Q) : Prim K Rl (some d) H B p :=
  fun Q q => h Q (q v H B (New.refl bh) l)
end
/-! ### the judgements -/
abbrev RV (K : PySem.W.Frag) : Hp → Hp → V → D → Prop := fun _ B v d => Rep K B v d
abbrev RVs (K : PySem.W.Frag) : Hp → Hp → List V → List D → Prop := fun _ B v d => Reps K B v d
abbrev RB : Hp → Hp → Bool → Bool → Prop := fun _ _ b c => b = c
/-- a new list, not yet known to anyone -/
def Fresh (K : PySem.W.Frag) (G : Gam) (own : List Stt) (σ : L2.St) (H B : Hp) (v : V) (ds : List D) : Prop :=
  ∃ a, v = .ref a ∧ LstOk K H B a ds ∧ (G.pr a = none ∧ G.H a = none) ∧ NoRt own σ H a
/-- a new thing of any kind, not yet known to anyone -/
def FreshM (K : PySem.W.Frag) (G : Gam) (own : List Stt) (σ : L2.St) (H B : Hp) (v : V) (d : D) : Prop :=
  ∃ a, v = .ref a ∧ (MOk K H B a d ∧ Full d) ∧ ∀ b, Root H a b → (G.pr b = none ∧ G.H b = none) ∧ NoRt own σ H b
theorem Fresh.m {K : PySem.W.Frag} {G : Gam} {own : List Stt} {σ : L2.St} {H B : Hp} {v : V} {ds : List D} (f : Fresh K G own σ H B v ds) : FreshM K G own σ H B v (.lst ds) := by
  obtain ⟨a, e, l, g, n⟩ := f
  refine ⟨a, e, ⟨l, trivial⟩, fun b r => ?_⟩
  rw [CellOk.root (K := K) (B := B) (d := .lst ds) l r]
  exact ⟨g, n⟩
theorem atK {K K' : PySem.W.Frag} (h : K' = K) (f : PySem.W.Frag → Prop) (x : f K') : f K := h ▸ x
/-- a judgement is of a family of contexts: those of one def's runs, or of one comprehension's blocks -/
abbrev CF := Cx → Prop
def EX (F : CF) (K : PySem.W.Frag) (Z : XC) (own : List Stt) (e : Expr) (g : M D) : Prop :=
  ∃ t, (∀ X, F X → PE X e t) ∧ ∀ G ρ σ H B, Rel K G own ρ σ H B → Run K Z G own (RV K) (g ρ) σ B (t σ H)
def EXs (F : CF) (K : PySem.W.Frag) (Z : XC) (own : List Stt) (es : List Expr) (g : M (List D)) : Prop :=
  ∃ t, (∀ X, F X → PA X es t) ∧ ∀ G ρ σ H B, Rel K G own ρ σ H B → Run K Z G own (RVs K) (g ρ) σ B (t σ H)
def ET (F : CF) (K : PySem.W.Frag) (Z : XC) (own : List Stt) (e : Expr) (g : M Bool) : Prop :=
  ∃ t, (∀ X, F X → PT X e t) ∧ ∀ G ρ σ H B, Rel K G own ρ σ H B → Run K Z G own RB (g ρ) σ B (t σ H)
/-- an expression that gives a new list -/
def EL (F : CF) (K : PySem.W.Frag) (Z : XC) (own : List Stt) (e : Expr) (g : M (List D)) : Prop :=
  ∃ t, (∀ X, F X → PE X e t) ∧ ∀ G ρ σ H B, Rel K G own ρ σ H B → Run K Z G own (Fresh K G own σ) (g ρ) σ B (t σ H)
def lstM (g : M (List D)) : M D := bnd g fun ds => ret (.lst ds)
section
variable {K : PySem.W.Frag} {G : Gam} {own : List Stt} {ρ : Env} {σ : L2.St} {H B : Hp}
/-- a new list becomes a plain value -/
theorem Rel.freshV (R : Rel K G own ρ σ H B) {v : V} {ds : List D} (f : Fresh K G own σ H B v ds) : ∃ B', Ex B B' ∧ Rel K G own ρ σ H B' ∧ Rep K B' v (.lst ds) := by
  obtain ⟨a, rfl, ⟨m, fu⟩, g⟩ := f.m
  exact R.lay m fu g (.inl ⟨ds, rfl⟩)
/-- a new thing becomes a plain value -/
theorem Rel.freshMV (R : Rel K G own ρ σ H B) {v : V} {d : D} (f : FreshM K G own σ H B v d) (nI : ∀ i : Nat, own[i]? ≠ some .I) : ∃ B', Ex B B' ∧ Rel K G own ρ σ H B' ∧ Rep K B' v d := by
  obtain ⟨a, rfl, ⟨m, fu⟩, g⟩ := f
  exact R.lay m fu g (.inr nI)
/-- a new thing is given to a name -/
theorem Rel.setM (R : Rel K G own ρ σ H B) {i : Nat} {st : Stt} {v : V} {d : D} (f : FreshM K G own σ H B v d) (hf : st.fsh = true) (kd : st.kind d) : Rel K G (own.set i st) (ρ.set i d) (σ.set i (some v)) H B := by
  obtain ⟨a, rfl, la, hs⟩ := f
  have key : ∀ (j : Nat) (sj : Stt) (b : Addr), (own.set i st)[j]? = some sj → sj.own = true → Rt H ((σ.set i (some (.ref a)))[j]?).join b → (j = i ∧ Root H a b) ∨ (j ≠ i ∧ own[j]? = some sj ∧ Rt H (σ[j]?).join b) := fun j sj b hj oj ej => by
    rcases own_set hj with ⟨rfl, rfl, hl⟩ | ⟨hne, h⟩
    · rw [join_set (by rw [R.ls]; exact hl), if_pos rfl] at ej
      exact .inl ⟨rfl, ej.of⟩
    · refine .inr ⟨hne, h, ?_⟩
      by_cases hl : i < σ.length
      · rwa [join_set hl, if_neg hne] at ej
      · rwa [List.set_eq_of_length_le (by omega)] at ej
  refine ⟨R.keep, by simpa using R.lr, by simpa using R.ls, fun j s1 h => ?_, fun j k sj sk b hj hk oj ok ej ek => ?_⟩
  · rcases own_set h with ⟨rfl, rfl, hl⟩ | ⟨hne, h⟩
    · rw [join_set (by rw [R.ls]; exact hl), if_pos rfl, look_set (by rw [R.lr]; exact hl), if_pos rfl]
      exact (SlotOk.split (Stt.fsh_own hf)).mpr ⟨by rw [if_pos hf]; exact ⟨a, rfl, la, fun b r => (hs b r).1⟩, kd⟩
    · by_cases hl : i < own.length
      · rw [join_set (by rw [R.ls]; exact hl), if_neg hne, look_set (by rw [R.lr]; exact hl), if_neg hne]
        exact R.slot j s1 h
      · rw [List.set_eq_of_length_le (by rw [R.ls]; omega), List.set_eq_of_length_le (by rw [R.lr]; omega)]; exact R.slot j s1 h
  · rcases key j sj b hj oj ej with ⟨rfl, r1⟩ | ⟨n1, a1, a2⟩
    · rcases key k sk _ hk ok ek with ⟨rfl, _⟩ | ⟨n2, b1, b2⟩
      · rfl
      · exact ((hs b r1).2 k sk b1 ok b2).elim
    · rcases key k sk b hk ok ek with ⟨rfl, r2⟩ | ⟨n2, b1, b2⟩
      · exact ((hs b r2).2 j sj a1 oj a2).elim
      · exact R.sep j k sj sk b a1 b1 oj ok a2 b2
/-- a new list is given to a name -/
theorem Rel.setL (R : Rel K G own ρ σ H B) {i : Nat} {v : V} {ds : List D} (f : Fresh K G own σ H B v ds) : Rel K G (own.set i .L) (ρ.set i (.lst ds)) (σ.set i (some v)) H B := R.setM f.m rfl ⟨ds, rfl⟩
end
section
variable {F : CF} {K : PySem.W.Frag} {Z : XC} {own : List Stt}
theorem EL.ex {e : Expr} {g : M (List D)} (h : EL F K Z own e g) : EX F K Z own e (lstM g) := by
  obtain ⟨t, pe, h⟩ := h
  refine ⟨t, pe, fun G ρ σ H B R => ?_⟩
  have := Run.seq (Rl2 := RV K) (f := fun ds => ret (D.lst ds)) (p2 := fun v H1 Q => Q v H1) (h G ρ σ H B R) fun ds ρ1 v H1 B1 _ e R1 f => by
    obtain ⟨B2, e2, R2, r2⟩ := R1.freshV f
    exact fun Q q => q v H1 B2 e2 R2 r2
  exact this
/-! ### names, constants -/
def kD (d : D) : M D := ret d
def vD (i : Nat) : M D := fun ρ => .ok (look ρ i) ρ
end
end MP
namespace MP
open PySem L2
/-- what of the contexts is known: their names, which of them are seen, the module's names that are asked -/
structure Sx (F : CF) (K : PySem.W.Frag) (mg : Str → Option Value) (N : List Str) (vis : List Bool) (gl : List Str) (k : Nat) : Prop where
  hK : ∀ X, F X → X.K = K
  hmg : ∀ X, F X → X.mg = mg
  hN : ∀ X, F X → X.N = N
  vis : ∀ X, F X → ∀ (i : Nat) (x : Str), vis[i]? = some true → N[i]? = some x → Vis X.env.scope x ∧ (x == ("__debug__" : Str)) = false ∧ (x == ("__classdict__" : Str)) = false
  gl : ∀ X, F X → ∀ (i : Nat) (x : Str), gl[i]? = some x → Gl X x ∧ (x == ("__debug__" : Str)) = false ∧ x ≠ "__name__"
  calm : ∀ X, F X → X.calm = true
  room : ∀ X, F X → Room k X.A
section
variable {F : CF} {K : PySem.W.Frag} {mg : Str → Option Value} {Z : XC} {own : List Stt} {N : List Str} {vis : List Bool} {gl : List Str} {k : Nat}
theorem ex_int {i : Int} {j : Nat} {pos : Pos} : EX F K Z own (.Constant (.int i) j pos) (kD (.int i)) := ⟨_, fun _ _ => pe_int, fun G ρ σ H B R => Run.now R (.int i) fun Q q => q⟩
theorem ex_str {i : Str} {j : Nat} {pos : Pos} (h : PyData.strOk i = true := by decide +kernel) : EX F K Z own (.Constant (.str i) j pos) (kD (.str i)) := ⟨_, fun _ _ => pe_str, fun G ρ σ H B R => Run.now R (.str i h) fun Q q => q⟩
theorem ex_bl {i : Bool} {j : Nat} {pos : Pos} : EX F K Z own (.Constant (.bool i) j pos) (kD (.bl i)) := ⟨_, fun _ _ => pe_bl, fun G ρ σ H B R => Run.now R (.bl i) fun Q q => q⟩
theorem ex_non {j : Nat} {pos : Pos} : EX F K Z own (.Constant .none j pos) (kD .non) := ⟨_, fun _ _ => pe_non, fun G ρ σ H B R => Run.now R .non fun Q q => q⟩
theorem join_some {α : Type} {o : Option (Option α)} {x : α} (h : o.join = some x) : o = some (some x) := by
  cases o with
  | none => cases h
  | some q => exact congrArg some h
theorem ex_var (S : Sx F K mg N vis gl k) (i : Nat) {x : Str} {pos : Pos} (hN : N[i]? = some x := by rfl) (hv : vis[i]? = some true := by rfl) (ho : own[i]? = some .V := by rfl) : EX F K Z own (.Name x pos) (vD i) := by
  refine ⟨_, fun X hX => let ⟨v1, v2, v3⟩ := S.vis X hX i x hv hN; pe_var (by rw [S.hN X hX]; exact hN) v1 v2 v3, fun G ρ σ H B R => ?_⟩
  obtain ⟨v, e, r⟩ := R.slot i .V ho
  exact Run.now R r fun Q q => ⟨v, join_some e, q⟩
/-- a constant of the module -/
theorem ex_glob (S : Sx F K mg N vis gl k) (i : Nat) {x : Str} {pos : Pos} {u : Value} {v : V} {d : D} (hm : mg x = some u) (hr : RelV v u) (hd : ∀ B, Rep K B v d) (hg : gl[i]? = some x := by rfl) : EX F K Z own (.Name x pos) (kD d) := by
  exact ⟨_, fun X hX => let ⟨g1, g2, g3⟩ := S.gl X hX i x hg; pe_glob g1 (by rw [S.hmg X hX]; exact hm) hr g2, fun G ρ σ H B R => Run.now R (hd B) fun Q q => q⟩
/-! ### operators -/
def OpD (K : PySem.W.Frag) (r : R2) (f : D → D → Option D) : Prop := ∀ x y d1 d2 H B, Ex B H → Rep K B x d1 → Rep K B y d2 → Prim K (RV K) (f d1 d2) H B (r x y H)
def op2 (f : D → D → Option D) (g h : M D) : M D := bnd g fun x => bnd h fun y => ofO (f x y)
theorem ex_op {op : Operator} {r : R2} {f : D → D → Option D} {a b : Expr} {g h : M D} {pos : Pos} (hr : ∀ X, F X → OpR X (binaryOp op) r) (hf : OpD K r f) (ha : EX F K Z own a g) (hb : EX F K Z own b h) : EX F K Z own (.BinOp a op b pos) (op2 f g h) := by
  obtain ⟨ta, pa, ha⟩ := ha
  obtain ⟨tb, pb, hb⟩ := hb
  refine ⟨_, fun X hX => pe_op (hr X hX) (pa X hX) (pb X hX), fun G ρ σ H B R => ?_⟩
  exact Run.thn (ha G ρ σ H B R) fun d ρ1 v H1 B1 _ e R1 l => Run.thn (hb G ρ1 σ H1 B1 R1) fun d2 ρ2 v2 H2 B2 _ e2 R2 l2 => Run.prim R2 (hf v v2 d d2 H2 B2 R2.keep.bh (l.mono e2) l2)
theorem ex_cmp {op : CmpOp} {r : R2} {f : D → D → Option D} {a b : Expr} {g h : M D} {pos : Pos} (hr : ∀ X, F X → OpR X (compareOp op) r) (hf : OpD K r f) (hm : behindInMarks op b = false) (ha : EX F K Z own a g) (hb : EX F K Z own b h) : EX F K Z own (.Compare a [op] [b] pos) (op2 f g h) := by
  obtain ⟨ta, pa, ha⟩ := ha
  obtain ⟨tb, pb, hb⟩ := hb
  refine ⟨_, fun X hX => pe_cmpR (hr X hX) (pa X hX) (pb X hX) hm, fun G ρ σ H B R => ?_⟩
  exact Run.thn (ha G ρ σ H B R) fun d ρ1 v H1 B1 _ e R1 l => Run.thn (hb G ρ1 σ H1 B1 R1) fun d2 ρ2 v2 H2 B2 _ e2 R2 l2 => Run.prim R2 (hf v v2 d d2 H2 B2 R2.keep.bh (l.mono e2) l2)
def chain2 (f f' : D → D → Option D) (g h i : M D) : M D := bnd g fun x => bnd h fun y => bnd (ofO (f x y)) fun z => match z with
  | .bl true => bnd i fun w => ofO (f' y w)
  | .bl false => ret (.bl false)
  | _ => ofO none
theorem chain_run {r r' : R2} {f f' : D → D → Option D} {g h i : M D} {ta tb tc : TE} (hf : OpD K r f) (hf' : OpD K r' f') (ha : ∀ G ρ σ H B, Rel K G own ρ σ H B → Run K Z G own (RV K) (g ρ) σ B (ta σ H)) (hb : ∀ G ρ σ H B, Rel K G own ρ σ H B → Run K Z G own (RV K) (h ρ) σ B (tb σ H)) (hc : ∀ G ρ σ H B, Rel K G own ρ σ H B → Run K Z G own (RV K) (i ρ) σ B (tc σ H))
    {G : Gam} {ρ : Env} {σ : L2.St} {H B : Hp} (R : Rel K G own ρ σ H B) : Run K Z G own (RV K) (chain2 f f' g h i ρ) σ B (tChain r r' ta tb tc σ H) := by
  refine Run.thn (p2 := fun x H1 Q => tb σ H1 fun y H2 => r x y H2 fun z H3 => ∃ k, z = .bl k ∧ (if k = true then tc σ H3 fun w' H4 => r' y w' H4 Q else Q (.bl false) H3)) (ha G ρ σ H B R) fun d ρ1 v H1 B1 _ e R1 l => ?_
  refine Run.thn (p2 := fun y H2 Q => r v y H2 fun z H3 => ∃ k, z = .bl k ∧ (if k = true then tc σ H3 fun w' H4 => r' y w' H4 Q else Q (.bl false) H3)) (hb G ρ1 σ H1 B1 R1) fun d2 ρ2 v2 H2 B2 _ e2 R2 l2 => ?_
  refine Run.thn (p2 := fun z H3 Q => ∃ k, z = .bl k ∧ (if k = true then tc σ H3 fun w' H4 => r' v2 w' H4 Q else Q (.bl false) H3)) (Run.prim R2 (hf v v2 d d2 H2 B2 R2.keep.bh (l.mono e2) l2)) fun z ρ3 v3 H3 B3 _ e3 R3 l3 => ?_
  cases l3 with
  | bl k =>
    cases k with
    | true =>
      refine Run.imp (Run.seq (hc G ρ3 σ H3 B3 R3) fun d4 ρ4 v4 H4 B4 _ e4 R4 l4 => Run.prim R4 (hf' v2 v4 d2 d4 H4 B4 R4.keep.bh ((l2.mono e3).mono e4) l4)) fun Q q => ?_
      exact ⟨true, rfl, by rw [if_pos rfl]; exact q⟩
    | false => exact Run.now R3 (.bl false) fun Q q => ⟨false, rfl, by rw [if_neg Bool.false_ne_true]; exact q⟩
  | _ => trivial
theorem ex_chain {op op' : CmpOp} {r r' : R2} {f f' : D → D → Option D} {a b c : Expr} {g h i : M D} {pos : Pos} (hr : ∀ X, F X → OpR X (compareOp op) r) (hr' : ∀ X, F X → OpR X (compareOp op') r') (hf : OpD K r f) (hf' : OpD K r' f')
    (ha : EX F K Z own a g) (hb : EX F K Z own b h) (hc : EX F K Z own c i) (hm : lastMarks [op, op'] [b, c] = false := by rfl) : EX F K Z own (.Compare a [op, op'] [b, c] pos) (chain2 f f' g h i) := by
  obtain ⟨ta, pa, ha⟩ := ha
  obtain ⟨tb, pb, hb⟩ := hb
  obtain ⟨tc, pc, hc⟩ := hc
  exact ⟨_, fun X hX => pe_chain (hr X hX) (hr' X hX) (pa X hX) (pb X hX) (pc X hX) hm, fun G ρ σ H B R => chain_run hf hf' ha hb hc R⟩
/-! ### and, or, not, if -/
def asB (g : M D) : M Bool := bnd g fun d => match d with
  | .bl b => ret b
  | _ => ofO none
def andD (g h : M D) : M D := bnd (asB g) fun b => if b then h else ret (.bl false)
def orD (g h : M D) : M D := bnd (asB g) fun b => if b then ret (.bl true) else h
def notD (g : M D) : M D := bnd (asB g) fun b => ret (.bl (!b))
def ifD (c : M Bool) (g h : M D) : M D := bnd c fun b => if b then g else h
theorem Run.asB {G : Gam} {σ : L2.St} {B : Hp} {g : M D} {ρ : Env} {p : (V → Hp → Prop) → Prop} (h : Run K Z G own (RV K) (g ρ) σ B p) : Run K Z G own RB (asB g ρ) σ B (fun Q => p fun x H1 => ∃ c, x = .bl c ∧ Q c H1) := by
  refine Run.thn (p2 := fun x H1 Q => ∃ c, x = .bl c ∧ Q c H1) h fun d ρ1 v H1 B1 _ e R1 l => ?_
  cases l with
  | bl b => exact Run.now R1 rfl fun Q q => ⟨b, rfl, q⟩
  | _ => trivial
theorem et_chain {op op' : CmpOp} {r r' : R2} {f f' : D → D → Option D} {a b c : Expr} {g h i : M D} {pos : Pos} (hr : ∀ X, F X → OpR X (compareOp op) r) (hr' : ∀ X, F X → OpR X (compareOp op') r') (hf : OpD K r f) (hf' : OpD K r' f')
    (ha : EX F K Z own a g) (hb : EX F K Z own b h) (hc : EX F K Z own c i) (hm : lastMarks [op, op'] [b, c] = false := by rfl) : ET F K Z own (.Compare a [op, op'] [b, c] pos) (asB (chain2 f f' g h i)) := by
  obtain ⟨ta, pa, ha⟩ := ha
  obtain ⟨tb, pb, hb⟩ := hb
  obtain ⟨tc, pc, hc⟩ := hc
  exact ⟨_, fun X hX => pt_chain (hr X hX) (hr' X hX) (pa X hX) (pb X hX) (pc X hX) hm, fun G ρ σ H B R => Run.asB (chain_run hf hf' ha hb hc R)⟩
theorem ex_one {op : BoolOp} {a : Expr} {g : M D} {pos : Pos} (ha : EX F K Z own a g) : EX F K Z own (.BoolOp op [a] pos) g := by
  obtain ⟨ta, pa, ha⟩ := ha
  exact ⟨ta, fun X hX => pe_one (pa X hX), ha⟩
theorem ex_and {a b : Expr} {rest : List Expr} {g h : M D} {pos : Pos} (ha : EX F K Z own a g) (hb : EX F K Z own (.BoolOp .And (b :: rest) pos) h) : EX F K Z own (.BoolOp .And (a :: b :: rest) pos) (andD g h) := by
  obtain ⟨ta, pa, ha⟩ := ha
  obtain ⟨tb, pb, hb⟩ := hb
  refine ⟨_, fun X hX => pe_and (pa X hX) (pb X hX), fun G ρ σ H B R => ?_⟩
  refine Run.thn (Run.asB (ha G ρ σ H B R)) (Rl2 := RV K) (p2 := fun c H1 Q => if c = true then tb σ H1 Q else Q (.bl false) H1) fun c ρ1 c' H1 B1 _ e R1 l => ?_
  cases l
  cases c with
  | true => exact Run.imp (hb G ρ1 σ H1 B1 R1) fun Q q => by rw [if_pos rfl]; exact q
  | false => exact Run.now R1 (.bl false) fun Q q => by rw [if_neg Bool.false_ne_true]; exact q
theorem ex_not {a : Expr} {g : M D} {pos : Pos} (ha : EX F K Z own a g) : EX F K Z own (.UnaryOp .Not a pos) (notD g) := by
  obtain ⟨ta, pa, ha⟩ := ha
  refine ⟨_, fun X hX => pe_not (pa X hX), fun G ρ σ H B R => ?_⟩
  refine Run.thn (Run.asB (ha G ρ σ H B R)) (Rl2 := RV K) (p2 := fun c H1 Q => Q (.bl (!c)) H1) fun c ρ1 c' H1 B1 _ e R1 l => ?_
  cases l
  exact Run.now R1 (.bl _) fun Q q => q
theorem et_val {e : Expr} {g : M D} (ha : EX F K Z own e g) (hw : ∀ X, F X → ∀ whole : Sem Value, PySem.isTrue e X.env whole = (do let v ← whole; standAt e.pos; holding [v] (truthy v)) := by intro _ _ _; rfl) : ET F K Z own e (asB g) := by
  obtain ⟨ta, pa, ha⟩ := ha
  exact ⟨_, fun X hX => pt_val (pa X hX) (hw X hX), fun G ρ σ H B R => Run.asB (ha G ρ σ H B R)⟩
/-! ### argument lists, displays -/
def nilD : M (List D) := ret []
def consD (g : M D) (h : M (List D)) : M (List D) := bnd g fun x => bnd h fun xs => ret (x :: xs)
theorem es_nil : EXs F K Z own [] nilD := ⟨_, fun _ _ => pa_nil, fun G ρ σ H B R => Run.now R .nil fun Q q => q⟩
theorem es_cons {e : Expr} {es : List Expr} {g : M D} {h : M (List D)} (ha : EX F K Z own e g) (hb : EXs F K Z own es h) (hs : ∀ X, F X → starEach (e :: es) X.env = (false, eval e X.env) :: starEach es X.env := by intro _ _; rfl) : EXs F K Z own (e :: es) (consD g h) := by
  obtain ⟨ta, pa, ha⟩ := ha
  obtain ⟨tb, pb, hb⟩ := hb
  refine ⟨_, fun X hX => pa_cons (pa X hX) (pb X hX) (hs X hX), fun G ρ σ H B R => ?_⟩
  exact Run.thn (ha G ρ σ H B R) fun d ρ1 v H1 B1 _ e R1 l => Run.thn (hb G ρ1 σ H1 B1 R1) (p2 := fun xs H2 Q => Q (v :: xs) H2) fun d2 ρ2 v2 H2 B2 _ e2 R2 l2 => Run.now R2 (.cons (l.mono e2) l2) fun Q q => q
/-- *e in a display -/
def itemsOf : D → Option (List D)
  | .tup ds => some ds
  | .lst ds => some ds
  | _ => none
def starD (g : M D) (h : M (List D)) : M (List D) := bnd g fun x => bnd (ofO (itemsOf x)) fun as => bnd h fun xs => ret (as ++ xs)
theorem rep_items {B : Hp} {v : V} {d : D} {ds : List D} (r : Rep K B v d) (h : itemsOf d = some ds) : ∃ a vs, v = .ref a ∧ (SqT K B a vs ∨ SqL K B a vs) ∧ Reps K B vs ds ∧ ds.length ≤ sizeLine := by
  cases r with
  | tup q r z => cases h; exact ⟨_, _, rfl, .inl q.1, r, z⟩
  | lst q r z => cases h; exact ⟨_, _, rfl, .inr q, r, z⟩
  | _ => cases h
theorem es_star (S : Sx F K mg N vis gl k) {e : Expr} {es : List Expr} {p : Pos} {g : M D} {h : M (List D)} (ha : EX F K Z own e g) (hb : EXs F K Z own es h) : EXs F K Z own (.Starred e p :: es) (starD g h) := by
  obtain ⟨ta, pa, ha⟩ := ha
  obtain ⟨tb, pb, hb⟩ := hb
  refine ⟨StX.tStar K ta tb, fun X hX => atK (S.hK X hX) (fun K => PA X _ (StX.tStar K ta tb)) (StX.pa_star (pa X hX) (pb X hX)), fun G ρ σ H B R => ?_⟩
  refine Run.thn (p2 := fun x H1 Q => ∃ p xs, x = V.ref p ∧ (SqT K H1 p xs ∨ SqL K H1 p xs) ∧ tb σ H1 fun ys H2 => Q (xs ++ ys) H2) (ha G ρ σ H B R) fun d ρ1 v H1 B1 _ e R1 l => ?_
  show Run K Z G own (RVs K) (Res.bnd (ofO (itemsOf d) ρ1) _) σ B1 _
  cases hd : itemsOf d with
  | none => trivial
  | some as =>
    obtain ⟨a, vs, rfl, hs, rs, _⟩ := rep_items l hd
    show Run K Z G own (RVs K) (Res.bnd (h ρ1) fun xs => ret (as ++ xs)) σ B1 _
    refine Run.imp (Run.thn (hb G ρ1 σ H1 B1 R1) (p2 := fun ys H2 Q => Q (vs ++ ys) H2) fun d2 ρ2 v2 H2 B2 _ e2 R2 l2 => Run.now R2 ((rs.mono e2).append l2) fun Q q => q) fun Q q => ⟨a, vs, rfl, ?_, q⟩
    exact hs.elim (fun z => .inl (seqT R1.keep.bh z)) fun z => .inr (R1.keep.bh.seq z)
section
variable {G : Gam} {ρ : Env} {σ : L2.St} {H B : Hp}
theorem Rel.free (R : Rel K G own ρ σ H B) {p : Addr} (hp : H p = none) : (G.pr p = none ∧ G.H p = none) ∧ NoRt own σ H p := by
  refine ⟨⟨R.keep.pr.free hp, ?_⟩, ?_⟩
  · cases q : G.H p with
    | none => rfl
    | some o => obtain ⟨o', q'⟩ := R.keep.dom p o q; rw [hp] at q'; cases q'
  · intro j sj hj oj ej
    obtain ⟨a, e, m, _⟩ := (R.slot j sj hj).mok oj
    rw [e] at ej
    obtain ⟨⟨o, q, _⟩, _⟩ := m.has ej.of
    rw [hp] at q; cases q
/-- where the slots' things stay, what is nobody's stays so -/
theorem Rel.noRt (R : Rel K G own ρ σ H B) {H' : Hp} {p : Addr} (k : ∀ x o, H x = some o → plainO o → H' x = some o) (n : NoRt own σ H p) : NoRt own σ H' p := fun j sj hj oj ej => n j sj hj oj (R.back hj oj (fun x o _ e po => k x o e po) ej)
theorem Rel.freeU (R : Rel K G own ρ σ H B) {p : Addr} {o : HO} (hp : H p = none) : (G.pr p = none ∧ G.H p = none) ∧ NoRt own σ (upd H p o) p :=
  ⟨(R.free hp).1, R.noRt (fun x u e _ => by rw [upd_ne (ne_of_none e hp)]; exact e) (R.free hp).2⟩
theorem Rel.fresh (R : Rel K G own ρ σ H B) {p : Addr} {vs : List V} {ds : List D} (hp : H p = none) (rs : Reps K B vs ds) (hz : ds.length ≤ sizeLine) :
    Rel K G own ρ σ (upd H p (.lst vs)) B ∧ Fresh K G own σ (upd H p (.lst vs)) B (.ref p) ds :=
  ⟨R.new (New.heap (K := K) R.keep.bh hp), p, rfl, ⟨vs, upd_same, rs, hz, R.keep.bh.free hp⟩, R.freeU hp⟩
theorem Rel.tup (R : Rel K G own ρ σ H B) {p : Addr} {vs : List V} {ds : List D} (hp : H p = none) (rs : Reps K B vs ds) (hz : ds.length ≤ sizeLine) :
    ∃ B', Ex B B' ∧ Rel K G own ρ σ (upd H p (.tup vs)) B' ∧ Rep K B' (.ref p) (.tup ds) :=
  ⟨upd B p (.tup vs), (New.alloc (K := K) R.keep.bh hp).b, R.new (New.alloc (K := K) R.keep.bh hp), .tup (tq upd_same) (rs.mono (New.alloc (K := K) R.keep.bh hp (o := .tup vs)).b) hz⟩
end
/-- within the line -/
def szO {α : Type} (xs : List α) : Option (List α) := if xs.length ≤ 16000000 then some xs else none
theorem szO_some {α : Type} {xs ys : List α} (h : szO xs = some ys) : ys = xs ∧ xs.length ≤ sizeLine := by
  unfold szO at h
  split at h
  · rename_i q
    exact ⟨(Option.some.inj h).symm, Nat.le_trans q (by rw [sizeLine_eq]; decide)⟩
  · cases h
def tupD (g : M (List D)) : M D := bnd g fun xs => bnd (ofO (szO xs)) fun ys => ret (.tup ys)
def lstD (g : M (List D)) : M (List D) := bnd g fun xs => ofO (szO xs)
theorem ex_tup {es : List Expr} {n : Nat} {pos : Pos} {g : M (List D)} (h : EXs F K Z own es g) : EX F K Z own (.Tuple es n pos) (tupD g) := by
  obtain ⟨ta, pa, ha⟩ := h
  refine ⟨_, fun X hX => pe_tup (pa X hX), fun G ρ σ H B R => ?_⟩
  refine Run.thn (p2 := fun xs H1 Q => xs.length ≤ sizeLine ∧ ∀ p, H1 p = none → Q (.ref p) (upd H1 p (.tup xs))) (ha G ρ σ H B R) fun ds ρ1 vs H1 B1 _ e R1 l => ?_
  show Run K Z G own (RV K) (Res.bnd (ofO (szO ds) ρ1) _) σ B1 _
  cases hz : szO ds with
  | none => trivial
  | some es =>
    obtain ⟨rfl, hz⟩ := szO_some hz
    refine fun Q q => ⟨by rw [l.len]; exact hz, fun p hp => ?_⟩
    obtain ⟨B2, e2, R2, r2⟩ := R1.tup hp l hz
    exact q _ _ B2 e2 R2 r2
theorem el_lst {es : List Expr} {pos : Pos} {g : M (List D)} (h : EXs F K Z own es g) : EL F K Z own (.List es pos) (lstD g) := by
  obtain ⟨ta, pa, ha⟩ := h
  refine ⟨_, fun X hX => pe_lst (pa X hX), fun G ρ σ H B R => ?_⟩
  refine Run.thn (p2 := fun xs H1 Q => xs.length ≤ sizeLine ∧ ∀ p, H1 p = none → Q (.ref p) (upd H1 p (.lst xs))) (ha G ρ σ H B R) fun ds ρ1 vs H1 B1 _ e R1 l => ?_
  cases hz : szO ds with
  | none => simp only [ofO]; trivial
  | some es =>
    obtain ⟨rfl, hz⟩ := szO_some hz
    refine fun Q q => ⟨by rw [l.len]; exact hz, fun p hp => ?_⟩
    obtain ⟨R2, f2⟩ := R1.fresh hp l hz
    exact q _ _ B1 Ex.rfl R2 f2
/-! ### built-ins by name -/
def CallD (K : PySem.W.Frag) (r : List V → Hp → VK → Prop) (f : List D → Option D) : Prop := ∀ vs ds H B, Ex B H → Reps K B vs ds → Prim K (RV K) (f ds) H B (r vs H)
def callD (f : List D → Option D) (g : M (List D)) : M D := bnd g fun xs => ofO (f xs)
theorem ex_callB (S : Sx F K mg N vis gl k) (i : Nat) {id : String} {r : List V → Hp → VK → Prop} {f : List D → Option D} {x : Str} {p pos : Pos} {e : Expr} {es : List Expr} {g : M (List D)} (hc : ∀ X, F X → CallR X (.builtin id) r) (hf : CallD K r f)
    (hm : mg x = none) (hv : bootBuiltins x = some (.builtin id)) (ha : EXs F K Z own (e :: es) g) (hg : gl[i]? = some x := by rfl) (hs : ∀ X, F X → starEach (e :: es) X.env = (false, eval e X.env) :: starEach es X.env := by intro _ _; rfl)
    (hs2 : ∀ X, F X → ((backTo pos (starEach es X.env)).any fun q => q.1) = false := by intro _ _; rfl) : EX F K Z own (.Call (.Name x p) (e :: es) [] pos) (callD f g) := by
  obtain ⟨ta, pa, ha⟩ := ha
  refine ⟨_, fun X hX => let ⟨g1, g2, g3⟩ := S.gl X hX i x hg; pe_callB (hc X hX) g1 (by rw [S.hmg X hX]; exact hm) hv (pa X hX) g3 g2 (hs X hX) (hs2 X hX), fun G ρ σ H B R => ?_⟩
  exact Run.thn (ha G ρ σ H B R) fun ds ρ1 vs H1 B1 _ e R1 l => Run.prim R1 (hf vs ds H1 B1 R1.keep.bh l)
theorem ex_callTy (S : Sx F K mg N vis gl k) (i : Nat) {id : String} {r : List V → Hp → VK → Prop} {f : List D → Option D} {x : Str} {p pos : Pos} {e : Expr} {es : List Expr} {g : M (List D)} (hc : ∀ X, F X → CallR X (.type id) r) (hf : CallD K r f)
    (hm : mg x = none) (hv : bootBuiltins x = some (.type id)) (ha : EXs F K Z own (e :: es) g) (hg : gl[i]? = some x := by rfl) (hs : ∀ X, F X → starEach (e :: es) X.env = (false, eval e X.env) :: starEach es X.env := by intro _ _; rfl)
    (hs2 : ∀ X, F X → ((backTo pos (starEach es X.env)).any fun q => q.1) = false := by intro _ _; rfl) : EX F K Z own (.Call (.Name x p) (e :: es) [] pos) (callD f g) := by
  obtain ⟨ta, pa, ha⟩ := ha
  refine ⟨_, fun X hX => let ⟨g1, g2, g3⟩ := S.gl X hX i x hg; pe_callTy (hc X hX) g1 (by rw [S.hmg X hX]; exact hm) hv (pa X hX) g3 g2 (hs X hX) (hs2 X hX), fun G ρ σ H B R => ?_⟩
  exact Run.thn (ha G ρ σ H B R) fun ds ρ1 vs H1 B1 _ e R1 l => Run.prim R1 (hf vs ds H1 B1 R1.keep.bh l)
end
end MP
namespace MP
open PySem L2
inductive SRes where
  | nx (ρ : Env) | rt (d : D) (ρ : Env) | bk (ρ : Env) | ct (ρ : Env) | ex (c : Str) (fs : List (Str × D)) (ρ : Env) | bad
abbrev SM := Env → SRes
/-- the ways out: exceptions, the loop's slots, the slots at a return -/
structure Ctl where
  Z : XC
  lo : List Stt
  ro : List Stt
def SPost (K : PySem.W.Frag) (C : Ctl) (G : Gam) (own' : List Stt) (r : SRes) (B : Hp) (E : Ends) : Prop := match r with
  | .nx ρ' => ∀ σ' H' B', Ex B B' → Rel K G own' ρ' σ' H' B' → E.nx σ' H'
  | .rt d ρ' => ∀ v σ' H' B', Ex B B' → Rel K G C.ro ρ' σ' H' B' → Rep K B' v d → E.rt v H'
  | .bk ρ' => ∀ σ' H' B', Ex B B' → Rel K G C.lo ρ' σ' H' B' → E.bk σ' H'
  | .ct ρ' => ∀ σ' H' B', Ex B B' → Rel K G C.lo ρ' σ' H' B' → E.ct σ' H'
  | .ex c fs ρ' => ∀ Cv dd σ' H' B', Ex B B' → Rel K G C.Z.own ρ' σ' H' B' → RepX K B' Cv dd c fs → C.Z.W Cv dd σ' H'
  | .bad => False
def SRun (K : PySem.W.Frag) (C : Ctl) (G : Gam) (own' : List Stt) (r : SRes) (B : Hp) (p : Ends → Prop) : Prop := ∀ E : Ends, SPost K C G own' r B E → p E
theorem SPost.mono {K : PySem.W.Frag} {C : Ctl} {G : Gam} {own' : List Stt} {r : SRes} {B B' : Hp} {E : Ends} (h : SPost K C G own' r B E) (e : Ex B B') : SPost K C G own' r B' E := by
  cases r with
  | nx ρ => exact fun σ' H' B2 e2 => h σ' H' B2 (e.trans e2)
  | rt d ρ => exact fun v σ' H' B2 e2 => h v σ' H' B2 (e.trans e2)
  | bk ρ => exact fun σ' H' B2 e2 => h σ' H' B2 (e.trans e2)
  | ct ρ => exact fun σ' H' B2 e2 => h σ' H' B2 (e.trans e2)
  | ex c fs ρ => exact fun Cv dd σ' H' B2 e2 => h Cv dd σ' H' B2 (e.trans e2)
  | bad => exact h
def Res.sb {α : Type} (r : Res α) (f : α → SM) : SRes := match r with
  | .ok a ρ => f a ρ
  | .ex c fs ρ => .ex c fs ρ
  | .bad => .bad
def sbd {α : Type} (m : M α) (f : α → SM) : SM := fun ρ => (m ρ).sb f
theorem SRun.ofE {α β : Type} {K : PySem.W.Frag} {C : Ctl} {G : Gam} {own own' : List Stt} {Rl : Hp → Hp → β → α → Prop} {r : Res α} {f : α → SM} {σ : L2.St} {B : Hp} {p1 : (β → Hp → Prop) → Prop} {p2 : β → Hp → Ends → Prop} {p : Ends → Prop}
    (h1 : Run K C.Z G own Rl r σ B p1) (h2 : ∀ d ρ1 v H1 B1, r = .ok d ρ1 → Ex B B1 → Rel K G own ρ1 σ H1 B1 → Rl H1 B1 v d → SRun K C G own' (f d ρ1) B1 (p2 v H1))
    (hp : ∀ E, p1 (fun v H1 => p2 v H1 E) → p E := by exact fun E q => q) : SRun K C G own' (r.sb f) B p := by
  intro E hE
  cases r with
  | ok d ρ1 => exact hp E (h1 _ fun v H1 B1 e R l => h2 d ρ1 v H1 B1 rfl e R l E (SPost.mono (r := f d ρ1) hE e))
  | ex c fs ρ1 => exact hp E (h1 (fun Cv dd H' B' e R x => hE Cv dd σ H' B' e R x) _)
  | bad => exact hE.elim
def ST (F : CF) (K : PySem.W.Frag) (C : Ctl) (own : List Stt) (st : Stmt) (g : SM) (own' : List Stt) : Prop :=
  ∃ t, (∀ X, F X → PS X st t) ∧ ∀ G ρ σ H B, Rel K G own ρ σ H B → SRun K C G own' (g ρ) B (fun E => t E σ H)
def STs (F : CF) (K : PySem.W.Frag) (C : Ctl) (own : List Stt) (st : List Stmt) (g : SM) (own' : List Stt) : Prop :=
  ∃ t, (∀ X, F X → PSs X st t) ∧ ∀ G ρ σ H B, Rel K G own ρ σ H B → SRun K C G own' (g ρ) B (fun E => t E σ H)
/-- less is said, slot by slot -/
def leB : List Stt → List Stt → Bool
  | [], [] => true
  | a :: as, b :: bs => a.le b && leB as bs
  | _, _ => false
theorem leB_len : ∀ {a b : List Stt}, leB a b = true → a.length = b.length
  | [], [], _ => rfl
  | [], _ :: _, h => by cases h
  | _ :: _, [], h => by cases h
  | a :: as, b :: bs, h => by
    have := (Bool.and_eq_true_iff.mp (show (a.le b && leB as bs) = true from h)).2
    simpa using leB_len this
theorem leB_at : ∀ {a b : List Stt} {i : Nat} {x y : Stt}, leB a b = true → a[i]? = some x → b[i]? = some y → x.le y = true
  | [], _, _, _, _, _, h, _ => by simp at h
  | _ :: _, [], _, _, _, h, _, _ => by cases h
  | a :: as, b :: bs, 0, _, _, h, h1, h2 => by
    simp at h1 h2; subst h1; subst h2
    exact (Bool.and_eq_true_iff.mp (show (a.le b && leB as bs) = true from h)).1
  | a :: as, b :: bs, i + 1, _, _, h, h1, h2 => leB_at (Bool.and_eq_true_iff.mp (show (a.le b && leB as bs) = true from h)).2 (by simpa using h1) (by simpa using h2)
theorem Rel.less {K : PySem.W.Frag} {G : Gam} {own o : List Stt} {ρ : Env} {σ : L2.St} {H B : Hp} (R : Rel K G own ρ σ H B) (h : leB o own = true) : Rel K G o ρ σ H B := R.weak (leB_len h) fun _ _ _ a b => leB_at h a b
section
variable {F : CF} {K : PySem.W.Frag} {mg : Str → Option Value} {C : Ctl} {own own1 own2 own' : List Stt} {N : List Str} {vis : List Bool} {gl : List Str} {k : Nat}
/-! ### blocks -/
def nxS : SM := fun ρ => .nx ρ
def seqS (g h : SM) : SM := fun ρ => match g ρ with
  | .nx ρ' => h ρ'
  | r => r
theorem ss_nil (h : leB own' own = true := by rfl) : STs F K C own [] nxS own' := ⟨_, fun _ _ => pss_nil, fun G ρ σ H B R E hE => hE σ H B Ex.rfl (R.less h)⟩
theorem ss_cons {st : Stmt} {rest : List Stmt} {g h : SM} (h1 : ST F K C own st g own1) (h2 : STs F K C own1 rest h own') : STs F K C own (st :: rest) (seqS g h) own' := by
  obtain ⟨t, p1, h1⟩ := h1
  obtain ⟨u, p2, h2⟩ := h2
  refine ⟨_, fun X hX => pss_cons (p1 X hX) (p2 X hX), fun G ρ σ H B R E hE => ?_⟩
  refine h1 G ρ σ H B R { E with nx := u E } ?_
  unfold seqS at hE
  cases hg : g ρ with
  | nx ρ1 => rw [hg] at hE; exact fun σ' H' B' e R' => h2 G ρ1 σ' H' B' R' E (SPost.mono (r := h ρ1) hE e)
  | rt d ρ1 => rw [hg] at hE; exact hE
  | bk ρ1 => rw [hg] at hE; exact hE
  | ct ρ1 => rw [hg] at hE; exact hE
  | ex c fs ρ1 => rw [hg] at hE; exact hE
  | bad => rw [hg] at hE; exact hE
/-- a list of the frame's own is from here on a plain value -/
theorem ss_freeze (i : Nat) {st : List Stmt} {g : SM} (h : STs F K C (own.set i .V) st g own') {st' : Stt} (ho : own[i]? = some st' := by rfl) (hf : st'.fsh = true := by rfl) (hI : noIB own = true := by rfl) : STs F K C own st g own' := by
  obtain ⟨t, p, h⟩ := h
  refine ⟨t, p, fun G ρ σ H B R E hE => ?_⟩
  obtain ⟨B', e, R'⟩ := R.freeze ho hf (noI_of hI)
  exact h G ρ σ H B' R' E (hE.mono e)
/-! ### return, an expression, pass, break, continue; what is never come to -/
def retS (g : M D) : SM := sbd g fun d ρ => .rt d ρ
def exprS (g : M D) : SM := sbd g fun _ ρ => .nx ρ
def badS : SM := fun _ => .bad
theorem st_ret {e : Expr} {g : M D} {pos : Pos} (h : EX F K C.Z own e g) (hr : leB C.ro own = true := by rfl) : ST F K C own (.Return (some e) pos) (retS g) own' := by
  obtain ⟨t, p, h⟩ := h
  exact ⟨_, fun X hX => ps_ret (p X hX), fun G ρ σ H B R => SRun.ofE (p2 := fun v H1 E => E.rt v H1) (h G ρ σ H B R) fun d ρ1 v H1 B1 _ e R1 l E hE => hE v σ H1 B1 Ex.rfl (R1.less hr) l⟩
theorem st_expr {e : Expr} {g : M D} {pos : Pos} (h : EX F K C.Z own e g) (hs : ∀ X, F X → swapsWith e none pos.line X.env = pure false := by intro _ _; rfl) : ST F K C own (.Expr e pos) (exprS g) own := by
  obtain ⟨t, p, h⟩ := h
  exact ⟨_, fun X hX => ps_expr (p X hX) (hs X hX), fun G ρ σ H B R => SRun.ofE (p2 := fun v H1 E => E.nx σ H1) (h G ρ σ H B R) fun d ρ1 v H1 B1 _ e R1 l E hE => hE σ H1 B1 Ex.rfl R1⟩
theorem st_bad {st : Stmt} : ST F K C own st badS own' := ⟨_, fun _ _ => ps_never, fun _ _ _ _ _ _ _ hE => hE.elim⟩
/-! ### if -/
def ifS (c : M Bool) (g h : SM) : SM := sbd c fun b => if b then g else h
theorem st_if {c : Expr} {a b : List Stmt} {t : M Bool} {g h : SM} {pos : Pos} (hc : ET F K C.Z own c t) (ha : STs F K C own a g own') (hb : STs F K C own b h own') : ST F K C own (.If c a b pos) (ifS t g h) own' := by
  obtain ⟨tc, pc, hc⟩ := hc
  obtain ⟨ta, pa, ha⟩ := ha
  obtain ⟨tb, pb, hb⟩ := hb
  refine ⟨_, fun X hX => ps_if (pc X hX) (pa X hX) (pb X hX), fun G ρ σ H B R => SRun.ofE (p2 := fun b H1 E => if b = true then ta E σ H1 else tb E σ H1) (hc G ρ σ H B R) fun d ρ1 v H1 B1 _ e R1 l E hE => ?_⟩
  cases l
  cases d with
  | true => show (if true = true then _ else _); rw [if_pos rfl]; exact ha G ρ1 σ H1 B1 R1 E hE
  | false => show (if false = true then _ else _); rw [if_neg Bool.false_ne_true]; exact hb G ρ1 σ H1 B1 R1 E hE
/-! ### stores to names -/
/-- names that may be stored to, by slots -/
structure Lx (F : CF) (N : List Str) (lv : List Bool) : Prop where
  nd : N.Nodup
  loc : ∀ X, F X → ∀ (i : Nat) (x : Str), lv[i]? = some true → N[i]? = some x → L2.Loc X.env.scope x ∧ (X.fn x = true ∨ X.env.scope.names.lookup x = some .local)
def setS (i : Nat) (g : M D) : SM := sbd g fun d ρ => .nx (ρ.set i d)
def setLS (i : Nat) (g : M (List D)) : SM := sbd g fun ds ρ => .nx (ρ.set i (.lst ds))
theorem st_set {lv : List Bool} (S : Sx F K mg N vis gl k) (i : Nat) {x : Str} {e : Expr} {g : M D} {pos pos' : Pos} (L : Lx F N lv) (h : EX F K C.Z own e g) (hN : N[i]? = some x := by rfl) (hlv : lv[i]? = some true := by rfl) (ho : own.set i .V = own' := by rfl)
    (hs : ∀ X, F X → swapsWith e (some (.Name x pos')) pos.line X.env = pure false := by intro _ _; rfl) : ST F K C own (.Assign [.Name x pos'] e pos) (setS i g) own' := by
  obtain ⟨t, p, h⟩ := h
  subst ho
  exact ⟨_, fun X hX => let ⟨l1, l2⟩ := L.loc X hX i x hlv hN; ps_set (by rw [S.hN X hX]; exact L.nd) (by rw [S.hN X hX]; exact hN) l1 (p X hX) (hs X hX) l2, fun G ρ σ H B R => SRun.ofE (p2 := fun v H1 E => E.nx (σ.set i (some v)) H1) (h G ρ σ H B R) fun d ρ1 v H1 B1 _ e R1 l E hE => hE _ H1 B1 Ex.rfl (R1.setV l)⟩
theorem st_setL {lv : List Bool} (S : Sx F K mg N vis gl k) (i : Nat) {x : Str} {e : Expr} {g : M (List D)} {pos pos' : Pos} (L : Lx F N lv) (h : EL F K C.Z own e g) (hN : N[i]? = some x := by rfl) (hlv : lv[i]? = some true := by rfl) (ho : own.set i .L = own' := by rfl)
    (hs : ∀ X, F X → swapsWith e (some (.Name x pos')) pos.line X.env = pure false := by intro _ _; rfl) : ST F K C own (.Assign [.Name x pos'] e pos) (setLS i g) own' := by
  obtain ⟨t, p, h⟩ := h
  subst ho
  exact ⟨_, fun X hX => let ⟨l1, l2⟩ := L.loc X hX i x hlv hN; ps_set (by rw [S.hN X hX]; exact L.nd) (by rw [S.hN X hX]; exact hN) l1 (p X hX) (hs X hX) l2, fun G ρ σ H B R => SRun.ofE (p2 := fun v H1 E => E.nx (σ.set i (some v)) H1) (h G ρ σ H B R) fun d ρ1 v H1 B1 _ e R1 l E hE => hE _ H1 B1 Ex.rfl (R1.setL l)⟩
end
end MP
namespace MP
open PySem L2
/-! ### targets -/
abbrev Bd := D → Env → Option Env
abbrev Bds := List D → Env → Option Env
def TGo (K : PySem.W.Frag) (own' : List Stt) (vs : List Nat) (G : Gam) (o : Option Env) (σ : L2.St) (H B : Hp) (p : (L2.St → Hp → Prop) → Prop) : Prop := match o with
  | some ρ' => ∀ Q : L2.St → Hp → Prop, (∀ σ', wipe σ' vs = wipe σ vs → Rel K G own' ρ' σ' H B → Q σ' H) → p Q
  | none => True
def TGd (F : CF) (K : PySem.W.Frag) (own own' : List Stt) (tg : Expr) (vs : List Nat) (b : Bd) : Prop :=
  ∃ g, (∀ X, F X → PG X tg g) ∧ ∀ G ρ σ H B v d, Rel K G own ρ σ H B → Rep K B v d → TGo K own' vs G (b d ρ) σ H B (g v σ H)
def TGds (F : CF) (K : PySem.W.Frag) (own own' : List Stt) (tg : List Expr) (vs : List Nat) (n : Nat) (b : Bds) : Prop :=
  ∃ g, (∀ X, F X → PGs X tg g ∧ (assignEach tg X.env).length = n ∧ (assignEach tg X.env).findIdx? (·.1) = none) ∧ ∀ G ρ σ H B v d, Rel K G own ρ σ H B → Reps K B v d → TGo K own' vs G (b d ρ) σ H B (g v σ H)
theorem wipe_in {σ : L2.St} {i : Nat} {v : Option V} : ∀ {vs : List Nat}, i ∈ vs → wipe (σ.set i v) vs = wipe σ vs := by
  intro vs h
  apply List.ext_getElem?
  intro j
  by_cases hj : j ∈ vs
  · have key : ∀ τ : L2.St, (wipe τ vs)[j]? = if j < τ.length then some none else none := fun τ => by
      by_cases hl : j < τ.length
      · rw [if_pos hl]
        have e := List.getElem?_eq_getElem (l := wipe τ vs) (i := j) (by rw [wipe_length]; exact hl)
        rw [e]
        congr 1
        cases q : (wipe τ vs)[j]'(by rw [wipe_length]; exact hl) with
        | none => rfl
        | some x => exact absurd hj (wipe_some (σ := τ) (vs := vs) (x := x) (by rw [e, q])).2
      · rw [if_neg hl]; exact List.getElem?_eq_none (by rw [wipe_length]; omega)
    rw [key, key, List.length_set]
  · rw [wipe_out hj, wipe_out hj, List.getElem?_set_ne (fun (z : i = j) => hj (by rw [← z]; exact h))]
def bName (i : Nat) : Bd := fun d ρ => some (ρ.set i d)
def bNil : Bds := fun ds ρ => match ds with
  | [] => some ρ
  | _ => none
def bCons (b : Bd) (c : Bds) : Bds := fun ds ρ => match ds with
  | d :: r => (b d ρ).bind (c r)
  | [] => none
def bTup (n : Nat) (c : Bds) : Bd := fun d ρ => match d with
  | .tup ds => if ds.length = n then c ds ρ else none
  | _ => none
section
variable {F : CF} {K : PySem.W.Frag} {mg : Str → Option Value} {own own1 own' : List Stt} {N : List Str} {vis : List Bool} {gl : List Str} {k : Nat} {vs : List Nat} {lv : List Bool}
theorem tg_name (hXN : ∀ X, F X → X.N = N) (i : Nat) {x : Str} {pos : Pos} (L : Lx F N lv) (hN : N[i]? = some x := by rfl) (hlv : lv[i]? = some true := by rfl) (ho : own.set i .V = own' := by rfl) (hi : i ∈ vs := by decide) : TGd F K own own' (.Name x pos) vs (bName i) := by
  subst ho
  exact ⟨_, fun X hX => let ⟨l1, l2⟩ := L.loc X hX i x hlv hN; pg_name (by rw [hXN X hX]; exact L.nd) (by rw [hXN X hX]; exact hN) l1 l2, fun G ρ σ H B v d R r Q q => q _ (wipe_in hi) (R.setV r)⟩
theorem tgs_nil : TGds F K own own [] vs 0 bNil := ⟨_, fun _ _ => ⟨pgs_nil, rfl, rfl⟩, fun G ρ σ H B v d R r => by
  cases r with
  | nil => exact fun Q q => ⟨rfl, q σ rfl R⟩
  | cons _ _ => trivial⟩
theorem tgs_cons {e : Expr} {es : List Expr} {b : Bd} {c : Bds} {n : Nat} (h1 : TGd F K own own1 e vs b) (h2 : TGds F K own1 own' es vs n c)
    (hs : ∀ X, F X → (assignEach (e :: es) X.env).map (·.2) = assign e X.env :: (assignEach es X.env).map (·.2) := by intro _ _; rfl) (hn : ∀ X, F X → (assignEach (e :: es) X.env).length = (assignEach es X.env).length + 1 := by intro _ _; rfl)
    (hf : ∀ X, F X → (assignEach (e :: es) X.env).findIdx? (·.1) = none := by intro _ _; rfl) : TGds F K own own' (e :: es) vs (n + 1) (bCons b c) := by
  obtain ⟨g, pg, h1⟩ := h1
  obtain ⟨gs, pgs, h2⟩ := h2
  refine ⟨_, fun X hX => ⟨pgs_cons (pg X hX) (pgs X hX).1 (hs X hX), by rw [hn X hX, (pgs X hX).2.1], hf X hX⟩, fun G ρ σ H B v d R r => ?_⟩
  cases r with
  | nil => trivial
  | cons r rs =>
    rename_i v1 d1 vs1 ds1
    have a1 := h1 G ρ σ H B _ _ R r
    show TGo K own' vs G ((b d1 ρ).bind (c ds1)) σ H B _
    cases hb : b d1 ρ with
    | none => trivial
    | some ρ1 =>
      rw [hb] at a1
      show TGo K own' vs G (c ds1 ρ1) σ H B _
      cases hc : c ds1 ρ1 with
      | none => trivial
      | some ρ2 =>
        intro Q q
        refine ⟨_, _, rfl, a1 _ fun σ1 w1 R1 => ?_⟩
        have a2 := h2 G ρ1 σ1 H B _ _ R1 rs
        rw [hc] at a2
        exact a2 _ fun σ2 w2 R2 => q σ2 (w2.trans w1) R2
theorem tg_tup {es : List Expr} {kk n : Nat} {pos : Pos} {c : Bds} (S : Sx F K mg N vis gl k) (h : TGds F K own own' es vs n c) : TGd F K own own' (.Tuple es kk pos) vs (bTup n c) := by
  obtain ⟨g, pg, h⟩ := h
  refine ⟨gTup K n g, fun X hX => atK (S.hK X hX) (fun K => PG X _ (gTup K n g)) (pg_tup (S.calm X hX) (pg X hX).1 (pg X hX).2.1 (pg X hX).2.2), fun G ρ σ H B v d R r => ?_⟩
  cases r with
  | tup hq rs hz =>
    rename_i a us ds
    show TGo K own' vs G (if ds.length = n then c ds ρ else none) σ H B _
    by_cases hl : ds.length = n
    · rw [if_pos hl]
      have a1 := h G ρ σ H B _ _ R rs
      cases hc : c ds ρ with
      | none => trivial
      | some ρ1 =>
        rw [hc] at a1
        exact fun Q q => ⟨a, us, rfl, seqT R.keep.bh hq.1, rs.len.trans hl, a1 Q q⟩
    · rw [if_neg hl]; trivial
  | _ => trivial
end
/-! ### what is walked -/
structure ItOk (K : PySem.W.Frag) (B : Hp) (J : It) (ds : List D) : Prop where
  sz : ds.length ≤ sizeLine
  go : ∀ (i : Nat) (H : Hp), Ex B H → i < ds.length → J.go i H
  yld : ∀ (i : Nat) (H B1 : Hp) (x : V) (H' : Hp), Ex B B1 → Ex B1 H → i < ds.length → J.yld i H x H' → ∃ d B2, ds[i]? = some d ∧ New K B1 H B2 H' ∧ Rep K B2 x d
  stop : ∀ (i : Nat) (H : Hp), Ex B H → ds.length ≤ i → J.stop i H
def IT (F : CF) (K : PySem.W.Frag) (Z : XC) (own : List Stt) (tg e : Expr) (g : M (List D)) : Prop :=
  ∃ wi, (∀ X, F X → PI X tg e wi) ∧ ∀ G ρ σ H B, Rel K G own ρ σ H B → Run K Z G own (fun _ B J ds => ItOk K B J ds) (g ρ) σ B (wi σ H)
section
variable {F : CF} {K : PySem.W.Frag} {mg : Str → Option Value} {Z : XC} {own own1 own' : List Stt} {N : List Str} {vis : List Bool} {gl : List Str} {k : Nat} {tg : Expr}
theorem itl_ok {B : Hp} {a : Addr} {us : List V} {ds : List D} (h : SqL K B a us) (r : Reps K B us ds) (hz : ds.length ≤ sizeLine) : ItOk K B (Itl K a) ds where
  sz := hz
  go := fun i H e hi => by
    obtain ⟨v, hv, _⟩ := r.get (List.getElem?_eq_getElem hi)
    exact ⟨us, v, e.seq h, hv⟩
  yld := fun i H B1 x H' e e1 hi y => by
    obtain ⟨rfl, y⟩ := y
    obtain ⟨d, hd, rx⟩ := r.getV (y us ((e.trans e1).seq h))
    exact ⟨d, B1, hd, New.refl e1, rx.mono e⟩
  stop := fun i H e hi => ⟨us, e.seq h, by rw [r.len]; exact hi⟩
theorem itt_ok {B : Hp} {a : Addr} {us : List V} {ds : List D} (h : SqT K B a us) (r : Reps K B us ds) (hz : ds.length ≤ sizeLine) : ItOk K B (Itt K a) ds where
  sz := hz
  go := fun i H e hi => by
    obtain ⟨v, hv, _⟩ := r.get (List.getElem?_eq_getElem hi)
    exact ⟨us, v, seqT e h, hv⟩
  yld := fun i H B1 x H' e e1 hi y => by
    obtain ⟨rfl, y⟩ := y
    obtain ⟨d, hd, rx⟩ := r.getV (y us (seqT (e.trans e1) h))
    exact ⟨d, B1, hd, New.refl e1, rx.mono e⟩
  stop := fun i H e hi => ⟨us, seqT e h, by rw [r.len]; exact hi⟩
/-- a list or a tuple: one rule for both -/
def iSeq (K : PySem.W.Frag) (tl : TE) : TI := fun σ H R => tl σ H fun x H1 => (∃ a, x = .ref a ∧ (∃ xs, SqL K H1 a xs) ∧ R (Itl K a) H1) ∨ (∃ a, x = .ref a ∧ (∃ xs, SqT K H1 a xs) ∧ R (Itt K a) H1) ∨ (∃ z, x = .str z ∧ R (Its z) H1)
theorem pi_seq {X : Cx} {l : Expr} {tl : TE} (hl : PE X l tl) : PI X tg l (iSeq X.K tl) := by
  refine ⟨fun pins s σ H R I h => ?_⟩
  refine L2.thn (hl.run pins s σ H _ I h) fun v s1 ⟨x, H1, I1, r1, q1⟩ => ?_
  rcases q1 with ⟨a, e, ⟨xs, hq⟩, q⟩ | ⟨a, e, ⟨xs, hq⟩, q⟩ | ⟨z, e, q⟩
  · subst e
    cases r1
    obtain ⟨its, rv, p, hz⟩ := I1.list hq
    refine wpAny_pyIter_list p.isList ?_
    refine ⟨s1.heap.objs.size, [s1.heap.objs.size], _, _, H1, rfl, I1.kept (t' := s1.toks) fun b o e => Heap.get?_push_of_some _ e, turn_list a _, ⟨_, Heap.get?_push_size _ rfl, rfl, rfl⟩, fun b hb => ?_, q⟩
    have e : b = s1.heap.objs.size := by simpa using hb
    subst e
    exact I1.fpOk (Nat.le_refl _) (I1.hok.fresh (Nat.le_refl _))
  · subst e
    cases r1
    obtain ⟨its, rv, p, hz⟩ := I1.tuple hq
    refine wpAny_pyIter_tuple (show s1.heap.IsTuple a its.toArray from p) ?_
    refine ⟨s1.heap.objs.size, [s1.heap.objs.size], _, _, H1, rfl, I1.kept (t' := s1.toks) fun b o e => Heap.get?_push_of_some _ e, turn_tuple a _, ⟨_, Heap.get?_push_size _ rfl, rfl, rfl⟩, fun b hb => ?_, q⟩
    have e : b = s1.heap.objs.size := by simpa using hb
    subst e
    exact I1.fpOk (Nat.le_refl _) (I1.hok.fresh (Nat.le_refl _))
  · subst e
    obtain ⟨t, rfl⟩ := r1
    cases ha : z.cps.all (· < 128)
    · exact wpAny_pyIter_wide ha (pi_one (tk := s1.toks) I1 _ (turn_str _ z t "str_iterator" (.inr rfl)) ⟨_, Heap.get?_push_size _ rfl, rfl, rfl⟩ q)
    · exact wpAny_pyIter_ascii ha (pi_one (tk := s1.toks) I1 _ (turn_str _ z t "str_ascii_iterator" (.inl rfl)) ⟨_, Heap.get?_push_size _ rfl, rfl, rfl⟩ q)
theorem strOk_one {z : Str} (h : PyData.strOk z = true) {i c : Nat} (hc : z.cps[i]? = some c) : PyData.strOk ⟨#[c]⟩ = true := by
  unfold PyData.strOk at *
  rw [Array.all_eq_true] at h
  obtain ⟨hi, e⟩ := Array.getElem?_eq_some_iff.mp hc
  have := h i hi
  rw [e] at this
  simpa using this
def chars (z : Str) : List D := z.cps.toList.map fun c => D.str ⟨#[c]⟩
def seqOf : D → Option (List D)
  | .tup ds => some ds
  | .lst ds => some ds
  | .str z => szO (chars z)
  | _ => none
def itD (g : M D) : M (List D) := bnd g fun d => ofO (seqOf d)
theorem its_ok {B : Hp} {z : Str} (ho : PyData.strOk z = true) (hz : (chars z).length ≤ sizeLine) : ItOk K B (Its z) (chars z) where
  sz := hz
  go := fun i H e hi => by
    have : (chars z).length = z.cps.size := by simp [chars]
    show i < z.cps.size
    omega
  yld := fun i H B1 x H' e e1 hi y => by
    obtain ⟨rfl, c, hc, rfl⟩ := y
    refine ⟨.str ⟨#[c]⟩, B1, ?_, New.refl e1, .str _ (strOk_one ho hc)⟩
    unfold chars
    rw [List.getElem?_map, Array.getElem?_toList, hc]
    rfl
  stop := fun i H e hi => by
    have : (chars z).length = z.cps.size := by simp [chars]
    show z.cps.size ≤ i
    omega
theorem it_seq (S : Sx F K mg N vis gl k) {e : Expr} {g : M D} (h : EX F K Z own e g) : IT F K Z own tg e (itD g) := by
  obtain ⟨t, p, h⟩ := h
  refine ⟨iSeq K t, fun X hX => atK (S.hK X hX) (fun K => PI X _ _ (iSeq K t)) (pi_seq (p X hX)), fun G ρ σ H B R => ?_⟩
  refine Run.thn (p2 := fun x H1 R => (∃ a, x = .ref a ∧ (∃ xs, SqL K H1 a xs) ∧ R (Itl K a) H1) ∨ (∃ a, x = .ref a ∧ (∃ xs, SqT K H1 a xs) ∧ R (Itt K a) H1) ∨ (∃ z, x = .str z ∧ R (Its z) H1)) (h G ρ σ H B R) fun d ρ1 v H1 B1 _ e R1 l => ?_
  cases l with
  | tup hq rs hz => exact fun Q q => .inr (.inl ⟨_, rfl, ⟨_, seqT R1.keep.bh hq.1⟩, q _ H1 B1 Ex.rfl R1 (itt_ok hq.1 rs hz)⟩)
  | lst hq rs hz => exact fun Q q => .inl ⟨_, rfl, ⟨_, R1.keep.bh.seq hq⟩, q _ H1 B1 Ex.rfl R1 (itl_ok hq rs hz)⟩
  | str z ho =>
    show Run _ _ _ _ _ (ofO (szO (chars z)) ρ1) _ _ _
    cases hz : szO (chars z) with
    | none => trivial
    | some es =>
      obtain ⟨rfl, hz2⟩ := szO_some hz
      exact fun Q q => .inr (.inr ⟨z, rfl, q _ H1 B1 Ex.rfl R1 (its_ok ho hz2)⟩)
  | _ => trivial
/-! ### range -/
def rangeL (lo hi : Int) : List D := (List.range (hi - lo).toNat).map fun j => D.int (lo + (j : Nat))
def rng1 : List D → Option (List D)
  | [.int n] => if n ≤ 16000000 ∧ -(2 ^ 62) ≤ n then some (rangeL 0 n) else none
  | _ => none
theorem itr_ok {B : Hp} {lo hi : Int} (h : hi - lo ≤ 16000000) : ItOk K B (Itr lo (hi - lo).toNat) (rangeL lo hi) where
  sz := by rw [rangeL, List.length_map, List.length_range, sizeLine_eq]; omega
  go := fun i H e hi' => by rw [rangeL, List.length_map, List.length_range] at hi'; exact hi'
  yld := fun i H B1 x H' e e1 hi' y => by
    obtain ⟨rfl, rfl⟩ := y
    rw [rangeL, List.length_map, List.length_range] at hi'
    refine ⟨.int (lo + (i : Nat)), B1, ?_, New.refl e1, .int _⟩
    rw [rangeL, List.getElem?_map, List.getElem?_range hi']
    rfl
  stop := fun i H e hi' => by rw [rangeL, List.length_map, List.length_range] at hi'; exact hi'
def rngD (f : List D → Option (List D)) (g : M (List D)) : M (List D) := bnd g fun ds => ofO (f ds)
theorem it_range1 (S : Sx F K mg N vis gl k) (i : Nat) {a : Expr} {g : M (List D)} {p pos : Pos} (hm : mg "range" = none) (ha : EXs F K Z own [a] g) (hg : gl[i]? = some ("range" : Str) := by rfl) (hs : ∀ X, F X → starEach [a] X.env = [(false, eval a X.env)] := by intro _ _; rfl) :
    IT F K Z own tg (.Call (.Name "range" p) [a] [] pos) (rngD rng1 g) := by
  obtain ⟨t, pa, h⟩ := ha
  refine ⟨_, fun X hX => pi_range1 (S.gl X hX i _ hg).1 (by rw [S.hmg X hX]; exact hm) (pa X hX) (hs X hX), fun G ρ σ H B R => ?_⟩
  refine Run.thn (p2 := fun vs H1 R => ∃ j : Int, vs = [.int j] ∧ -(2 ^ 62) ≤ j ∧ j < 2 ^ 62 ∧ R (Itr 0 j.toNat) H1) (h G ρ σ H B R) fun ds ρ1 vs H1 B1 _ e R1 l => ?_
  cases l with
  | nil => trivial
  | cons r rs =>
    cases rs with
    | cons _ _ => cases r <;> trivial
    | nil =>
      cases r with
      | int n =>
        show Run _ _ _ _ _ (ofO (if n ≤ 16000000 ∧ -(2 ^ 62) ≤ n then some (rangeL 0 n) else none) ρ1) _ _ _
        split
        · rename_i hn
          have := itr_ok (K := K) (B := B1) (lo := 0) (hi := n) (by omega)
          rw [show n - 0 = n by omega] at this
          exact fun Q q => ⟨n, rfl, hn.2, by omega, q _ H1 B1 Ex.rfl R1 this⟩
        · trivial
      | _ => trivial
/-! ### for, while -/
def forL (b : Bd) (body : SM) : List D → Env → SRes
  | [], ρ => .nx ρ
  | d :: ds, ρ => match b d ρ with
    | none => .bad
    | some ρ1 => match body ρ1 with
      | .nx ρ2 => forL b body ds ρ2
      | .ct ρ2 => forL b body ds ρ2
      | .bk ρ2 => .nx ρ2
      | r => r
def forS (b : Bd) (it : M (List D)) (body : SM) : SM := sbd it fun ds ρ => forL b body ds ρ
def whileS (c : M Bool) (body : SM) : Nat → SM
  | 0 => badS
  | n + 1 => sbd c fun t ρ1 => if t then (match body ρ1 with
      | .nx ρ2 => whileS c body n ρ2
      | .ct ρ2 => whileS c body n ρ2
      | .bk ρ2 => .nx ρ2
      | r => r) else .nx ρ1
theorem st_for {C : Ctl} {iter : Expr} {body : List Stmt} {it : M (List D)} {b : Bd} {g : SM} {pos : Pos} {vs : List Nat} (S : Sx F K mg N vis gl k) (hp : ∀ X, F X → PassesOwn (model X.prog X.w) X.A X.env X.xe) (hi : IT F K C.Z own tg iter it) (ht : TGd F K own own1 tg vs b)
    (hb : STs F K { C with lo := own } own1 body g own) (hs : ∀ X, F X → ∀ x, foldedSetIterable iter X.env x = pure x := by intro _ _ _; rfl) : ST F K C own (.For tg iter body [] pos) (forS b it g) own := by
  obtain ⟨wi, pi, hi⟩ := hi
  obtain ⟨tgr, pg, ht⟩ := ht
  obtain ⟨tb, pb, hb⟩ := hb
  refine ⟨_, fun X hX => ps_for (hp X hX) (S.calm X hX) (pi X hX) (pg X hX) (pb X hX) (hs X hX), fun G ρ σ H B R => SRun.ofE (p2 := fun J H1 E => ∃ W : Nat → Nat → L2.St → Hp → Prop, (∃ m, W 0 m σ H1) ∧ ∀ i m σ H, W i m σ H →
    (J.stop i H ∧ E.nx σ H) ∨ (J.go i H ∧ ∃ N : L2.St → Hp → Prop, (∀ σ' H', N σ' H' → ∃ m', m' < m ∧ W (i + 1) m' σ' H') ∧ ∀ x H', J.yld i H x H' → tgr x σ H' fun σ2 H2 => tb { E with nx := N, ct := N, bk := E.nx } σ2 H2)) (hi G ρ σ H B R) fun ds ρ1 J H1 B1 _ e R1 l E hE => ?_⟩
  refine ⟨fun i m σ' H' => ∃ ρ' B', i ≤ ds.length ∧ m = ds.length - i ∧ Ex B1 B' ∧ Rel K G own ρ' σ' H' B' ∧ SPost K C G own (forL b g (ds.drop i) ρ') B' E, ⟨_, ρ1, B1, Nat.zero_le _, rfl, Ex.rfl, R1, by simpa using hE⟩, ?_⟩
  rintro i m σ2 H2 ⟨ρ2, B2, hle, rfl, e2, R2, hE2⟩
  by_cases hlt : i < ds.length
  · right
    refine ⟨l.go i H2 (e2.trans R2.keep.bh) hlt, fun σ' H' => ∃ ρ' B', Ex B1 B' ∧ Rel K G own ρ' σ' H' B' ∧ SPost K C G own (forL b g (ds.drop (i + 1)) ρ') B' E, fun σ' H' ⟨ρ', B', q1, q2, q3⟩ => ⟨_, by omega, ρ', B', hlt, rfl, q1, q2, q3⟩, fun x H3 hy => ?_⟩
    obtain ⟨d, B3, hd, n3, r3⟩ := l.yld i H2 B2 x H3 e2 R2.keep.bh hlt hy
    have ed : ds.drop i = d :: ds.drop (i + 1) := by
      rw [List.drop_eq_getElem_cons hlt]
      congr 1
      rw [List.getElem?_eq_getElem hlt] at hd
      exact Option.some.inj hd
    rw [ed] at hE2
    have R3 := R2.new n3
    have a1 := ht G ρ2 σ2 H3 B3 x d R3 r3
    have hE3 := hE2.mono n3.b
    unfold forL at hE3
    cases hbd : b d ρ2 with
    | none => rw [hbd] at hE3; exact hE3.elim
    | some ρ3 =>
      rw [hbd] at hE3 a1
      refine a1 _ fun σ4 _ R4 => ?_
      refine hb G ρ3 σ4 H3 B3 R4 { E with nx := _, ct := _, bk := E.nx } ?_
      have eB : Ex B1 B3 := e2.trans n3.b
      dsimp only at hE3
      cases hg : g ρ3 with
      | nx ρ5 => rw [hg] at hE3; exact fun σ' H' B' e5 R5 => ⟨ρ5, B', eB.trans e5, R5, SPost.mono (r := forL b g (ds.drop (i + 1)) ρ5) hE3 e5⟩
      | ct ρ5 => rw [hg] at hE3; exact fun σ' H' B' e5 R5 => ⟨ρ5, B', eB.trans e5, R5, SPost.mono (r := forL b g (ds.drop (i + 1)) ρ5) hE3 e5⟩
      | bk ρ5 => rw [hg] at hE3; exact hE3
      | rt d5 ρ5 => rw [hg] at hE3; exact hE3
      | ex c fs ρ5 => rw [hg] at hE3; exact hE3
      | bad => rw [hg] at hE3; exact hE3
  · left
    have ei : ds.drop i = [] := List.drop_eq_nil_of_le (by omega)
    rw [ei] at hE2
    exact ⟨l.stop i H2 (e2.trans R2.keep.bh) (by omega), hE2 σ2 H2 B2 Ex.rfl R2⟩
theorem st_while {C : Ctl} {c : Expr} {body : List Stmt} {t : M Bool} {g : SM} {pos : Pos} (n : Nat) (hp : ∀ X, F X → PassesOwn (model X.prog X.w) X.A X.env X.xe) (hc : ET F K C.Z own c t) (hb : STs F K { C with lo := own } own body g own) : ST F K C own (.While c body [] pos) (whileS t g n) own := by
  obtain ⟨tc, pc, hc⟩ := hc
  obtain ⟨tb, pb, hb⟩ := hb
  refine ⟨_, fun X hX => ps_while (hp X hX) (pc X hX) (pb X hX), fun G ρ σ H B R E hE => ?_⟩
  refine ⟨fun m σ' H' => ∃ ρ' B', Rel K G own ρ' σ' H' B' ∧ SPost K C G own (whileS t g m ρ') B' E, ⟨n, ρ, B, R, hE⟩, ?_⟩
  rintro m σ2 H2 ⟨ρ2, B2, R2, hE2⟩
  cases m with
  | zero => exact hE2.elim
  | succ m =>
    have a1 := hc G ρ2 σ2 H2 B2 R2
    unfold whileS sbd at hE2
    cases ht : t ρ2 with
    | bad => rw [ht] at hE2; exact hE2.elim
    | ex c fs ρ3 => rw [ht] at hE2 a1; exact a1 (fun Cv dd H' B' e R' x => hE2 Cv dd σ2 H' B' e R' x) _
    | ok tb' ρ3 =>
      rw [ht] at hE2 a1
      refine a1 _ fun v H3 B3 e3 R3 l3 => ?_
      cases l3
      change SPost _ _ _ _ (if tb' = true then _ else _) _ _ at hE2
      cases tb' with
      | false =>
        rw [if_neg Bool.false_ne_true] at hE2
        show (if false = true then _ else _)
        rw [if_neg Bool.false_ne_true]
        exact hE2 σ2 H3 B3 e3 R3
      | true =>
        rw [if_pos rfl] at hE2
        show (if true = true then _ else _)
        rw [if_pos rfl]
        refine ⟨fun σ' H' => ∃ ρ' B', Rel K G own ρ' σ' H' B' ∧ SPost K C G own (whileS t g m ρ') B' E, fun σ' H' q => ⟨m, Nat.lt_succ_self m, q⟩, ?_⟩
        have hE3 := hE2.mono e3
        refine hb G ρ3 σ2 H3 B3 R3 { E with nx := _, ct := _, bk := E.nx } ?_
        cases hg : g ρ3 with
        | nx ρ5 => rw [hg] at hE3; exact fun σ' H' B' e5 R5 => ⟨ρ5, B', R5, SPost.mono (r := whileS t g m ρ5) hE3 e5⟩
        | ct ρ5 => rw [hg] at hE3; exact fun σ' H' B' e5 R5 => ⟨ρ5, B', R5, SPost.mono (r := whileS t g m ρ5) hE3 e5⟩
        | bk ρ5 => rw [hg] at hE3; exact hE3
        | rt d5 ρ5 => rw [hg] at hE3; exact hE3
        | ex c fs ρ5 => rw [hg] at hE3; exact hE3
        | bad => rw [hg] at hE3; exact hE3
end
end MP
namespace MP
open PySem L2
/-! ### list comprehensions -/
def restore (vs : List Nat) (ρ ρ' : Env) : Env := vs.foldl (fun r i => r.set i (look ρ i)) ρ'
def lcL (b : Bd) (c : M Bool) (g : M D) (vs : List Nat) : List D → Env → List D → Res (List D)
  | [], ρ, acc => .ok acc ρ
  | d :: ds, ρ, acc => match b d ρ with
    | none => .bad
    | some ρ1 => match c ρ1 with
      | .ok true ρ2 => (match g ρ2 with
        | .ok y ρ3 => lcL b c g vs ds (restore vs ρ ρ3) (acc ++ [y])
        | _ => .bad)
      | .ok false ρ2 => lcL b c g vs ds (restore vs ρ ρ2) acc
      | _ => .bad
def lcD (b : Bd) (it : M (List D)) (c : M Bool) (g : M D) (vs : List Nat) : M (List D) := bnd it fun ds ρ => lcL b c g vs ds ρ []
def yesM : M Bool := ret true
/-- the tests of a comprehension -/
def ETs (F : CF) (K : PySem.W.Frag) (Z : XC) (own : List Stt) (es : List Expr) (g : M Bool) : Prop :=
  ∃ t, (∀ X, F X → PTs X es t) ∧ ∀ G ρ σ H B, Rel K G own ρ σ H B → Run K Z G own RB (g ρ) σ B (t σ H)
/-- the blocks of a comprehension -/
def blkF (F : CF) (scope : Scope) : CF := fun Y => ∃ X s H C cl fp, F X ∧ Y = X.blk s H scope (compEnvC scope cl C X.env) fp
abbrev Z0 (own : List Stt) : XC := ⟨fun _ _ _ _ => False, own⟩
section
variable {F : CF} {K : PySem.W.Frag} {mg : Str → Option Value} {Z : XC} {own own1 own' : List Stt} {N : List Str} {vis : List Bool} {gl : List Str} {k : Nat}
theorem ets_nil : ETs F K Z own [] yesM := ⟨_, fun _ _ => pts_nil, fun G ρ σ H B R => Run.now R rfl fun Q q => q⟩
theorem ets_one {c : Expr} {t : M Bool} (h : ET F K Z own c t) : ETs F K Z own [c] t := by
  obtain ⟨t, p, h⟩ := h
  exact ⟨t, fun X hX => pts_one (p X hX), h⟩
/-- a slot of which nothing is known may hold anything -/
theorem Rel.setU {G : Gam} {ρ : Env} {σ : L2.St} {H B : Hp} (R : Rel K G own ρ σ H B) {i : Nat} {d : D} (h : own[i]? = some .U) : Rel K G own (ρ.set i d) σ H B := by
  have hl := R.own_lt h
  refine ⟨R.keep, by simpa using R.lr, R.ls, fun j st hj => ?_, R.sep⟩
  rw [look_set (by rw [R.lr]; exact hl)]
  by_cases e : j = i
  · subst e; rw [h] at hj; cases hj; trivial
  · rw [if_neg e]; exact R.slot j st hj
theorem Rel.restore {G : Gam} {ρ0 : Env} {σ : L2.St} {H B : Hp} : ∀ {vs : List Nat} {ρ : Env}, Rel K G own ρ σ H B → (∀ i ∈ vs, own[i]? = some .U) → Rel K G own (MP.restore vs ρ0 ρ) σ H B
  | [], _, R, _ => R
  | i :: vs, ρ, R, h => Rel.restore (vs := vs) (ρ := ρ.set i (look ρ0 i)) (R.setU (h i (by simp))) fun j hj => h j (by simp [hj])
/-- the slots' values where nothing is known do not matter -/
theorem Rel.slots {G : Gam} {ρ : Env} {σ τ : L2.St} {H B : Hp} {vs : List Nat} (R : Rel K G own ρ σ H B) (h : wipe σ vs = wipe τ vs) (hu : ∀ i ∈ vs, own[i]? = some .U) : Rel K G own ρ τ H B := by
  have hl : σ.length = τ.length := by
    have := congrArg List.length h
    rwa [wipe_length, wipe_length] at this
  have key : ∀ i, i ∉ vs → σ[i]? = τ[i]? := fun i hi => by rw [← wipe_out (σ := σ) hi, h, wipe_out hi]
  refine ⟨R.keep, R.lr, hl ▸ R.ls, fun i st hi => ?_, fun i j si sj a hi hj oi oj ei ej => ?_⟩
  · by_cases hv : i ∈ vs
    · rw [hu i hv] at hi; cases hi; trivial
    · rw [← key i hv]; exact R.slot i st hi
  · have ni : i ∉ vs := fun z => by rw [hu i z] at hi; cases hi; cases oi
    have nj : j ∉ vs := fun z => by rw [hu j z] at hj; cases hj; cases oj
    exact R.sep i j si sj a hi hj oi oj (by rw [key i ni]; exact ei) (by rw [key j nj]; exact ej)
theorem wipe_wipe (σ : L2.St) (vs : List Nat) : wipe (wipe σ vs) vs = wipe σ vs := by
  apply List.ext_getElem?
  intro j
  by_cases hj : j ∈ vs
  · have key : ∀ τ : L2.St, (wipe τ vs)[j]? = if j < τ.length then some none else none := fun τ => by
      by_cases hl : j < τ.length
      · rw [if_pos hl]
        have e := List.getElem?_eq_getElem (l := wipe τ vs) (i := j) (by rw [wipe_length]; exact hl)
        rw [e]
        congr 1
        cases q : (wipe τ vs)[j]'(by rw [wipe_length]; exact hl) with
        | none => rfl
        | some x => exact absurd hj (wipe_some (σ := τ) (vs := vs) (x := x) (by rw [e, q])).2
      · rw [if_neg hl]; exact List.getElem?_eq_none (by rw [wipe_length]; omega)
    rw [key, key, wipe_length]
  · rw [wipe_out hj]
/-- the list that is being made is locked while an item is reckoned -/
def Gam.lock (G : Gam) (p : Addr) (o : HO) : Gam := { G with pr := upd G.pr p o }
theorem Rel.lock {G : Gam} {ρ : Env} {σ : L2.St} {H B : Hp} (R : Rel K G own ρ σ H B) {p : Addr} {vl : List V} (hp : H p = some (.lst vl)) (hb : B p = none) (hn : NoRt own σ H p) : Rel K (G.lock p (.lst vl)) own ρ σ H B := by
  generalize ho : HO.lst vl = o at *
  refine ⟨⟨R.keep.bh, fun a u e => ?_, fun a u e => ?_, R.keep.b0, R.keep.fr, R.keep.dom, R.keep.old, ?prn, R.keep.tk, R.keep.tab⟩, R.lr, R.ls, fun j st hj => ?_, R.sep⟩
  · by_cases z : a = p
    · subst z; have e' : upd G.pr a o a = some u := e; rw [upd_same] at e'; rw [← e']; exact hp
    · have e' : upd G.pr p o a = some u := e; rw [upd_ne z] at e'; exact R.keep.pr a u e'
  · by_cases z : a = p
    · subst z; exact hb
    · have e' : upd G.pr p o a = some u := e; rw [upd_ne z] at e'; exact R.keep.prb a u e'
  case prn =>
    intro a u e
    by_cases z : a = p
    · subst z; have e' : upd G.pr a o a = some u := e; rw [upd_same] at e'; rw [← Option.some.inj e', ← ho]; rfl
    · have e' : upd G.pr p o a = some u := e; rw [upd_ne z] at e'; exact R.keep.prn a u e'
  · have := R.slot j st hj
    have own1 : st.own = true → SlotOk K (G.lock p o) H B st (σ[j]?).join (look ρ j) := fun os => by
      obtain ⟨a, e, m, _⟩ := this.mok os
      refine SlotOk.keep this os e m id id (fun b q => .inl q) fun b r g => ?_
      show upd G.pr p o b = none
      rw [upd_ne (fun z => hn j st hj os ⟨a, e, by rw [← z]; exact r⟩)]; exact g
    cases st with
    | U => trivial
    | V => exact this
    | L => exact own1 rfl
    | R => exact own1 rfl
    | O => exact own1 rfl
    | M => exact own1 rfl
    | K => exact own1 rfl
    | T => exact own1 rfl
    | I =>
      obtain ⟨y, dx, c, us, fs, q1, q2, q3, ⟨g1, g2⟩, q5⟩ := this
      obtain ⟨n1, n2⟩ := q3.nl (p := p) (vs := vl) (by rw [ho]; exact hp)
      exact ⟨y, dx, c, us, fs, q1, q2, q3, ⟨by show upd G.pr p o y = none; rw [upd_ne n1]; exact g1, by show upd G.pr p o dx = none; rw [upd_ne n2]; exact g2⟩, q5⟩
theorem Rel.unlock {G : Gam} {ρ : Env} {σ : L2.St} {H B : Hp} {p : Addr} {o : HO} (R : Rel K (G.lock p o) own ρ σ H B) (hg : G.pr p = none) : Rel K G own ρ σ H B ∧ H p = some o ∧ B p = none ∧ NoRt own σ H p := by
  have hpp : (G.lock p o).pr p = some o := upd_same
  have ge : ∀ a u, G.pr a = some u → (G.lock p o).pr a = some u := fun a u e => by
    show upd G.pr p o a = some u
    rw [upd_ne (ne_of_none e hg)]; exact e
  refine ⟨⟨⟨R.keep.bh, fun a u e => R.keep.pr a u (ge a u e), fun a u e => R.keep.prb a u (ge a u e), R.keep.b0, R.keep.fr, R.keep.dom, R.keep.old, fun a u e => R.keep.prn a u (ge a u e), R.keep.tk, R.keep.tab⟩, R.lr, R.ls, fun j st hj => ?_, R.sep⟩, R.keep.pr p o hpp, R.keep.prb p o hpp, fun j sj hj oj ej => ?_⟩
  · have := R.slot j st hj
    have key : ∀ a, (G.lock p o).pr a = none → G.pr a = none := fun a e => by
      cases q : G.pr a with
      | none => rfl
      | some u => rw [ge a u q] at e; cases e
    have own1 : st.own = true → SlotOk K G H B st (σ[j]?).join (look ρ j) := fun os => by
      obtain ⟨a, e, m, _⟩ := this.mok os
      exact SlotOk.keep this os e m id id (fun b q => .inl q) fun b r g => key b g
    cases st with
    | U => trivial
    | V => exact this
    | L => exact own1 rfl
    | R => exact own1 rfl
    | O => exact own1 rfl
    | M => exact own1 rfl
    | K => exact own1 rfl
    | T => exact own1 rfl
    | I => obtain ⟨y, dx, c, us, fs, q1, q2, q3, ⟨g1, g2⟩, q5⟩ := this; exact ⟨y, dx, c, us, fs, q1, q2, q3, ⟨key y g1, key dx g2⟩, q5⟩
  · obtain ⟨a, e, m, g⟩ := (R.slot j sj hj).mok oj
    rw [e] at ej
    have := (g p ej.of).1
    rw [hpp] at this; cases this
/-- the list that is being made takes another form -/
theorem Rel.put {G : Gam} {ρ : Env} {σ : L2.St} {H B : Hp} (R : Rel K G own ρ σ H B) {p : Addr} {vl : List V} {o' : HO} (hp : H p = some (.lst vl)) (hb : B p = none) (hg : G.pr p = none) (ho' : isTb o' = false) (h0 : G.H p = none) (hn : NoRt own σ H p) (ht' : isTp o' = false := by rfl) : Rel K G own ρ σ (upd H p o') B := by
  have kp : ∀ (i : Nat) (si : Stt), own[i]? = some si → si.own = true → ∀ x o, (σ[i]?).join = some (.ref x) → H x = some o → plainO o → upd H p o' x = some o := fun i si hi oi x o ex e _ => by
    rw [upd_ne (fun z => hn i si hi oi ⟨x, ex, .inl z.symm⟩)]; exact e
  refine ⟨⟨fun a u e => ?_, fun a u e => ?_, R.keep.prb, R.keep.b0, fun a u e na nt => ?_, fun a u e => ?_, R.keep.old, R.keep.prn, R.keep.tk.trans (TabsK.put hp plain_lst), R.keep.tab.put hp plain_lst ho' ht'⟩, R.lr, R.ls, fun j st hj => ?_, fun i j si sj a hi hj oi oj ei ej => R.sep i j si sj a hi hj oi oj (R.back hi oi (kp i si hi oi) ei) (R.back hj oj (kp j sj hj oj) ej)⟩
  · rw [upd_ne (ne_of_none e hb)]; exact R.keep.bh a u e
  · rw [upd_ne (ne_of_none e hg)]; exact R.keep.pr a u e
  · rw [upd_ne (ne_of_none e h0)]; exact R.keep.fr a u e na nt
  · rw [upd_ne (ne_of_none e h0)]; exact R.keep.dom a u e
  · have := R.slot j st hj
    have own1 : st.own = true → SlotOk K G (upd H p o') B st (σ[j]?).join (look ρ j) := fun os => by
      obtain ⟨a, e, m, _⟩ := this.mok os
      have k : ∀ b o, Root H a b → H b = some o → upd H p o' b = some o := fun b o rt q => by
        rw [upd_ne (fun z => hn j st hj os ⟨a, e, by rw [← z]; exact rt⟩)]; exact q
      exact SlotOk.keep this os e (m.stay k Ex.rfl fun b rt => (m.has rt).2) id id (fun b q => .inl ((m.same (k a · .self)).mp q)) fun _ _ q => q
    cases st with
    | U => trivial
    | V => exact this
    | L => exact own1 rfl
    | R => exact own1 rfl
    | O => exact own1 rfl
    | M => exact own1 rfl
    | K => exact own1 rfl
    | T => exact own1 rfl
    | I =>
      obtain ⟨y, dx, c, us, fs, q1, q2, q3, q5⟩ := this
      obtain ⟨n1, n2⟩ := q3.nl hp
      exact ⟨y, dx, c, us, fs, q1, q2, q3.stay (fun q z => by rw [upd_ne n1]; exact z) (fun q z => by rw [upd_ne n2]; exact z) Ex.rfl q3.bx q3.bd, q5⟩
theorem lcL_cons {b : Bd} {c : M Bool} {g : M D} {vs : List Nat} {d : D} {ds acc a : List D} {ρ ρ' : Env} (h : lcL b c g vs (d :: ds) ρ acc = .ok a ρ') :
    ∃ ρ1, b d ρ = some ρ1 ∧ ((∃ ρ2 y ρ3, c ρ1 = .ok true ρ2 ∧ g ρ2 = .ok y ρ3 ∧ lcL b c g vs ds (restore vs ρ ρ3) (acc ++ [y]) = .ok a ρ') ∨ (∃ ρ2, c ρ1 = .ok false ρ2 ∧ lcL b c g vs ds (restore vs ρ ρ2) acc = .ok a ρ')) := by
  unfold lcL at h
  cases hb : b d ρ with
  | none => rw [hb] at h; cases h
  | some ρ1 =>
    rw [hb] at h
    refine ⟨ρ1, rfl, ?_⟩
    dsimp only at h
    cases hc : c ρ1 with
    | bad => rw [hc] at h; cases h
    | ex cc fs ρ2 => rw [hc] at h; cases h
    | ok t ρ2 =>
      rw [hc] at h
      cases t with
      | false => exact .inr ⟨ρ2, rfl, h⟩
      | true =>
        dsimp only at h
        cases hg : g ρ2 with
        | bad => rw [hg] at h; cases h
        | ex cc fs ρ3 => rw [hg] at h; cases h
        | ok y ρ3 => rw [hg] at h; exact .inl ⟨ρ2, y, ρ3, rfl, hg, h⟩
theorem lcL_noex {b : Bd} {c : M Bool} {g : M D} {vs : List Nat} : ∀ {ds acc : List D} {ρ : Env} {cc : Str} {fs : List (Str × D)} {ρ' : Env}, lcL b c g vs ds ρ acc ≠ .ex cc fs ρ'
  | [], _, _, _, _, _, h => by cases h
  | d :: ds, acc, ρ, cc, fs, ρ', h => by
    unfold lcL at h
    cases hb : b d ρ with
    | none => rw [hb] at h; cases h
    | some ρ1 =>
      rw [hb] at h
      dsimp only at h
      cases hc : c ρ1 with
      | bad => rw [hc] at h; cases h
      | ex _ _ ρ2 => rw [hc] at h; cases h
      | ok t ρ2 =>
        rw [hc] at h
        cases t with
        | false => exact lcL_noex h
        | true =>
          dsimp only at h
          cases hg : g ρ2 with
          | bad => rw [hg] at h; cases h
          | ex _ _ ρ3 => rw [hg] at h; cases h
          | ok y ρ3 => rw [hg] at h; exact lcL_noex h
theorem lc_run {it : M (List D)} {b : Bd} {c : M Bool} {g : M D} {wi : TI} {gt : TG} {tt : TT} {te : TE} {vs : List Nat} (hi : ∀ G ρ σ H B, Rel K G own ρ σ H B → Run K Z G own (fun _ B J ds => ItOk K B J ds) (it ρ) σ B (wi σ H))
    (ht : ∀ G ρ σ H B v d, Rel K G own ρ σ H B → Rep K B v d → TGo K own1 vs G (b d ρ) σ H B (gt v σ H)) (hc : ∀ G ρ σ H B, Rel K G own1 ρ σ H B → Run K (Z0 own) G own1 RB (c ρ) σ B (tt σ H))
    (hg : ∀ G ρ σ H B, Rel K G own1 ρ σ H B → Run K (Z0 own) G own1 (RV K) (g ρ) σ B (te σ H)) (hu : ∀ i ∈ vs, own[i]? = some .U) (hw : leB own own1 = true) {G : Gam} {ρ : Env} {σ : L2.St} {H B : Hp} (R : Rel K G own ρ σ H B) :
    Run K Z G own (Fresh K G own σ) (lcD b it c g vs ρ) σ B (tLc wi gt tt te vs σ H) := by
  refine Run.thn (p2 := fun J H1 Q => ∀ A, H1 A = none → ∃ W : Nat → Nat → Hp → Prop, (∃ m, W 0 m (upd H1 A (.lst []))) ∧ ∀ i m H, W i m H →
    (J.stop i H ∧ Q (.ref A) H) ∨ (J.go i H ∧ ∃ Nx : Hp → Prop, (∀ H', Nx H' → ∃ m', m' < m ∧ W (i + 1) m' H') ∧ ∀ x H', J.yld i H x H' → gt x (wipe σ vs) H' fun σ2 H2 => wipe σ2 vs = wipe σ vs ∧ tt σ2 H2 fun b H3 =>
      if b = true then te σ2 H3 fun y H4 => ∃ acc, H4 A = some (.lst acc) ∧ acc.length < sizeLine ∧ Nx (upd H4 A (.lst (acc ++ [y]))) else Nx H3)) (hi G ρ σ H B R) fun ds ρ1 J H1 B1 _ e R1 l => ?_
  cases hr : lcL b c g vs ds ρ1 [] with
  | bad => trivial
  | ex cc fs ρ' => exact (lcL_noex hr).elim
  | ok acc ρ' =>
    intro Q q A hA
    refine ⟨fun i m H' => ∃ ρi Bi ai us, i ≤ ds.length ∧ m = ds.length - i ∧ Ex B1 Bi ∧ Rel K G own ρi σ H' Bi ∧ H' A = some (.lst us) ∧ Reps K Bi us ai ∧ ai.length ≤ i ∧ Bi A = none ∧ (G.pr A = none ∧ G.H A = none) ∧
      NoRt own σ H' A ∧ lcL b c g vs (ds.drop i) ρi ai = .ok acc ρ', ?_, ?_⟩
    · obtain ⟨R2, a, ea, ⟨us, q1, q2, q3, q4⟩, q5, q6⟩ := R1.fresh hA (Reps.nil (K := K) (B := B1)) (Nat.zero_le _)
      cases ea
      exact ⟨_, ρ1, B1, [], [], Nat.zero_le _, rfl, Ex.rfl, R2, upd_same, .nil, Nat.le_refl _, q4, q5, q6, by simpa using hr⟩
    · rintro i m H2 ⟨ρi, Bi, ai, us, hle, rfl, ei, Ri, hAi, rs, hlen, hbA, hfr, hno, hlc⟩
      by_cases hlt : i < ds.length
      · right
        refine ⟨l.go i H2 (ei.trans Ri.keep.bh) hlt, fun H' => ∃ ρi Bi ai us, Ex B1 Bi ∧ Rel K G own ρi σ H' Bi ∧ H' A = some (.lst us) ∧ Reps K Bi us ai ∧ ai.length ≤ i + 1 ∧ Bi A = none ∧
          NoRt own σ H' A ∧ lcL b c g vs (ds.drop (i + 1)) ρi ai = .ok acc ρ',
          fun H' ⟨ρ2, B2, a2, u2, q1, q2, q3, q4, q5, q6, q7, q8⟩ => ⟨_, by omega, ρ2, B2, a2, u2, hlt, rfl, q1, q2, q3, q4, q5, q6, hfr, q7, q8⟩, fun x H3 hy => ?_⟩
        obtain ⟨d, B3, hd, n3, r3⟩ := l.yld i H2 Bi x H3 ei Ri.keep.bh hlt hy
        have ed : ds.drop i = d :: ds.drop (i + 1) := by
          rw [List.drop_eq_getElem_cons hlt]
          congr 1
          rw [List.getElem?_eq_getElem hlt] at hd
          exact Option.some.inj hd
        rw [ed] at hlc
        obtain ⟨ρa, hb, hcases⟩ := lcL_cons hlc
        have R3 := (Ri.new n3).lock (n3.h A _ hAi rfl) ((n3.old A _ hAi).trans hbA) (Ri.noRt (fun x o e p => n3.h x o e p.1) hno)
        have R3w : Rel K (G.lock A (.lst us)) own ρi (wipe σ vs) H3 B3 := R3.slots (vs := vs) (wipe_wipe σ vs).symm hu
        have a1 := ht (G.lock A (.lst us)) ρi (wipe σ vs) H3 B3 x d R3w r3
        rw [hb] at a1
        refine a1 _ fun σ2 hw2 R4 => ?_
        have hw2' : wipe σ2 vs = wipe σ vs := hw2.trans (wipe_wipe σ vs)
        refine ⟨hw2', ?_⟩
        have a2 := hc (G.lock A (.lst us)) ρa σ2 H3 B3 R4
        have back : ∀ {ρx : Env} {Hx Bx : Hp}, Rel K (G.lock A (.lst us)) own1 ρx σ2 Hx Bx → Rel K G own (restore vs ρi ρx) σ Hx Bx ∧ Hx A = some (.lst us) ∧ Bx A = none ∧ NoRt own σ Hx A := fun Rx =>
          ((((Rx.less hw).slots hw2' hu).restore (ρ0 := ρi) (vs := vs) hu)).unlock hfr.1
        rcases hcases with ⟨ρ2, y, ρ3, hc2, hg2, hrest⟩ | ⟨ρ2, hc2, hrest⟩
        · rw [hc2] at a2
          refine a2 _ fun v H4 B4 e4 R5 hv => ?_
          cases hv
          rw [if_pos rfl]
          have a3 := hg (G.lock A (.lst us)) ρ2 σ2 H4 B4 R5
          rw [hg2] at a3
          refine a3 _ fun v H5 B5 e5 R6 rv => ?_
          obtain ⟨R7, hA7, hB7, hn7⟩ := back R6
          have eB : Ex Bi B5 := (n3.b.trans e4).trans e5
          refine ⟨us, hA7, ?_, restore vs ρi ρ3, B5, ai ++ [y], us ++ [v], ei.trans eB, R7.put hA7 hB7 hfr.1 rfl hfr.2 hn7, upd_same, (rs.mono eB).append (.one rv), by simpa using hlen, hB7, hn7.put, hrest⟩
          have := l.sz
          rw [rs.len]
          omega
        · rw [hc2] at a2
          refine a2 _ fun v H4 B4 e4 R5 hv => ?_
          cases hv
          rw [if_neg Bool.false_ne_true]
          obtain ⟨R7, hA7, hB7, hn7⟩ := back R5
          have eB : Ex Bi B4 := n3.b.trans e4
          exact ⟨restore vs ρi ρ2, B4, ai, us, ei.trans eB, R7, hA7, rs.mono eB, by omega, hB7, hn7, hrest⟩
      · left
        have e0 : ds.drop i = [] := List.drop_eq_nil_of_le (by omega)
        rw [e0] at hlc
        cases hlc
        refine ⟨l.stop i H2 (ei.trans Ri.keep.bh) (by omega), q _ H2 Bi ei Ri ⟨A, rfl, ⟨us, hAi, rs, ?_, hbA⟩, hfr, hno⟩⟩
        have := l.sz
        omega
theorem el_lc {elt tg iter : Expr} {ifs : List Expr} {scope : Scope} {oc : List (Str × Nat)} {pos : Pos} {it : M (List D)} {b : Bd} {c : M Bool} {g : M D} (S : Sx F K mg N vis gl k) (hnd : N.Nodup) (ok : ∀ X, F X → BlkOk X.N X.env.scope scope oc) (hi : IT F K Z own tg iter it)
    (ht : TGd (blkF F scope) K own own1 tg (oc.map (·.2)) b) (hc : ETs (blkF F scope) K (Z0 own) own1 ifs c) (hg : EX (blkF F scope) K (Z0 own) own1 elt g) (hu : ∀ i ∈ oc.map (·.2), own[i]? = some .U) (hw : leB own own1 = true := by rfl)
    (hs : ∀ X, F X → ∀ x, foldedSetIterable iter X.env x = pure x := by intro _ _ _; rfl) : EL F K Z own (.ListComp elt [⟨tg, iter, ifs, 0⟩] scope pos) (lcD b it c g (oc.map (·.2))) := by
  obtain ⟨wi, pi, hi⟩ := hi
  obtain ⟨gt, pg, ht⟩ := ht
  obtain ⟨tt, pt, hc⟩ := hc
  obtain ⟨te, pe, hg⟩ := hg
  exact ⟨_, fun X hX => pe_lc (S.calm X hX) (by rw [S.hN X hX]; exact hnd) (pi X hX) (ok X hX) (fun s H C cl fp => pg _ ⟨X, s, H, C, cl, fp, hX, rfl⟩) (fun s H C cl fp => pt _ ⟨X, s, H, C, cl, fp, hX, rfl⟩) (fun s H C cl fp => pe _ ⟨X, s, H, C, cl, fp, hX, rfl⟩) (hs X hX),
    fun G ρ σ H B R => lc_run hi ht hc hg hu hw R⟩
/-- y = [..] -/
theorem st_setLc {C : Ctl} {lv : List Bool} {elt tg iter : Expr} {ifs : List Expr} {scope : Scope} {oc : List (Str × Nat)} {pos spos py : Pos} {y : Str} {it : M (List D)} {b : Bd} {c : M Bool} {g : M D} (S : Sx F K mg N vis gl k) (L : Lx F N lv) (i : Nat) (hy : ∀ X, F X → X.env.scope.names.lookup y = some .local)
    (ok : ∀ X, F X → BlkOk X.N X.env.scope scope oc) (hi : IT F K C.Z own tg iter it) (ht : TGd (blkF F scope) K own own1 tg (oc.map (·.2)) b) (hc : ETs (blkF F scope) K (Z0 own) own1 ifs c) (hg : EX (blkF F scope) K (Z0 own) own1 elt g) (hu : ∀ i ∈ oc.map (·.2), own[i]? = some .U)
    (hsw : ∀ X, F X → swapsWith (.ListComp elt [⟨tg, iter, ifs, 0⟩] scope pos) (some (.Name y py)) spos.line X.env = pure true) (hN : N[i]? = some y := by rfl) (ho : own.set i .L = own' := by rfl) (hw : leB own own1 = true := by rfl)
    (hs : ∀ X, F X → ∀ x, foldedSetIterable iter X.env x = pure x := by intro _ _ _; rfl) : ST F K C own (.Assign [.Name y py] (.ListComp elt [⟨tg, iter, ifs, 0⟩] scope pos) spos) (setLS i (lcD b it c g (oc.map (·.2)))) own' := by
  obtain ⟨wi, pi, hi⟩ := hi
  obtain ⟨gt, pg, ht⟩ := ht
  obtain ⟨tt, pt, hc⟩ := hc
  obtain ⟨te, pe, hg⟩ := hg
  subst ho
  exact ⟨_, fun X hX => ps_setLc (i := i) (S.calm X hX) (by rw [S.hN X hX]; exact L.nd) (by rw [S.hN X hX]; exact hN) (hy X hX) (hsw X hX) (pi X hX) (ok X hX) (fun s H C cl fp => pg _ ⟨X, s, H, C, cl, fp, hX, rfl⟩) (fun s H C cl fp => pt _ ⟨X, s, H, C, cl, fp, hX, rfl⟩) (fun s H C cl fp => pe _ ⟨X, s, H, C, cl, fp, hX, rfl⟩) (hs X hX),
    fun G ρ σ H B R => SRun.ofE (p2 := fun v H1 E => E.nx (σ.set i (some v)) H1) (lc_run hi ht hc hg hu hw R) fun d ρ1 v H1 B1 _ e R1 l E hE => hE _ H1 B1 Ex.rfl (R1.setL l)⟩
end
end MP
namespace MP
open PySem L2
/-! ### defs: promises by functions of data -/
abbrev FV := List D → Option D
abbrev FRf := List D → List D → Option (D × List D)
/-- what is given is given back; n arguments -/
def spV (K : PySem.W.Frag) (n : Nat) (f : FV) : Sp := fun vs H Q _ => ∃ B ds d, vs.length = n ∧ (Ex B H ∧ TabK K H B) ∧ Reps K B vs ds ∧ f ds = some d ∧ ∀ v H' B', New K B H B' H' → Rep K B' v d → Q v H'
/-- H' is H but for the thing at a and the tables -/
structure Chg (a : Addr) (H H' : Hp) : Prop where
  h : ∀ b o, H b = some o → ¬ Root H a b → isTb o = false → H' b = some o
  dm : ∀ b o, H b = some o → ∃ o', H' b = some o'
  tk : TabsK H H'
  rt : ∀ b, Root H' a b → Root H a b ∨ H b = none
/-- a function of a thing that is changed, and data -/
abbrev FMf := D → List D → Option (D × D)
/-- of the same kind -/
def SameK (d0 d1 : D) : Prop := ((∃ ds, d0 = .lst ds) → ∃ ds, d1 = .lst ds) ∧ ((∃ c fs, d0 = .ins c fs) → ∃ c fs, d1 = .ins c fs)
/-- the first argument is a thing that is changed -/
def spM (K : PySem.W.Frag) (n : Nat) (f : FMf) : Sp := fun vs H Q _ => ∃ B a ws d0 ds d d1, vs.length = n ∧ vs = .ref a :: ws ∧ (Ex B H ∧ TabK K H B) ∧ MOk K H B a d0 ∧ Reps K B ws ds ∧ f d0 ds = some (d, d1) ∧
  ∀ v H' B', Ex B B' → Ex B' H' → Chg a H H' → TabK K H' B' → (∀ b o, H b = some o → B' b = B b) → MOk K H' B' a d1 → SameK d0 d1 → Rep K B' v d → Q v H'
def liftR (f : FRf) : FMf := fun d ds => match d with
  | .lst rs => (f rs ds).map fun p => (p.1, .lst p.2)
  | _ => none
/-- the first argument is a list that is changed -/
abbrev spR (K : PySem.W.Frag) (n : Nat) (f : FRf) : Sp := spM K n (liftR f)
/-- the contexts of a body that lets no exception out; C: what is known of its code value -/
def bodyG (C : Value → Prop) (P : Program) (w : World) (K : PySem.W.Frag) (mg : Str → Option Value) (base : Heap) (N : List Str) (qual : Str) (scope : Scope) (f : Addr) (k : Nat) : CF := fun X =>
  ∃ cdv A outer s H E, (Room k (A.deeper (PyProof.Rows.envOfC qual scope s.heap.objs.size f cdv)) ∧ C cdv) ∧ X = (cxOf CX0 P w K mg base N qual scope f cdv A outer s H E).nox
/-- the code value of the def at f -/
def cdIs (K : PySem.W.Frag) (f : Addr) (cdv : Value) : Prop := ∃ (oc : Value) (od : Option Addr) (fd : FuncData) (osl : Array (Option Value)), K.lookup f = some ⟨oc, od, .func fd, osl⟩ ∧ fd.code = cdv ∧ ∃ c, cdv = .ref c
/-- .. of a def's body -/
abbrev bodyF (P : Program) (w : World) (K : PySem.W.Frag) (mg : Str → Option Value) (base : Heap) (N : List Str) (qual : Str) (scope : Scope) (f : Addr) (k : Nat) : CF := bodyG (cdIs K f) P w K mg base N qual scope f k
def startD (n : Nat) (ds : List D) : Env := ds ++ List.replicate (n - ds.length) .non
def endV : SRes → Option D
  | .nx _ => some .non
  | .rt d _ => some d
  | _ => none
def runV (n m : Nat) (g : SM) : FV := fun ds => if ds.length = m then endV (g (startD n ds)) else none
theorem runV_ar {n m : Nat} {g : SM} {ds : List D} {d : D} (h : runV n m g ds = some d) : ds.length = m := by
  unfold runV at h
  split at h
  · assumption
  · cases h
def backR (d : D) (ρ : Env) : Option (D × List D) := match look ρ 0 with
  | .lst rs => some (d, rs)
  | _ => none
def endR : SRes → Option (D × List D)
  | .nx ρ => backR .non ρ
  | .rt d ρ => backR d ρ
  | _ => none
def runR (n m : Nat) (g : SM) : FRf := fun rs ds => if ds.length = m then endR (g (startD n (.lst rs :: ds))) else none
theorem runR_ar {n m : Nat} {g : SM} {rs ds : List D} {d : D × List D} (h : runR n m g rs ds = some d) : ds.length = m := by
  unfold runR at h
  split at h
  · assumption
  · cases h
def endM : SRes → Option (D × D)
  | .nx ρ => some (.non, look ρ 0)
  | .rt d ρ => some (d, look ρ 0)
  | _ => none
def runM (n m : Nat) (g : SM) : FMf := fun d0 ds => if ds.length = m then endM (g (startD n (d0 :: ds))) else none
theorem runM_ar {n m : Nat} {g : SM} {d0 : D} {ds : List D} {d : D × D} (h : runM n m g d0 ds = some d) : ds.length = m := by
  unfold runM at h
  split at h
  · assumption
  · cases h
theorem backR_M {d : D} {ρ : Env} {q : D × List D} (h : backR d ρ = some q) : (q.1, D.lst q.2) = (d, look ρ 0) := by
  unfold backR at h
  cases hl : look ρ 0 with
  | lst rs => rw [hl] at h; cases h; rfl
  | _ => rw [hl] at h; cases h
theorem liftR_runM {n m : Nat} {g : SM} {d0 : D} {ds : List D} {r : D × D} (h : liftR (runR n m g) d0 ds = some r) : runM n m g d0 ds = some r := by
  cases d0 with
  | lst rs =>
    obtain ⟨q, e, rfl⟩ := Option.map_eq_some_iff.mp (show (runR n m g rs ds).map (fun p => (p.1, D.lst p.2)) = some r from h)
    unfold runR at e
    unfold runM
    split at e
    · rename_i hl
      rw [if_pos hl]
      cases hg : g (startD n (.lst rs :: ds)) with
      | nx ρ => rw [hg] at e; rw [backR_M e]; rfl
      | rt d ρ => rw [hg] at e; rw [backR_M e]; rfl
      | _ => rw [hg] at e; cases e
    · cases e
  | _ => cases h
def ownV (n m : Nat) : List Stt := List.replicate m .V ++ List.replicate (n - m) .U
def ownX (s : Stt) (n m : Nat) : List Stt := s :: (List.replicate m .V ++ List.replicate (n - (m + 1)) .U)
def roV (n : Nat) : List Stt := List.replicate n .U
abbrev ownR (n m : Nat) : List Stt := ownX .R n m
abbrev ownM (n m : Nat) : List Stt := ownX .M n m
def roX (s : Stt) (n : Nat) : List Stt := s :: List.replicate (n - 1) .U
abbrev roR (n : Nat) : List Stt := roX .R n
abbrev roM (n : Nat) : List Stt := roX .M n
abbrev ctlV (n : Nat) : Ctl := ⟨Z0 (roV n), roV n, roV n⟩
abbrev ctlX (s : Stt) (n : Nat) : Ctl := ⟨Z0 (roV n), roV n, roX s n⟩
abbrev ctlR (n : Nat) : Ctl := ctlX .R n
abbrev ctlM (n : Nat) : Ctl := ctlX .M n
/-- handed in -/
def Stt.rfd : Stt → Bool
  | .R | .M => true
  | _ => false
section
variable {P : Program} {w : World} {K : PySem.W.Frag} {mg : Str → Option Value} {base : Heap} {x qual : Str} {params : Arguments} {body : List Stmt} {scope : Scope} {dvs : List V} {kws : List (Str × V)} {f : Addr} {fd : FuncData} {N ps : List Str} {k : Nat}
theorem rel_startV {H B : Hp} {vs : List V} {ds : List D} {n : Nat} (bh : Ex B H) (tb : TabK K H B) (r : Reps K B vs ds) (hn : vs.length ≤ N.length) (hm : vs.length = n) : Rel K ⟨H, B, fun _ => False, fun _ => none, none, none⟩ (ownV N.length n) (startD N.length ds) (L2.start N vs) H B := by
  have hl := r.len
  refine ⟨⟨bh, fun _ _ e => (nomatch e), fun _ _ e => (nomatch e), Ex.rfl, fun _ _ e _ _ => e, fun a o e => ⟨o, e⟩, fun _ _ _ => rfl, fun _ _ e => (nomatch e), TabsK.rfl, tb⟩, ?_, ?_, fun i st h => ?_, fun i j si sj a hi hj oi _ _ _ => ?_⟩
  · simp [startD, ownV]; omega
  · simp [L2.start, ownV]; omega
  · unfold ownV at h
    by_cases hi : i < n
    · rw [List.getElem?_append_left (by simpa using hi), List.getElem?_replicate, if_pos hi] at h
      cases h
      have hd : i < ds.length := by omega
      obtain ⟨v, hv, rv⟩ := r.get (List.getElem?_eq_getElem hd)
      refine ⟨v, ?_, ?_⟩
      · unfold L2.start
        rw [List.getElem?_append_left (by simp; omega), List.getElem?_map, hv]
        rfl
      · unfold look startD
        rw [List.getD_eq_getElem?_getD, List.getElem?_append_left hd, List.getElem?_eq_getElem hd]
        exact rv
    · rw [List.getElem?_append_right (by simpa using hi), List.getElem?_replicate] at h
      split at h
      · cases h; trivial
      · cases h
  · unfold ownV at hi
    by_cases hi' : i < n
    · rw [List.getElem?_append_left (by simpa using hi'), List.getElem?_replicate, if_pos hi'] at hi
      cases hi; cases oi
    · rw [List.getElem?_append_right (by simpa using hi'), List.getElem?_replicate] at hi
      split at hi
      · cases hi; cases oi
      · cases hi
theorem FunD.okC {CX : CXT} {sp : Sp} (Fd : FunD K x qual params body scope dvs kws f fd) (S : FnScope N ps scope) (len : ∀ vs H Q E, sp vs H Q E → vs.length = ps.length)
    (hb : ∀ (cdv : Value) (A : Around) (outer : List PySem.Env) (s : Shared) (H : Hp) (vs : List V) (Q : VK) (E : XK), cdIs K f cdv → Room k (A.deeper (PyProof.Rows.envOfC qual scope s.heap.objs.size f cdv)) → sp vs H Q E →
      ∃ t, PSs (cxOf CX P w K mg base N qual scope f cdv A outer s H E) body t ∧ t { nx := fun _ H' => Q .non H', rt := Q } (L2.start N vs) H) : FnOk P w K mg base CX (k + 1) f fd ps sp := by
  obtain ⟨oc, od, dV, kV, doc, pm, an, cdv, ct, osl, e, lk, hcd, _, _⟩ := Fd.ex
  have hc : cdIs K f cdv := ⟨oc, od, fd, osl, lk, by rw [e], (by
    unfold PySem.W.codeIn at hcd
    split at hcd
    · exact ⟨_, rfl⟩
    · cases hcd)⟩
  subst e
  exact fn_of lk hcd S len fun A outer s H vs Q E hr hsp => hb cdv A outer s H vs Q E hc hr hsp
theorem fn_V {g : SM} {own' : List Stt} (Fd : FunD K x qual params body scope dvs kws f fd) (S : FnScope N ps scope) (h : STs (bodyF P w K mg base N qual scope f k) K (ctlV N.length) (ownV N.length ps.length) body g own') : FnOk P w K mg base CX0 (k + 1) f fd ps (spV K ps.length (runV N.length ps.length g)) := by
  obtain ⟨t, pt, h⟩ := h
  have hpl : ps.length ≤ N.length := by
    have := congrArg List.length S.pre
    rw [List.length_take] at this
    omega
  refine FunD.okC Fd S (fun vs H Q E ⟨B, ds, d, hl, _⟩ => hl) fun cdv A outer s H vs Q E hc hr ⟨B, ds, d, hl, ⟨bh, tb⟩, rs, hf, q⟩ => ⟨t, (pt _ ⟨cdv, A, outer, s, H, E, ⟨hr, hc⟩, rfl⟩).nox, ?_⟩
  refine h _ _ _ H B (rel_startV (N := N) bh tb rs (by omega) hl) _ ?_
  have fin : ∀ {own : List Stt} {ρ : Env} {σ : L2.St} {H' B' : Hp}, Ex B B' → Rel K ⟨H, B, fun _ => False, fun _ => none, none, none⟩ own ρ σ H' B' → New K B H B' H' := fun e R => ⟨e, fun a o q n => R.keep.fr a o q id n, R.keep.dom, R.keep.bh, fun a o q => R.keep.old a o q, R.keep.tk, fun _ => R.keep.tab.th, fun _ => R.keep.tab.nb⟩
  unfold runV at hf
  rw [if_pos (by rw [← rs.len]; exact hl)] at hf
  cases hg : g (startD N.length ds) with
  | nx ρ => rw [hg] at hf; cases hf; exact fun σ' H' B' e R => q _ H' B' (fin e R) .non
  | rt d' ρ => rw [hg] at hf; cases hf; exact fun v σ' H' B' e R r => q _ H' B' (fin e R) r
  | bk ρ => rw [hg] at hf; cases hf
  | ct ρ => rw [hg] at hf; cases hf
  | ex c fs ρ => rw [hg] at hf; cases hf
  | bad => rw [hg] at hf; cases hf
theorem rel_startM {H B : Hp} {a : Addr} {vs : List V} {d0 : D} {ds : List D} {n : Nat} {s0 : Stt} (bh : Ex B H) (tb : TabK K H B) (la : MOk K H B a d0) (hs0 : s0.rfd = true) (kd : s0.kind d0) (r : Reps K B vs ds) (hn : vs.length + 1 ≤ N.length) (hm : vs.length = n) :
    Rel K ⟨H, B, Root H a, fun _ => none, none, some a⟩ (ownX s0 N.length n) (startD N.length (d0 :: ds)) (L2.start N (.ref a :: vs)) H B := by
  have hl := r.len
  have key : ∀ (i : Nat) (si : Stt), (ownX s0 N.length n)[i]? = some si → si.own = true → i = 0 := fun i si hi oi => by
    cases i with
    | zero => rfl
    | succ i =>
      have hi' : (List.replicate n Stt.V ++ List.replicate (N.length - (n + 1)) Stt.U)[i]? = some si := hi
      by_cases hlt : i < n
      · rw [List.getElem?_append_left (by simpa using hlt), List.getElem?_replicate, if_pos hlt] at hi'
        cases hi'; cases oi
      · rw [List.getElem?_append_right (by simpa using hlt), List.getElem?_replicate] at hi'
        split at hi'
        · cases hi'; cases oi
        · cases hi'
  refine ⟨⟨bh, fun _ _ e => (nomatch e), fun _ _ e => (nomatch e), Ex.rfl, fun _ _ e _ _ => e, fun a o e => ⟨o, e⟩, fun _ _ _ => rfl, fun _ _ e => (nomatch e), TabsK.rfl, tb⟩, ?_, ?_, fun i st h => ?_, fun i j si sj b hi hj oi oj _ _ => (key i si hi oi).trans (key j sj hj oj).symm⟩
  · simp [startD, ownX]; omega
  · simp [L2.start, ownX]; omega
  · cases i with
    | zero =>
      cases h
      have os : s0.own = true := by cases s0 <;> first | rfl | cases hs0
      have ns : ¬ s0.fsh = true := by cases s0 <;> first | (cases hs0; done) | decide
      exact (SlotOk.split os).mpr ⟨by rw [if_neg ns]; exact ⟨a, rfl, la, fun b r => ⟨rfl, .inr r⟩, rfl⟩, kd⟩
    | succ i =>
      have h' : (List.replicate n Stt.V ++ List.replicate (N.length - (n + 1)) Stt.U)[i]? = some st := h
      by_cases hi : i < n
      · rw [List.getElem?_append_left (by simpa using hi), List.getElem?_replicate, if_pos hi] at h'
        cases h'
        have hd : i < ds.length := by omega
        obtain ⟨v, hv, rv⟩ := r.get (List.getElem?_eq_getElem hd)
        refine ⟨v, ?_, ?_⟩
        · unfold L2.start
          rw [List.getElem?_append_left (by simp; omega), List.getElem?_map, List.getElem?_cons_succ, hv]
          rfl
        · unfold look startD
          rw [List.getD_eq_getElem?_getD, List.getElem?_append_left (by simp; omega), List.getElem?_cons_succ, List.getElem?_eq_getElem hd]
          exact rv
      · rw [List.getElem?_append_right (by simpa using hi), List.getElem?_replicate] at h'
        split at h'
        · cases h'; trivial
        · cases h'
theorem kind_same {s0 : Stt} {d0 d1 : D} (h : s0.rfd = true) (k0 : s0.kind d0) (k1 : s0.kind d1) : SameK d0 d1 := by
  cases s0 with
  | R => exact ⟨fun _ => k1, fun ⟨c, fs, e⟩ => by obtain ⟨ds, e2⟩ := k0; rw [e] at e2; cases e2⟩
  | M => exact ⟨fun ⟨ds, e⟩ => (by obtain ⟨c, fs, e2⟩ := k0; rw [e] at e2; cases e2), fun _ => k1⟩
  | _ => cases h
theorem fn_Mg {g : SM} {own' : List Stt} {m : Nat} {ff : FMf} (s0 : Stt) (hs0 : s0.rfd = true) (Fd : FunD K x qual params body scope dvs kws f fd) (S : FnScope N ps scope) (hps : ps.length = m + 1) (h : STs (bodyF P w K mg base N qual scope f k) K (ctlX s0 N.length) (ownX s0 N.length m) body g own') (ho : leB (roX s0 N.length) own' = true) (hff : ∀ d0 ds r, ff d0 ds = some r → s0.kind d0 ∧ runM N.length m g d0 ds = some r) :
    FnOk P w K mg base CX0 (k + 1) f fd ps (spM K ps.length ff) := by
  obtain ⟨t, pt, h⟩ := h
  have hpl : ps.length ≤ N.length := by
    have := congrArg List.length S.pre
    rw [List.length_take] at this
    omega
  refine FunD.okC Fd S (fun vs H Q E ⟨B, a, ws, rs, ds, d, rs', hl, _⟩ => hl) fun cdv A outer s H vs Q E hc hr ⟨B, a, ws, d0, ds, d, d1, hl, hv, ⟨bh, tb⟩, la, rws, hf0, q⟩ => ⟨t, (pt _ ⟨cdv, A, outer, s, H, E, ⟨hr, hc⟩, rfl⟩).nox, ?_⟩
  subst hv
  have hw : ws.length = m := by simp at hl; omega
  obtain ⟨kd, hf⟩ := hff _ _ _ hf0
  refine h _ _ _ H B (rel_startM (N := N) bh tb la hs0 kd rws (by omega) hw) _ ?_
  have fin : ∀ {ρ : Env} {σ : L2.St} {H' B' : Hp} {d' : D} {v : V}, some (d', look ρ 0) = some (d, d1) → Ex B B' → Rel K ⟨H, B, Root H a, fun _ => none, none, some a⟩ (roX s0 N.length) ρ σ H' B' → Rep K B' v d' → Q v H' := fun {ρ σ H' B' d' v} hb e R r => by
    have os : s0.own = true := by cases s0 <;> first | rfl | cases hs0
    have ns : ¬ s0.fsh = true := by cases s0 <;> first | (cases hs0; done) | decide
    have sl := ((SlotOk.split os).mp (R.slot 0 s0 rfl)).1
    have kd1 := ((SlotOk.split os).mp (R.slot 0 s0 rfl)).2
    rw [if_neg ns] at sl
    obtain ⟨a', e1, l, rt, mem⟩ := sl
    cases mem
    cases hb
    exact q v H' B' e R.keep.bh ⟨fun b o hb hne nt => R.keep.fr b o hb hne nt, R.keep.dom, R.keep.tk, fun b r => (rt b r).2.elim .inr .inl⟩ R.keep.tab (fun b o hb => R.keep.old b o hb) l (kind_same hs0 kd kd1) r
  unfold runM at hf
  rw [if_pos (by rw [← rws.len]; exact hw)] at hf
  cases hg : g (startD N.length (d0 :: ds)) with
  | nx ρ => rw [hg] at hf; exact fun σ' H' B' e R => fin hf e (R.less ho) .non
  | rt d' ρ => rw [hg] at hf; exact fun v σ' H' B' e R r => fin hf e R r
  | bk ρ => rw [hg] at hf; cases hf
  | ct ρ => rw [hg] at hf; cases hf
  | ex c fs ρ => rw [hg] at hf; cases hf
  | bad => rw [hg] at hf; cases hf
theorem fn_R {g : SM} {own' : List Stt} {m : Nat} (Fd : FunD K x qual params body scope dvs kws f fd) (S : FnScope N ps scope) (hps : ps.length = m + 1) (h : STs (bodyF P w K mg base N qual scope f k) K (ctlR N.length) (ownR N.length m) body g own') (ho : leB (roR N.length) own' = true) :
    FnOk P w K mg base CX0 (k + 1) f fd ps (spR K ps.length (runR N.length m g)) := fn_Mg .R rfl Fd S hps h ho fun d0 ds r q => by
      refine ⟨?_, liftR_runM q⟩
      cases d0 with
      | lst rs => exact ⟨rs, rfl⟩
      | _ => cases q
/-- of instances alone -/
def onIns (f : FMf) : FMf := fun d ds => match d with
  | .ins c fs => f (.ins c fs) ds
  | _ => none
theorem fn_M {g : SM} {own' : List Stt} {m : Nat} (Fd : FunD K x qual params body scope dvs kws f fd) (S : FnScope N ps scope) (hps : ps.length = m + 1) (h : STs (bodyF P w K mg base N qual scope f k) K (ctlM N.length) (ownM N.length m) body g own') (ho : leB (roM N.length) own' = true) :
    FnOk P w K mg base CX0 (k + 1) f fd ps (spM K ps.length (onIns (runM N.length m g))) := fn_Mg .M rfl Fd S hps h ho fun d0 ds r q => by
      cases d0 with
      | ins c fs => exact ⟨⟨c, fs, rfl⟩, q⟩
      | _ => cases q
end
/-! ### calls -/
structure Fam (F : CF) (P : Program) (w : World) (base : Heap) : Prop where
  hP : ∀ X, F X → X.prog = P
  hw : ∀ X, F X → X.w = w
  hb : ∀ X, F X → X.base = base
section
variable {F : CF} {K : PySem.W.Frag} {mg : Str → Option Value} {Z : XC} {own own1 own' : List Stt} {N : List Str} {vis : List Bool} {gl : List Str} {k : Nat} {P : Program} {w : World} {base : Heap} {ps : List Str} {f : Addr} {fd : FuncData}
theorem fnAt (A : Fam F P w base) (S : Sx F K mg N vis gl k) {X : Cx} (hX : F X) {CX : CXT} {j : Nat} {sp : Sp} (G : FnOk P w K mg base CX j f fd ps sp) : FnOk X.prog X.w X.K X.mg X.base CX j f fd ps sp := by
  rw [A.hP X hX, A.hw X hX, A.hb X hX, S.hK X hX, S.hmg X hX]; exact G
/-- what a caller knows of a def -/
structure FnV (P : Program) (w : World) (K : PySem.W.Frag) (mg : Str → Option Value) (base : Heap) (x : Str) (f : Addr) (fd : FuncData) (ps : List Str) (j : Nat) (ff : FV) : Prop where
  ok : FnOk P w K mg base CX0 j f fd ps (spV K ps.length ff)
  ar : ∀ ds d, ff ds = some d → ds.length = ps.length
  mg : mg x = some (.ref f)
  kp : PySem.W.keepIn K (.ref f) = true
  bd : Binds K fd ps []
structure FnRr (P : Program) (w : World) (K : PySem.W.Frag) (mg : Str → Option Value) (base : Heap) (x : Str) (f : Addr) (fd : FuncData) (ps : List Str) (j : Nat) (ff : FRf) : Prop where
  ok : FnOk P w K mg base CX0 j f fd ps (spR K ps.length ff)
  ar : ∀ rs ds d, ff rs ds = some d → ds.length + 1 = ps.length
  mg : mg x = some (.ref f)
  kp : PySem.W.keepIn K (.ref f) = true
  bd : Binds K fd ps []
theorem ex_callV (A : Fam F P w base) (S : Sx F K mg N vis gl k) (i : Nat) {j : Nat} {ff : FV} {x : Str} {p pos : Pos} {e : Expr} {es : List Expr} {g : M (List D)} (G : FnV P w K mg base x f fd ps j ff) (ha : EXs F K Z own (e :: es) g) (hj : j ≤ k := by decide)
    (hg : gl[i]? = some x := by rfl) (hs : ∀ X, F X → starEach (e :: es) X.env = (false, eval e X.env) :: starEach es X.env := by intro _ _; rfl) (hs2 : ∀ X, F X → ((backTo pos (starEach es X.env)).any fun q => q.1) = false := by intro _ _; rfl) :
    EX F K Z own (.Call (.Name x p) (e :: es) [] pos) (callD ff g) := by
  obtain ⟨ta, pa, ha⟩ := ha
  refine ⟨_, fun X hX => let ⟨g1, g2, g3⟩ := S.gl X hX i x hg; pe_call (fnAt A S hX G.ok) ((S.room X hX).mono hj) g1 (by rw [S.hmg X hX]; exact G.mg) (by rw [S.hK X hX]; exact G.kp) (by rw [S.hK X hX]; exact G.bd) (ds := []) (dvs := []) .nil (pass0 (X := X)) (pa X hX) g2 (hs X hX) (hs2 X hX), fun G' ρ σ H B R => ?_⟩
  refine Run.thn (p2 := fun vs H1 Q => spV K ps.length ff (vs ++ []) H1 Q E0) (ha G' ρ σ H B R) fun ds ρ1 vs H1 B1 _ e R1 l => ?_
  refine Run.prim R1 ?_
  cases hf : ff ds with
  | none => trivial
  | some d => exact fun Q q => ⟨B1, ds, d, by simp [l.len, G.ar ds d hf], ⟨R1.keep.bh, R1.keep.tab⟩, by simpa using l, hf, q⟩
def callR (ff : FRf) (j : Nat) (g : M (List D)) : M D := bnd g fun ds ρ => match look ρ j with
  | .lst rs => (match ff rs ds with
    | some (d, rs') => .ok d (ρ.set j (.lst rs'))
    | none => .bad)
  | _ => .bad
/-- a thing of slot j has been changed -/
theorem Rel.changedG {G : Gam} {ρ : Env} {σ : L2.St} {H B H' B' : Hp} (R : Rel K G own ρ σ H B) {j : Nat} {st : Stt} {a : Addr} {d1 : D} (hj : own[j]? = some st) (hs : st.own = true) (ha : (σ[j]?).join = some (.ref a)) (e1 : Ex B B') (e2 : Ex B' H') (c1 : ∀ b o, H b = some o → ¬ Root H a b → isTb o = false → H' b = some o) (c2 : ∀ b o, H b = some o → ∃ o', H' b = some o') (c3 : TabsK H H') (c4 : ∀ b, Root H' a b → Root H a b ∨ ((G.pr b = none ∧ G.H b = none) ∧ NoRt own σ H b)) (tb : TabK K H' B')
    (e4 : ∀ b o, H b = some o → B' b = B b) (la : MOk K H' B' a d1) (fu : st.fsh = true → Full d1) (kd : st.kind d1) (nI : (∃ rs rs', look ρ j = .lst rs ∧ d1 = .lst rs') ∨ noI own) : Rel K G own (ρ.set j d1) σ H' B' := by
  have hl := R.own_lt hj
  have slotj := R.slot j st hj
  obtain ⟨a', ea', m, gm⟩ := slotj.mok hs
  rw [ha] at ea'
  cases ea'
  -- what is no part of the thing of slot j stays
  have oth : ∀ (i : Nat) (si : Stt), own[i]? = some si → si.own = true → i ≠ j → ∀ b o, Rt H (σ[i]?).join b → H b = some o → isTb o = false → H' b = some o := fun i si hi oi ne b o rt e nt =>
    c1 b o e (fun z => ne (R.sep i j si st b hi hj oi hs rt ⟨a, ha, z⟩)) nt
  have prt : ∀ b o, G.pr b = some o → ¬ Root H a b := fun b o q z => by rw [(gm b z).1] at q; cases q
  refine ⟨⟨e2, fun b o q => ?_, fun b o q => ?_, R.keep.b0.trans e1, fun b o q nb nt => ?_, fun b o q => ?_, fun b o q => ?_, R.keep.prn, R.keep.tk.trans c3, tb⟩, by simpa using R.lr, R.ls, fun i si hi => ?_, fun i k si sk b hi hk oi ok ei ek => ?_⟩
  · exact c1 b o (R.keep.pr b o q) (prt b o q) (R.keep.prn b o q)
  · rw [e4 b o (R.keep.pr b o q)]; exact R.keep.prb b o q
  · refine c1 b o (R.keep.fr b o q nb nt) (fun z => ?_) nt
    rcases (gm b z).2 with h0 | h0
    · rw [h0] at q; cases q
    · exact nb h0
  · obtain ⟨o', q'⟩ := R.keep.dom b o q
    exact c2 b o' q'
  · obtain ⟨o', q'⟩ := R.keep.dom b o q
    rw [e4 b o' q']; exact R.keep.old b o q
  · rw [look_set (by rw [R.lr]; exact hl)]
    by_cases e : i = j
    · subst e
      rw [if_pos rfl]
      rw [hj] at hi
      cases hi
      exact SlotOk.keepF slotj hs ha la fu (fun _ => kd) (fun b r => (c4 b r).imp id fun z => z.1) fun _ _ q => q
    · rw [if_neg e]
      have x := R.slot i si hi
      have own1 : si.own = true → SlotOk K G H' B' si (σ[i]?).join (look ρ i) := fun os => by
        obtain ⟨y, ey, my, _⟩ := x.mok os
        have k : ∀ b o, Root H y b → H b = some o → H' b = some o := fun b o rt q => by
          obtain ⟨⟨o', q', p⟩, _⟩ := my.has rt
          rw [q] at q'; cases q'
          exact oth i si hi os e b o ⟨y, ey, rt⟩ q p.1
        refine SlotOk.keep x os ey (my.stay k e1 fun b rt => ?_) id id (fun b q => .inl ((my.same (k y · .self)).mp q)) fun _ _ q => q
        obtain ⟨⟨o', q', _⟩, bb⟩ := my.has rt
        rw [e4 b o' q']; exact bb
      cases si with
      | U => trivial
      | V => obtain ⟨x, q1, q2⟩ := x; exact ⟨x, q1, q2.mono e1⟩
      | L => exact own1 rfl
      | R => exact own1 rfl
      | O => exact own1 rfl
      | M => exact own1 rfl
      | K => exact own1 rfl
      | T => exact own1 rfl
      | I =>
        rcases nI with ⟨rs, rs', hlr, _⟩ | nI
        · obtain ⟨y, dx, c, us, fs, q1, q2, q3, q5⟩ := x
          rw [hlr] at m
          obtain ⟨vl, hvl, _⟩ := id m
          obtain ⟨n1, n2⟩ := q3.nl hvl
          obtain ⟨⟨w1, h1⟩, w2, h2⟩ := q3.xs
          have nr : ∀ b, b ≠ a → ¬ Root H a b := fun b hb z => hb (CellOk.root (K := K) (B := B) (d := .lst rs) m z)
          exact ⟨y, dx, c, us, fs, q1, q2, q3.stay (fun q z => c1 _ _ z (nr _ n1) (q3.nt.1 q z)) (fun q z => c1 _ _ z (nr _ n2) (q3.nt.2 q z)) e1 (by rw [e4 _ _ h1]; exact q3.bx) (by rw [e4 _ _ h2]; exact q3.bd), q5⟩
        · exact absurd hi (nI i)
  · -- apart
    have back : ∀ (i : Nat) (si : Stt), own[i]? = some si → si.own = true → i ≠ j → Rt H' (σ[i]?).join b → Rt H (σ[i]?).join b := fun i si hi oi ne rt => R.back hi oi (fun x o ex e p => oth i si hi oi ne x o ⟨x, ex, .self⟩ e p.1) rt
    have atj : Rt H' (σ[j]?).join b → Rt H (σ[j]?).join b ∨ NoRt own σ H b := fun ⟨x, ex, rt⟩ => by
      rw [ha] at ex; cases ex
      exact (c4 b rt).imp (fun z => ⟨a, ha, z⟩) fun z => z.2
    have no : ∀ (i : Nat) (si : Stt), own[i]? = some si → si.own = true → Rt H (σ[i]?).join b → NoRt own σ H b → False := fun i si hi oi rt z => z i si hi oi rt
    by_cases zi : i = j
    · subst zi
      by_cases zk : k = i
      · exact zk.symm
      · have r1 := back k sk hk ok zk ek
        rcases atj ei with r2 | r2
        · exact R.sep i k si sk b hi hk oi ok r2 r1
        · exact (no k sk hk ok r1 r2).elim
    · have r1 := back i si hi oi zi ei
      by_cases zk : k = j
      · subst zk
        rcases atj ek with r2 | r2
        · exact R.sep i k si sk b hi hk oi ok r1 r2
        · exact (no i si hi oi r1 r2).elim
      · exact R.sep i k si sk b hi hk oi ok r1 (back k sk hk ok zk ek)
theorem Rel.changed {G : Gam} {ρ : Env} {σ : L2.St} {H B H' B' : Hp} (R : Rel K G own ρ σ H B) {j : Nat} {st : Stt} {a : Addr} {d1 : D} (hj : own[j]? = some st) (hs : st.own = true) (ha : (σ[j]?).join = some (.ref a)) (e1 : Ex B B') (e2 : Ex B' H') (e3 : Chg a H H') (tb : TabK K H' B')
    (e4 : ∀ b o, H b = some o → B' b = B b) (la : MOk K H' B' a d1) (fu : st.fsh = true → Full d1) (kd : st.kind d1) (nI : (∃ rs rs', look ρ j = .lst rs ∧ d1 = .lst rs') ∨ noI own) : Rel K G own (ρ.set j d1) σ H' B' :=
  R.changedG hj hs ha e1 e2 e3.h e3.dm e3.tk (fun b r => (e3.rt b r).imp id fun z => R.free z) tb e4 la fu kd nI
theorem Rel.ownAt {G : Gam} {ρ : Env} {σ : L2.St} {H B : Hp} (R : Rel K G own ρ σ H B) {j : Nat} {st : Stt} (hj : own[j]? = some st) (hs : st.isL = true) : ∃ a rs, (σ[j]?).join = some (.ref a) ∧ look ρ j = .lst rs ∧ LstOk K H B a rs := by
  obtain ⟨a, e, m, _⟩ := (R.slot j st hj).mok (Stt.isL_own hs)
  obtain ⟨rs, er⟩ : ∃ ds, look ρ j = .lst ds := by
    have := (R.slot j st hj).knd (Stt.isL_own hs)
    cases st with
    | L => exact this
    | R => exact this
    | _ => cases hs
  rw [er] at m
  exact ⟨a, rs, e, er, m⟩
theorem kind_lst {st : Stt} (h : st.isL = true) (ds : List D) : st.kind (.lst ds) := by
  cases st with
  | L => exact ⟨ds, rfl⟩
  | R => exact ⟨ds, rfl⟩
  | _ => cases h
theorem Root.lst {H : Hp} {a b : Addr} {vs : List V} (h : H a = some (.lst vs)) (r : Root H a b) : b = a := by
  rcases r with r | ⟨_, _, _, e, _⟩
  · exact r
  · rw [h] at e; cases e
/-- f(x, ..), x a list that f changes -/
theorem ex_callR (A : Fam F P w base) (S : Sx F K mg N vis gl k) (i m : Nat) {st : Stt} {j : Nat} {ff : FRf} {x y : Str} {p py pos : Pos} {es : List Expr} {g : M (List D)} (G : FnRr P w K mg base x f fd ps j ff) (ha : EXs F K Z own es g) (hj : j ≤ k := by decide)
    (hg : gl[i]? = some x := by rfl) (hN : N[m]? = some y := by rfl) (hv : vis[m]? = some true := by rfl) (ho : own[m]? = some st := by rfl) (hst : st.isL = true := by rfl)
    (hs : ∀ X, F X → starEach (.Name y py :: es) X.env = (false, eval (.Name y py) X.env) :: starEach es X.env := by intro _ _; rfl) (hs2 : ∀ X, F X → ((backTo pos (starEach es X.env)).any fun q => q.1) = false := by intro _ _; rfl) :
    EX F K Z own (.Call (.Name x p) (.Name y py :: es) [] pos) (callR ff m g) := by
  obtain ⟨ta, pa, ha⟩ := ha
  refine ⟨tCall (spR K ps.length ff) [] E0 (tCons (tVar m) ta), fun X hX => let ⟨g1, g2, g3⟩ := S.gl X hX i x hg; let ⟨v1, v2, v3⟩ := S.vis X hX m y hv hN; pe_call (fnAt A S hX G.ok) ((S.room X hX).mono hj) g1 (by rw [S.hmg X hX]; exact G.mg) (by rw [S.hK X hX]; exact G.kp) (by rw [S.hK X hX]; exact G.bd) (ds := []) (dvs := []) .nil (pass0 (X := X))
    (pa_cons (pe_var (by rw [S.hN X hX]; exact hN) v1 v2 v3) (pa X hX) (hs X hX)) g2 (hs X hX) (hs2 X hX), fun G' ρ σ H B R => ?_⟩
  obtain ⟨a, rs0, ea, _, _⟩ := R.ownAt ho hst
  refine Run.imp (Run.thn (p2 := fun ws H2 Q => spR K ps.length ff ((.ref a :: ws) ++ []) H2 Q E0) (ha G' ρ σ H B R) fun ds ρ1 vs H1 B1 _ e R1 l => ?_) fun Q q => ⟨.ref a, join_some ea, q⟩
  obtain ⟨a', rs, ea', er, la⟩ := R1.ownAt ho hst
  rw [ea] at ea'
  cases ea'
  show Run K Z G' own (RV K) (match look ρ1 m with
    | .lst rs => (match ff rs ds with
      | some (d, rs') => .ok d (ρ1.set m (.lst rs'))
      | none => .bad)
    | _ => .bad) σ B1 _
  rw [er]
  dsimp only
  cases hf : ff rs ds with
  | none => trivial
  | some q =>
    obtain ⟨d, rs'⟩ := q
    intro Q q
    refine ⟨B1, a, vs, .lst rs, ds, d, .lst rs', by simp [l.len, G.ar rs ds _ hf], by simp, ⟨R1.keep.bh, R1.keep.tab⟩, la, l, by show (ff rs ds).map _ = _; rw [hf]; rfl, fun v H' B' e1 e2 e3 tb e4 l' _ r' => q v H' B' e1 (R1.changed ho (Stt.isL_own hst) ea e1 e2 e3 tb e4 l' (fun _ => trivial) (kind_lst hst rs') (.inl ⟨rs, rs', er, rfl⟩)) r'⟩
end
end MP
namespace MP
open PySem L2
theorem opr_or {X : Cx} {f : Value → Value → Sem Value} {r1 r2 : R2} (h1 : OpR X f r1) (h2 : OpR X f r2) : OpR X f (fun x y H Q => r1 x y H Q ∨ r2 x y H Q) := fun pins s σ H x y v u Q I rx ry h =>
  h.elim (h1 pins s σ H x y v u Q I rx ry) (h2 pins s σ H x y v u Q I rx ry)
theorem opd_or {K : PySem.W.Frag} {r1 r2 : R2} {f1 f2 : D → D → Option D} (h1 : OpD K r1 f1) (h2 : OpD K r2 f2) : OpD K (fun x y H Q => r1 x y H Q ∨ r2 x y H Q) (fun a b => (f1 a b).or (f2 a b)) := fun x y d1 d2 H B bh rx ry => by
  have a1 := h1 x y d1 d2 H B bh rx ry
  have a2 := h2 x y d1 d2 H B bh rx ry
  show Prim K (RV K) ((f1 d1 d2).or (f2 d1 d2)) H B (fun Q => r1 x y H Q ∨ r2 x y H Q)
  cases e1 : f1 d1 d2 with
  | some d => rw [e1] at a1; exact fun Q q => Or.inl (a1 Q q)
  | none =>
    cases e2 : f2 d1 d2 with
    | some d => rw [e2] at a2; exact fun Q q => Or.inr (a2 Q q)
    | none => trivial
/-! ### numbers -/
def intOp (C : Int → Int → Bool) (g : Int → Int → D) : D → D → Option D
  | .int i, .int j => if C i j then some (g i j) else none
  | _, _ => none
theorem opd_int {K : PySem.W.Frag} {C : Int → Int → Bool} {C' : Int → Int → Prop} {g : Int → Int → D} {g' : Int → Int → V} (hc : ∀ i j, C i j = true → C' i j) (hg : ∀ B i j, Rep K B (g' i j) (g i j)) : OpD K (rI C' g') (intOp C g) := fun x y d1 d2 H B bh rx ry => by
  cases rx with
  | int i =>
    cases ry with
    | int j =>
      show Prim K _ (if C i j then some (g i j) else none) H B _
      split
      · rename_i h
        exact Prim.now bh (hg B i j) fun Q q => ⟨i, j, rfl, rfl, hc i j h, q⟩
      · trivial
    | _ => trivial
  | _ => cases ry <;> trivial
theorem opd_int0 {K : PySem.W.Frag} {g : Int → Int → D} {g' : Int → Int → V} (hg : ∀ B i j, Rep K B (g' i j) (g i j)) : OpD K (rI0 g') (intOp (fun _ _ => true) g) := fun x y d1 d2 H B bh rx ry => by
  cases rx with
  | int i =>
    cases ry with
    | int j => exact Prim.now bh (hg B i j) fun Q q => ⟨i, j, rfl, rfl, q⟩
    | _ => trivial
  | _ => cases ry <;> trivial
def strOp (C : Str → Str → Bool) (g : Str → Str → D) : D → D → Option D
  | .str i, .str j => if C i j then some (g i j) else none
  | _, _ => none
theorem strOk_append {a b : Str} (ha : PyData.strOk a = true) (hb : PyData.strOk b = true) : PyData.strOk (a ++ b) = true := by
  have e : (a ++ b).cps = a.cps ++ b.cps := rfl
  unfold PyData.strOk at *
  rw [e, Array.all_append, ha, hb]
  rfl
/-- s + t -/
theorem opd_adds {K : PySem.W.Frag} : OpD K (fun x y H Q => ∃ i j, x = V.str i ∧ y = V.str j ∧ i.length + j.length ≤ sizeLine ∧ Q (V.str (i ++ j)) H) (strOp (fun i j => decide (i.length + j.length ≤ 16000000)) fun i j => .str (i ++ j)) := fun x y d1 d2 H B bh rx ry => by
  cases rx with
  | str i hi =>
    cases ry with
    | str j hj =>
      show Prim K _ (if decide (i.length + j.length ≤ 16000000) then some (D.str (i ++ j)) else none) H B _
      split
      · rename_i h
        exact Prim.now bh (.str _ (strOk_append hi hj)) fun Q q => ⟨i, j, rfl, rfl, by rw [sizeLine_eq]; have := of_decide_eq_true h; omega, q⟩
      · trivial
    | _ => trivial
  | _ => cases ry <;> trivial
def tupOp (g : List D → List D → Option D) : D → D → Option D
  | .tup a, .tup b => g a b
  | _, _ => none
def lstOp (g : List D → List D → Option D) : D → D → Option D
  | .lst a, .lst b => g a b
  | _, _ => none
def catT : D → D → Option D := tupOp fun a b => (szO (a ++ b)).map .tup
def catL : D → D → Option D := lstOp fun a b => (szO (a ++ b)).map .lst
theorem opd_catT {K : PySem.W.Frag} : OpD K (rCatA K) catT := fun x y d1 d2 H B bh rx ry => by
  cases rx with
  | tup hq rs hz =>
    cases ry with
    | tup hq2 rs2 hz2 =>
      rename_i a us ds b us2 ds2
      show Prim K _ ((szO (ds ++ ds2)).map D.tup) H B _
      cases hsz : szO (ds ++ ds2) with
      | none => trivial
      | some es =>
        obtain ⟨rfl, hs2⟩ := szO_some hsz
        intro Q q
        have l1 := rs.len
        have l2 := rs2.len
        refine ⟨a, b, us, us2, rfl, rfl, seqT bh hq.1, seqT bh hq2.1, by rw [l1, l2]; simpa using hs2, fun e => ?_, fun e1 e2 => ?_, fun e1 e2 p hp => ?_⟩
        · subst e
          cases rs
          exact q _ H B (New.refl bh) (.tup hq2 rs2 hz2)
        · subst e2
          cases rs2
          refine q _ H B (New.refl bh) ?_
          rw [List.append_nil]
          exact .tup hq rs hz
        · exact q _ _ _ (New.alloc (K := K) bh hp) (.tup (tq upd_same) ((rs.append rs2).mono (New.alloc (K := K) bh hp).b) hs2)
    | _ => trivial
  | _ => cases ry <;> trivial
def rCatS (K : PySem.W.Frag) : R2 := fun x y H Q => ∃ l b xs zs, x = .ref l ∧ y = .ref b ∧ SqL K H l xs ∧ SqL K H b zs ∧ xs.length + zs.length ≤ sizeLine ∧ ∀ p, H p = none → Q (.ref p) (upd H p (.lst (xs ++ zs)))
theorem op_catS {X : Cx} : OpR X (binaryOp .Add) (rCatS X.K) := by
  intro pins s σ H x y v u Q I rx ry h
  obtain ⟨l, b, xs, zs, rfl, rfl, hH, hB, hz, q⟩ := h
  cases rx
  cases ry
  obtain ⟨its, r, pl, _⟩ := I.list hH
  obtain ⟨its2, r2, pl2, _⟩ := I.list hB
  obtain ⟨⟨cls, dd, data, sl⟩, n, ho, hc, hdd, hd⟩ := pl
  obtain ⟨⟨cls2, dd2, data2, sl2⟩, n2, ho2, hc2, hdd2, hd2⟩ := pl2
  simp only at hc hd hc2 hd2
  subst hc hd hc2 hd2
  have ea : its.toArray ++ its2.toArray = (its ++ its2).toArray := by simp
  have hl1 := r.length
  have hl2 := r2.length
  refine concat_meets ⟨_, ho, rfl⟩ ⟨_, ho2, rfl⟩ noFill_list_add seq_list_add PySem.F.slot_list_add PySem.F.entry_list_add (PySem.F.args_list_add_2 _ _) (PyProof.Rows.list_addW l b its.toArray its2.toArray n n2 dd dd2 sl sl2 (by simp; omega)) ⟨ho, ho2, ?_⟩
  rw [ea]
  exact ⟨.ref _, _, I.lnew (t' := s.toks) (r.append r2) (by rw [List.length_append]; omega), rfl, q _ I.fresh⟩
theorem opd_catL {K : PySem.W.Frag} : OpD K (rCatS K) catL := fun x y d1 d2 H B bh rx ry => by
  cases rx with
  | lst hq rs hz =>
    cases ry with
    | lst hq2 rs2 hz2 =>
      rename_i a us ds b us2 ds2
      show Prim K _ ((szO (ds ++ ds2)).map D.lst) H B _
      cases hsz : szO (ds ++ ds2) with
      | none => trivial
      | some es =>
        obtain ⟨rfl, hs2⟩ := szO_some hsz
        intro Q q
        refine ⟨a, b, us, us2, rfl, rfl, bh.seq hq, bh.seq hq2, by rw [rs.len, rs2.len]; simpa using hs2, fun p hp => ?_⟩
        exact q _ _ _ (New.alloc (K := K) bh hp) (.lst (.inl (.inl upd_same)) ((rs.append rs2).mono (New.alloc (K := K) bh hp).b) hs2)
    | _ => trivial
  | _ => cases ry <;> trivial
/-- a + b -/
def addD : D → D → Option D
  | .int i, .int j => some (.int (i + j))
  | .str i, .str j => if i.length + j.length ≤ 16000000 then some (.str (i ++ j)) else none
  | .tup a, .tup b => (szO (a ++ b)).map .tup
  | .lst a, .lst b => (szO (a ++ b)).map .lst
  | _, _ => none
theorem opd_imp {K : PySem.W.Frag} {r : R2} {f f' : D → D → Option D} (h : OpD K r f) (e : ∀ a b, f' a b = f a b) : OpD K r f' := fun x y d1 d2 H B bh rx ry => by
  rw [e]; exact h x y d1 d2 H B bh rx ry
section
variable {F : CF} {K : PySem.W.Frag} {mg : Str → Option Value} {Z : XC} {own own1 own' : List Stt} {N : List Str} {vis : List Bool} {gl : List Str} {k : Nat} {a b : Expr} {g h : M D} {pos : Pos}
theorem ex_add (S : Sx F K mg N vis gl k) (ha : EX F K Z own a g) (hb : EX F K Z own b h) : EX F K Z own (.BinOp a .Add b pos) (op2 addD g h) :=
  ex_op (fun X hX => opr_or op_add (opr_or op_add_str (opr_or (atK (S.hK X hX) (fun K => OpR X _ (rCatA K)) op_catA) (atK (S.hK X hX) (fun K => OpR X _ (rCatS K)) op_catS))))
    (opd_imp (opd_or (opd_int0 fun B i j => .int (i + j)) (opd_or opd_adds (opd_or opd_catT opd_catL))) fun x y => by
      cases x <;> cases y <;> first | rfl | (simp only [addD, intOp, strOp, catT, catL, tupOp, lstOp, Option.none_or, Option.or_none, decide_eq_true_eq])) ha hb
theorem ex_sub (ha : EX F K Z own a g) (hb : EX F K Z own b h) : EX F K Z own (.BinOp a .Sub b pos) (op2 (intOp (fun _ _ => true) fun i j => .int (i - j)) g h) := ex_op (fun X hX => op_sub) (opd_int0 fun B i j => .int (i - j)) ha hb
def mulC (i j : Int) : Bool := decide ((-(2 ^ 64) < i ∧ i < 2 ^ 64) ∨ (-(2 ^ 64) < j ∧ j < 2 ^ 64))
theorem ex_mul (ha : EX F K Z own a g) (hb : EX F K Z own b h) : EX F K Z own (.BinOp a .Mult b pos) (op2 (intOp mulC fun i j => .int (i * j)) g h) := ex_op (fun X hX => op_mul) (opd_int (C := mulC) (fun i j e => of_decide_eq_true (p := (-(2 ^ 64) < i ∧ i < 2 ^ 64) ∨ (-(2 ^ 64) < j ∧ j < 2 ^ 64)) e) fun B i j => .int (i * j)) ha hb
def divC (i j : Int) : Bool := decide (0 < j ∧ j < 1073741824)
theorem ex_fdiv (ha : EX F K Z own a g) (hb : EX F K Z own b h) : EX F K Z own (.BinOp a .FloorDiv b pos) (op2 (intOp divC fun i j => .int (i / j)) g h) := ex_op (fun X hX => op_fdiv) (opd_int (C := divC) (fun i j e => of_decide_eq_true (p := 0 < j ∧ j < 1073741824) e) fun B i j => .int (i / j)) ha hb
theorem ex_mod (ha : EX F K Z own a g) (hb : EX F K Z own b h) : EX F K Z own (.BinOp a .Mod b pos) (op2 (intOp (fun _ j => decide (0 < j)) fun i j => .int (i % j)) g h) := ex_op (fun X hX => op_mod) (opd_int (fun i j e => of_decide_eq_true e) fun B i j => .int (i % j)) ha hb
def powC (i j : Int) : Bool := decide (0 ≤ j ∧ j ≤ 1000000 ∧ i.natAbs < 2 ^ 64)
theorem ex_pow (ha : EX F K Z own a g) (hb : EX F K Z own b h) : EX F K Z own (.BinOp a .Pow b pos) (op2 (intOp powC fun i j => .int (i ^ j.toNat)) g h) := ex_op (fun X hX => op_pow) (opd_int (C := powC) (fun i j e => of_decide_eq_true (p := 0 ≤ j ∧ j ≤ 1000000 ∧ i.natAbs < 2 ^ 64) e) fun B i j => .int (i ^ j.toNat)) ha hb
/-! ### order -/
def cmpO (fi : Int → Int → Bool) (fs : List Nat → List Nat → Bool) : D → D → Option D
  | .int i, .int j => some (.bl (fi i j))
  | .str i, .str j => some (.bl (fs i.cps.toList j.cps.toList))
  | _, _ => none
theorem opd_cmpS {fs : List Nat → List Nat → Bool} : OpD K (fun x y H Q => ∃ i j : Str, x = V.str i ∧ y = V.str j ∧ Q (V.bl (fs i.cps.toList j.cps.toList)) H) (strOp (fun _ _ => true) fun i j => .bl (fs i.cps.toList j.cps.toList)) := fun x y d1 d2 H B bh rx ry => by
  cases rx with
  | str i hi =>
    cases ry with
    | str j hj => exact Prim.now bh (.bl _) fun Q q => ⟨i, j, rfl, rfl, q⟩
    | _ => trivial
  | _ => cases ry <;> trivial
theorem opd_cmp {fi : Int → Int → Bool} {fs : List Nat → List Nat → Bool} : OpD K (fun x y H Q => (rI0 (fun i j => V.bl (fi i j))) x y H Q ∨ ∃ i j : Str, x = V.str i ∧ y = V.str j ∧ Q (V.bl (fs i.cps.toList j.cps.toList)) H) (cmpO fi fs) :=
  opd_imp (opd_or (opd_int0 fun B i j => .bl (fi i j)) opd_cmpS) fun x y => by cases x <;> cases y <;> rfl
def ltD : D → D → Option D := cmpO (fun i j => decide (i < j)) fun a b => decide (a < b)
def leD : D → D → Option D := cmpO (fun i j => decide (i ≤ j)) fun a b => !decide (b < a)
def gtD : D → D → Option D := cmpO (fun i j => decide (j < i)) fun a b => decide (b < a)
def geD : D → D → Option D := cmpO (fun i j => decide (j ≤ i)) fun a b => !decide (a < b)
theorem or_lt {X : Cx} : OpR X (compareOp .Lt) (fun x y H Q => (rI0 (fun i j => V.bl (decide (i < j)))) x y H Q ∨ ∃ i j : Str, x = V.str i ∧ y = V.str j ∧ Q (V.bl (decide (i.cps.toList < j.cps.toList))) H) := opr_or op_lt op_lt_str
theorem or_le {X : Cx} : OpR X (compareOp .LtE) (fun x y H Q => (rI0 (fun i j => V.bl (decide (i ≤ j)))) x y H Q ∨ ∃ i j : Str, x = V.str i ∧ y = V.str j ∧ Q (V.bl (!decide (j.cps.toList < i.cps.toList))) H) := opr_or op_le op_le_str
theorem or_gt {X : Cx} : OpR X (compareOp .Gt) (fun x y H Q => (rI0 (fun i j => V.bl (decide (j < i)))) x y H Q ∨ ∃ i j : Str, x = V.str i ∧ y = V.str j ∧ Q (V.bl (decide (j.cps.toList < i.cps.toList))) H) := opr_or op_gt op_gt_str
theorem or_ge {X : Cx} : OpR X (compareOp .GtE) (fun x y H Q => (rI0 (fun i j => V.bl (decide (j ≤ i)))) x y H Q ∨ ∃ i j : Str, x = V.str i ∧ y = V.str j ∧ Q (V.bl (!decide (i.cps.toList < j.cps.toList))) H) := opr_or op_ge op_ge_str
theorem od_lt : OpD K (fun x y H Q => (rI0 (fun i j => V.bl (decide (i < j)))) x y H Q ∨ ∃ i j : Str, x = V.str i ∧ y = V.str j ∧ Q (V.bl (decide (i.cps.toList < j.cps.toList))) H) ltD := opd_cmp
theorem od_le : OpD K (fun x y H Q => (rI0 (fun i j => V.bl (decide (i ≤ j)))) x y H Q ∨ ∃ i j : Str, x = V.str i ∧ y = V.str j ∧ Q (V.bl (!decide (j.cps.toList < i.cps.toList))) H) leD := opd_cmp (fs := fun a b => !decide (b < a))
theorem od_gt : OpD K (fun x y H Q => (rI0 (fun i j => V.bl (decide (j < i)))) x y H Q ∨ ∃ i j : Str, x = V.str i ∧ y = V.str j ∧ Q (V.bl (decide (j.cps.toList < i.cps.toList))) H) gtD := opd_cmp (fs := fun a b => decide (b < a))
theorem od_ge : OpD K (fun x y H Q => (rI0 (fun i j => V.bl (decide (j ≤ i)))) x y H Q ∨ ∃ i j : Str, x = V.str i ∧ y = V.str j ∧ Q (V.bl (!decide (i.cps.toList < j.cps.toList))) H) geD := opd_cmp (fs := fun a b => !decide (a < b))
theorem ex_lt (ha : EX F K Z own a g) (hb : EX F K Z own b h) : EX F K Z own (.Compare a [.Lt] [b] pos) (op2 ltD g h) := ex_cmp (fun _ _ => or_lt) od_lt (nomark _) ha hb
end
end MP
namespace MP
open PySem L2
/-! ### equality of data -/
mutual
def D.py : D → PyData
  | .non => .none
  | .bl b => .bool b
  | .int i => .int i
  | .str s => .str s
  | .tup ds => .tuple (pys ds)
  | .lst ds => .list (pys ds)
  | .dct _ => .dict []
  | .ins _ _ => .dict []
  | .dk _ _ _ => .dict []
  | .dt _ _ _ => .dict []
  | .te => .dict []
  | .tf _ => .dict []
def pys : List D → List PyData
  | [] => []
  | d :: ds => d.py :: pys ds
end
mutual
def D.plain : D → Bool
  | .non | .bl _ | .int _ | .str _ => true
  | .tup ds => plains ds
  | .lst ds => plains ds
  | .dct _ => false
  | .ins _ _ => false
  | .dk _ _ _ => false
  | .dt _ _ _ => false
  | .te => false
  | .tf _ => false
def plains : List D → Bool
  | [] => true
  | d :: ds => d.plain && plains ds
end
def okD (d : D) : Bool := d.plain && decide (d.py.depth ≤ 64)
mutual
theorem Rep.dp {K : PySem.W.Frag} {B H : Hp} (e : Ex B H) : ∀ {v : V} {d : D}, Rep K B v d → d.plain = true → Dp K H v d.py ∧ d.py.canLay0 = true
  | _, _, .non, _ => ⟨.non, rfl⟩
  | _, _, .bl b, _ => ⟨.bl b, rfl⟩
  | _, _, .int i, _ => ⟨.int i, rfl⟩
  | _, _, .str s h, _ => ⟨.str s, by simpa [D.py, PyData.canLay0] using h⟩
  | _, _, .tup h r _, p => by
    obtain ⟨a, b⟩ := Reps.dp e r (by simpa [D.plain] using p)
    exact ⟨by rw [D.py]; exact .tup (seqT e h.1) a, by rw [D.py, PyData.canLay0]; exact b⟩
  | _, _, .lst h r _, p => by
    obtain ⟨a, b⟩ := Reps.dp e r (by simpa [D.plain] using p)
    exact ⟨by rw [D.py]; exact .lst (e.seq h) a, by rw [D.py, PyData.canLay0]; exact b⟩
  | _, _, .sl _ _ _, p => by simp [D.plain] at p
  | _, _, .di _ _ _ _ _, p => by simp [D.plain] at p
  | _, _, .dk _ _ _ _ _, p => by simp [D.plain] at p
  | _, _, .dt _ _ _ _ _, p => by simp [D.plain] at p
  | _, _, .oi _, p => by simp [D.plain] at p
  | _, _, .te _, p => by simp [D.plain] at p
  | _, _, .tf _ _ _ _ _, p => by simp [D.plain] at p
theorem Reps.dp {K : PySem.W.Frag} {B H : Hp} (e : Ex B H) : ∀ {vs : List V} {ds : List D}, Reps K B vs ds → plains ds = true → DpAll K H vs (pys ds) ∧ PyData.canLayAll0 (pys ds) = true
  | _, _, .nil, _ => ⟨by rw [pys]; exact .nil, by rw [pys, PyData.canLayAll0]⟩
  | _, _, .cons r t, p => by
    rw [plains, Bool.and_eq_true] at p
    obtain ⟨a, b⟩ := Rep.dp e r p.1
    obtain ⟨c, d⟩ := Reps.dp e t p.2
    exact ⟨by rw [pys]; exact .cons a c, by rw [pys, PyData.canLayAll0, b, d]; rfl⟩
end
theorem shaped_of {K : PySem.W.Frag} {B H : Hp} (e : Ex B H) {v : V} {d : D} (r : Rep K B v d) (h : okD d = true) : Dp K H v d.py ∧ SeqAt.shaped d.py = true := by
  unfold okD at h
  rw [Bool.and_eq_true] at h
  obtain ⟨a, b⟩ := r.dp e h.1
  exact ⟨a, by unfold SeqAt.shaped; rw [b, h.2]; rfl⟩
def eqD (a b : D) : Option D := if okD a && okD b then some (.bl (PyData.eqv a.py b.py)) else none
def neD (a b : D) : Option D := if okD a && okD b then some (.bl (!PyData.eqv a.py b.py)) else none
theorem od_eq {K : PySem.W.Frag} : OpD K (rEqD K) eqD := fun x y d1 d2 H B bh rx ry => by
  unfold eqD
  split
  · rename_i h
    rw [Bool.and_eq_true] at h
    obtain ⟨a1, a2⟩ := shaped_of bh rx h.1
    obtain ⟨b1, b2⟩ := shaped_of bh ry h.2
    exact Prim.now bh (.bl _) fun Q q => ⟨_, _, a1, b1, a2, b2, q⟩
  · trivial
theorem od_ne {K : PySem.W.Frag} : OpD K (rNeD K) neD := fun x y d1 d2 H B bh rx ry => by
  unfold neD
  split
  · rename_i h
    rw [Bool.and_eq_true] at h
    obtain ⟨a1, a2⟩ := shaped_of bh rx h.1
    obtain ⟨b1, b2⟩ := shaped_of bh ry h.2
    exact Prim.now bh (.bl _) fun Q q => ⟨_, _, a1, b1, a2, b2, q⟩
  · trivial
section
variable {F : CF} {K : PySem.W.Frag} {mg : Str → Option Value} {Z : XC} {own own1 own' : List Stt} {N : List Str} {vis : List Bool} {gl : List Str} {k : Nat} {a b : Expr} {g h : M D} {pos : Pos}
theorem ex_eq (S : Sx F K mg N vis gl k) (ha : EX F K Z own a g) (hb : EX F K Z own b h) : EX F K Z own (.Compare a [.Eq] [b] pos) (op2 eqD g h) :=
  ex_cmp (fun X hX => atK (S.hK X hX) (fun K => OpR X _ (rEqD K)) (op_eqD (S.room X hX).units)) od_eq (nomark _) ha hb
theorem ex_ne (S : Sx F K mg N vis gl k) (ha : EX F K Z own a g) (hb : EX F K Z own b h) : EX F K Z own (.Compare a [.NotEq] [b] pos) (op2 neD g h) :=
  ex_cmp (fun X hX => atK (S.hK X hX) (fun K => OpR X _ (rNeD K)) (op_neD (S.room X hX).units)) od_ne (nomark _) ha hb
/-! ### is None -/
def isND : D → D → Option D
  | .non, .non => some (.bl true)
  | _, .non => some (.bl false)
  | _, _ => none
def notND : D → D → Option D
  | .non, .non => some (.bl false)
  | _, .non => some (.bl true)
  | _, _ => none
theorem od_notN : OpD K (fun x y H Q => y = V.non ∧ Q (V.bl (!decide (x = V.non))) H) notND := fun x y d1 d2 H B bh rx ry => by
  cases ry with
  | non => cases rx <;> exact Prim.now bh (.bl _) fun Q q => ⟨rfl, q⟩
  | _ => cases rx <;> trivial
/-! ### in -/
def flatD : D → Bool
  | .non | .bl _ | .int _ | .str _ => true
  | _ => false
def eqF : D → D → Bool
  | .non, .non => true
  | .bl a, .bl b => a == b
  | .bl a, .int j => (if a then 1 else 0) == j
  | .int i, .bl b => i == (if b then 1 else 0)
  | .int i, .int j => i == j
  | .str a, .str b => a == b
  | _, _ => false
def inD (neg : Bool) : D → D → Option D
  | x, .tup ds => if flatD x && ds.all flatD then some (.bl (xor neg (ds.any fun y => eqF y x))) else none
  | x, .lst ds => if flatD x && ds.all flatD then some (.bl (xor neg (ds.any fun y => eqF y x))) else none
  | .str c, .str z => (match c.cps.toList with
    | [n] => some (.bl (xor neg (decide (n ∈ z.cps.toList))))
    | _ => none)
  | _, _ => none
theorem rep_flat {B : Hp} {v : V} {d : D} (r : Rep K B v d) (h : flatD d = true) : flatV v = true := by
  cases r <;> first | rfl | cases h
theorem reps_flat {B : Hp} : ∀ {vs : List V} {ds : List D}, Reps K B vs ds → ds.all flatD = true → vs.all flatV = true
  | _, _, .nil, _ => rfl
  | _, _, .cons r t, h => by
    rw [List.all_cons, Bool.and_eq_true] at h ⊢
    exact ⟨rep_flat r h.1, reps_flat t h.2⟩
theorem rep_eqF {B : Hp} {v u : V} {d e : D} (r : Rep K B v d) (q : Rep K B u e) (h : flatD d = true) (h2 : flatD e = true) : eqV v u = eqF d e := by
  cases r <;> first | (cases h; done) | (cases q <;> first | rfl | (cases h2; done))
theorem reps_any {B : Hp} {u : V} {e : D} (q : Rep K B u e) (h2 : flatD e = true) : ∀ {vs : List V} {ds : List D}, Reps K B vs ds → ds.all flatD = true → inV u vs = ds.any fun y => eqF y e
  | _, _, .nil, _ => rfl
  | _, _, .cons r t, h => by
    rw [List.all_cons, Bool.and_eq_true] at h
    unfold inV
    rw [List.any_cons, List.any_cons, rep_eqF r q h.1 h2]
    congr 1
    exact reps_any q h2 t h.2
def rIn2 (K : PySem.W.Frag) (neg : Bool) : R2 := fun x y H Q => rIn K neg x y H Q ∨ ∃ c z, x = V.str { cps := #[c] } ∧ y = V.str z ∧ Q (V.bl (xor neg (decide (c ∈ z.cps.toList)))) H
theorem or_in {X : Cx} (neg : Bool) : OpR X (compareOp (if neg then .NotIn else .In)) (rIn2 X.K neg) := by
  cases neg with
  | false => exact opr_or op_in_seq (by simpa using op_in_sign)
  | true => exact opr_or op_notIn_seq (by simpa using op_notIn_sign)
theorem od_in (neg : Bool) : OpD K (rIn2 K neg) (inD neg) := fun x y d1 d2 H B bh rx ry => by
  have seq : ∀ {a : Addr} {us : List V} {ds : List D}, (SqL K H a us ∨ SqT K H a us) → Reps K B us ds → Prim K (RV K) (if flatD d1 && ds.all flatD then some (D.bl (xor neg (ds.any fun y => eqF y d1))) else none) H B (rIn2 K neg x (.ref a) H) := fun {a us ds} hq rs => by
    split
    · rename_i h
      rw [Bool.and_eq_true] at h
      refine Prim.now bh (.bl _) fun Q q => .inl ⟨a, us, rfl, hq, rep_flat rx h.1, reps_flat rs h.2, ?_⟩
      have e := reps_any rx h.1 rs h.2
      rw [e]
      cases neg <;> simpa using q
    · trivial
  cases ry with
  | tup hq rs hz => unfold inD; exact seq (.inr (seqT bh hq.1)) rs
  | lst hq rs hz => unfold inD; exact seq (.inl (bh.seq hq)) rs
  | str z hz =>
    cases rx with
    | str c hc =>
      unfold inD
      obtain ⟨⟨cs⟩⟩ := c
      dsimp only
      match cs with
      | [] => trivial
      | [n] => exact Prim.now bh (.bl _) fun Q q => .inr ⟨n, z, rfl, rfl, q⟩
      | _ :: _ :: _ => trivial
    | _ => trivial
  | _ => cases rx <;> trivial
theorem ex_in (S : Sx F K mg N vis gl k) (ha : EX F K Z own a g) (hb : EX F K Z own b h) (hm : behindInMarks .In b = false := by rfl) : EX F K Z own (.Compare a [.In] [b] pos) (op2 (inD false) g h) :=
  ex_cmp (fun X hX => atK (S.hK X hX) (fun K => OpR X _ (rIn2 K false)) (or_in false)) (od_in false) hm ha hb
/-! ### minus -/
def negD : D → Option D
  | .int i => some (.int (-i))
  | _ => none
def op1 (f : D → Option D) (g : M D) : M D := bnd g fun x => ofO (f x)
theorem ex_neg (ha : EX F K Z own a g) : EX F K Z own (.UnaryOp .USub a pos) (op1 negD g) := by
  obtain ⟨ta, pa, ha⟩ := ha
  refine ⟨_, fun X hX => pe_un un_neg (pa X hX), fun G ρ σ H B R => ?_⟩
  refine Run.thn (p2 := fun x H1 Q => rU (fun i => V.int (-i)) x H1 Q) (ha G ρ σ H B R) fun d ρ1 v H1 B1 _ e R1 l => ?_
  cases l with
  | int i => exact Run.now R1 (.int _) fun Q q => ⟨i, rfl, q⟩
  | _ => trivial
/-! ### len, items, slices -/
def lenD : List D → Option D
  | [.tup ds] => some (.int ds.length)
  | [.lst ds] => some (.int ds.length)
  | [.str z] => if z.length ≤ 16000000 then some (.int z.length) else none
  | _ => none
theorem cd_len : CallD K (fun xs H Q => ∃ x n, xs = [x] ∧ LenV K x H n ∧ Q (V.int (n : Nat)) H) lenD := fun vs ds H B bh r => by
  cases r with
  | nil => trivial
  | cons r rs =>
    cases rs with
    | cons _ _ => cases r <;> trivial
    | nil =>
      cases r with
      | tup hq rs hz => exact Prim.now bh (.int _) fun Q q => ⟨_, _, rfl, .inr ⟨_, seqT bh hq.1, rs.len.symm⟩, q⟩
      | lst hq rs hz => exact Prim.now bh (.int _) fun Q q => ⟨_, _, rfl, .inl ⟨_, bh.seq hq, rs.len.symm⟩, q⟩
      | str z hz =>
        show Prim K _ (if z.length ≤ 16000000 then some (D.int z.length) else none) H B _
        by_cases hl : z.length ≤ 16000000
        · rw [if_pos hl]; exact Prim.now bh (.int _) fun Q q => ⟨_, _, rfl, ⟨by rw [sizeLine_eq]; omega, rfl⟩, q⟩
        · rw [if_neg hl]; trivial
      | _ => trivial
theorem ex_len (S : Sx F K mg N vis gl k) (i : Nat) {p : Pos} (hm : mg "len" = none) (ha : EX F K Z own a g) (hg : gl[i]? = some ("len" : Str) := by rfl) (hs : ∀ X, F X → starEach [a] X.env = (false, eval a X.env) :: starEach [] X.env := by intro _ _; rfl) :
    EX F K Z own (.Call (.Name "len" p) [a] [] pos) (callD lenD (consD g nilD)) :=
  ex_callB S i (fun X hX => atK (S.hK X hX) (fun K => CallR X _ fun xs H Q => ∃ x n, xs = [x] ∧ LenV K x H n ∧ Q (V.int (n : Nat)) H) call_len) cd_len hm PySem.boot_len (es_cons ha es_nil hs) hg hs
theorem Reps.atI {B : Hp} {vs : List V} {ds : List D} {i : Int} {d : D} (r : Reps K B vs ds) (h : L2.atI ds i = some d) : ∃ v, L2.atI vs i = some v ∧ Rep K B v d := by
  unfold L2.atI at *
  rw [r.len]
  cases hn : ixN ds.length i with
  | none => rw [hn] at h; cases h
  | some j => rw [hn] at h; exact r.get h
def ixD : D → D → Option D
  | .tup ds, .int i => atI ds i
  | .lst ds, .int i => atI ds i
  | .str z, .int i => if z.length ≤ 16000000 then (atI z.cps.toList i).map fun c => .str ⟨#[c]⟩ else none
  | _, _ => none
theorem strOk_at {z : Str} (h : PyData.strOk z = true) {i : Int} {c : Nat} (hc : L2.atI z.cps.toList i = some c) : PyData.strOk ⟨#[c]⟩ = true := by
  unfold L2.atI at hc
  cases hn : ixN z.cps.toList.length i with
  | none => rw [hn] at hc; cases hc
  | some j => rw [hn] at hc; exact strOk_one h (by simpa using hc)
theorem od_ix : OpD K (rIx K) ixD := fun x y d1 d2 H B bh rx ry => by
  cases ry with
  | int i =>
    cases rx with
    | tup hq rs hz =>
      rename_i ds
      show Prim K _ (atI ds i) H B _
      cases hi : atI ds i with
      | none => trivial
      | some d => obtain ⟨v, hv, r⟩ := rs.atI hi; exact Prim.now bh r fun Q q => .inr (.inl ⟨_, _, i, v, rfl, rfl, seqT bh hq.1, hv, q⟩)
    | lst hq rs hz =>
      rename_i ds
      show Prim K _ (atI ds i) H B _
      cases hi : atI ds i with
      | none => trivial
      | some d => obtain ⟨v, hv, r⟩ := rs.atI hi; exact Prim.now bh r fun Q q => .inl ⟨_, _, i, v, rfl, rfl, bh.seq hq, hv, q⟩
    | str z hz =>
      show Prim K _ (if z.length ≤ 16000000 then (atI z.cps.toList i).map fun c => D.str ⟨#[c]⟩ else none) H B _
      split
      · cases hi : atI z.cps.toList i with
        | none => trivial
        | some c => exact Prim.now bh (.str _ (strOk_at hz hi)) fun Q q => .inr (.inr ⟨z, i, c, rfl, rfl, by rw [sizeLine_eq]; omega, hi, q⟩)
      · trivial
    | _ => trivial
  | _ => cases rx <;> trivial
theorem ex_ix (S : Sx F K mg N vis gl k) (ha : EX F K Z own a g) (hb : EX F K Z own b h) (hp : PlainIx b := by intro _ _; rfl) : EX F K Z own (.Subscript a b pos) (op2 ixD g h) := by
  obtain ⟨ta, pa, ha⟩ := ha
  obtain ⟨tb, pb, hb⟩ := hb
  refine ⟨tOp (rIx K) ta tb, fun X hX => pe_ix (atK (S.hK X hX) (fun K => IxR X (rIx K)) ix_seq) (pa X hX) (pb X hX) hp, fun G ρ σ H B R => ?_⟩
  exact Run.thn (ha G ρ σ H B R) fun d ρ1 v H1 B1 _ e R1 l => Run.thn (hb G ρ1 σ H1 B1 R1) fun d2 ρ2 v2 H2 B2 _ e2 R2 l2 => Run.prim R2 (od_ix v v2 d d2 H2 B2 R2.keep.bh (l.mono e2) l2)
/-- x[i], x a list of the frame's own -/
def ixOwn (j : Nat) (h : M D) : M D := bnd h fun i ρ => ofO (ixD (look ρ j) i) ρ
theorem ex_ixOwn (S : Sx F K mg N vis gl k) (j : Nat) {st : Stt} {x : Str} {px : Pos} (hb : EX F K Z own b h) (hN : N[j]? = some x := by rfl) (hv : vis[j]? = some true := by rfl) (ho : own[j]? = some st := by rfl) (hst : st.isL = true := by rfl) (hp : PlainIx b := by intro _ _; rfl) : EX F K Z own (.Subscript (.Name x px) b pos) (ixOwn j h) := by
  obtain ⟨tb, pb, hb⟩ := hb
  refine ⟨tOp (rIx K) (tVar j) tb, fun X hX => let ⟨v1, v2, v3⟩ := S.vis X hX j x hv hN; pe_ix (atK (S.hK X hX) (fun K => IxR X (rIx K)) ix_seq) (pe_var (by rw [S.hN X hX]; exact hN) v1 v2 v3) (pb X hX) hp, fun G ρ σ H B R => ?_⟩
  obtain ⟨a, rs0, ea, _, _⟩ := R.ownAt ho hst
  refine Run.imp (Run.thn (p2 := fun y H2 Q => rIx K (.ref a) y H2 Q) (hb G ρ σ H B R) fun d ρ1 v H1 B1 _ e R1 l => ?_) fun Q q => ⟨.ref a, join_some ea, q⟩
  obtain ⟨a', rs, ea', er, us, hu, ru, hz, _⟩ := R1.ownAt ho hst
  rw [ea] at ea'
  cases ea'
  refine Run.prim R1 ?_
  rw [er]
  cases l with
  | int i =>
    show Prim K _ (atI rs i) H1 B1 _
    cases hi : atI rs i with
    | none => trivial
    | some d => obtain ⟨v, hv, r⟩ := ru.atI hi; exact Prim.now R1.keep.bh r fun Q q => .inl ⟨_, _, i, v, rfl, rfl, .inl (.inl hu), hv, q⟩
  | _ => trivial
/-- len(x), x a list of the frame's own -/
def lenOwn (j : Nat) : M D := fun ρ => ofO (lenD [look ρ j]) ρ
/-- a part of a slice -/
def EO (F : CF) (K : PySem.W.Frag) (Z : XC) (own : List Stt) (e : Option Expr) (g : M (Option Int)) : Prop :=
  ∃ t, (∀ X, F X → PO X e t) ∧ ∀ G ρ σ H B, Rel K G own ρ σ H B → Run K Z G own (fun _ _ i j => i = j) (g ρ) σ B (t σ H)
def noP : M (Option Int) := ret none
def someP (g : M D) : M (Option Int) := bnd g fun d => match d with
  | .int i => ret (some i)
  | _ => ofO none
theorem eo_none : EO F K Z own none noP := ⟨_, fun _ _ => po_none, fun G ρ σ H B R => Run.now R rfl fun Q q => q⟩
theorem eo_some {e : Expr} (ha : EX F K Z own e g) : EO F K Z own (some e) (someP g) := by
  obtain ⟨ta, pa, ha⟩ := ha
  refine ⟨_, fun X hX => po_some (pa X hX), fun G ρ σ H B R => ?_⟩
  refine Run.thn (p2 := fun x H1 Q => ∃ i, x = .int i ∧ Q (some i) H1) (ha G ρ σ H B R) fun d ρ1 v H1 B1 _ e R1 l => ?_
  cases l with
  | int i => exact Run.now R1 rfl fun Q q => ⟨i, rfl, q⟩
  | _ => trivial
def cutD (ds : List D) (lo hi : Option Int) : List D := (ds.drop (HT.sIx ds.length 0 lo)).take (HT.sIx ds.length ds.length hi - HT.sIx ds.length 0 lo)
def slD (d : D) (lo hi : Option Int) : Option D := match d with
  | .tup ds => some (.tup (cutD ds lo hi))
  | .lst ds => some (.lst (cutD ds lo hi))
  | _ => none
def slM (g : M D) (lo hi : M (Option Int)) : M D := bnd g fun d => bnd lo fun l => bnd hi fun u => ofO (slD d l u)
theorem reps_cut {B : Hp} {vs : List V} {ds : List D} (r : Reps K B vs ds) (lo hi : Option Int) : Reps K B (cutV vs lo hi) (cutD ds lo hi) := by
  unfold cutV cutD
  rw [r.len]
  exact (r.drop _).take _
theorem cutD_len {ds : List D} {lo hi : Option Int} (h : ds.length ≤ sizeLine) : (cutD ds lo hi).length ≤ sizeLine := by
  unfold cutD
  rw [List.length_take, List.length_drop]
  omega
theorem cutD_all {ds : List D} {lo hi : Option Int} (h1 : HT.sIx ds.length 0 lo = 0) (h2 : HT.sIx ds.length ds.length hi = ds.length) : cutD ds lo hi = ds := by
  unfold cutD
  rw [h1, h2]
  simp
def rSl2 (K : PySem.W.Frag) : V → Option Int → Option Int → Hp → VK → Prop := fun x lo hi H Q => rSlL K x lo hi H Q ∨ rSlA K x lo hi H Q
theorem slr_or {X : Cx} {r1 r2 : V → Option Int → Option Int → Hp → VK → Prop} (h1 : SlR X r1) (h2 : SlR X r2) : SlR X (fun x lo hi H Q => r1 x lo hi H Q ∨ r2 x lo hi H Q) := fun pins s σ H x v vl vu lo hi sl Q I rx hs pl pu h =>
  h.elim (h1 pins s σ H x v vl vu lo hi sl Q I rx hs pl pu) (h2 pins s σ H x v vl vu lo hi sl Q I rx hs pl pu)
theorem ex_slice (S : Sx F K mg N vis gl k) {lo hi : Option Expr} {p2 : Pos} {gl' gh : M (Option Int)} (ha : EX F K Z own a g) (hl : EO F K Z own lo gl') (hh : EO F K Z own hi gh) : EX F K Z own (.Subscript a (.Slice lo hi none p2) pos) (slM g gl' gh) := by
  obtain ⟨ta, pa, ha⟩ := ha
  obtain ⟨tl, pl, hl⟩ := hl
  obtain ⟨th, ph, hh⟩ := hh
  refine ⟨L2.tSl (rSl2 K) ta tl th, fun X hX => pe_slice (atK (S.hK X hX) (fun K => SlR X (rSl2 K)) (slr_or sl_list sl_tupA)) (pa X hX) (pl X hX) (ph X hX), fun G ρ σ H B R => ?_⟩
  refine Run.thn (p2 := fun x H1 Q => tl σ H1 fun l H2 => th σ H2 fun u H3 => rSl2 K x l u H3 Q) (ha G ρ σ H B R) fun d ρ1 v H1 B1 _ e R1 l => ?_
  refine Run.thn (p2 := fun lo H2 Q => th σ H2 fun u H3 => rSl2 K v lo u H3 Q) (hl G ρ1 σ H1 B1 R1) fun d2 ρ2 v2 H2 B2 _ e2 R2 l2 => ?_
  refine Run.thn (p2 := fun hi H3 Q => rSl2 K v v2 hi H3 Q) (hh G ρ2 σ H2 B2 R2) fun d3 ρ3 v3 H3 B3 _ e3 R3 l3 => Run.prim R3 ?_
  cases l2
  cases l3
  have l := (l.mono e2).mono e3
  cases l with
  | tup hq rs hz =>
    intro Q q
    refine .inr ⟨_, _, rfl, seqT R3.keep.bh hq.1, fun e => ?_, fun e p hp => ?_⟩
    · rw [rs.len] at e
      refine q _ H3 B3 (New.refl R3.keep.bh) ?_
      rw [cutD_all e.1 e.2]
      exact .tup hq rs hz
    · exact q _ _ _ (New.alloc (K := K) R3.keep.bh hp) (.tup (tq upd_same) ((reps_cut rs _ _).mono (New.alloc (K := K) R3.keep.bh hp).b) (cutD_len hz))
  | lst hq rs hz => exact fun Q q => .inl ⟨_, _, rfl, R3.keep.bh.seq hq, fun p hp => q _ _ _ (New.alloc (K := K) R3.keep.bh hp) (.lst (.inl (.inl upd_same)) ((reps_cut rs _ _).mono (New.alloc (K := K) R3.keep.bh hp).b) (cutD_len hz))⟩
  | _ => trivial
end
end MP
namespace MP
open PySem L2
/-! ### classes with slots whose instances do not change once they are made -/
/-- what of the text such a class has: the slots' descriptors by name, in order -/
structure Cl (K : PySem.W.Frag) (c : Str) (sl : List Str) : Prop where
  s : SlX.SCls K (He.ga K c)
  at_ : ∀ (i : Nat) (f : Str), sl[i]? = some f → ∃ p, SlX.Slot1 K (He.ga K c) f p i
  nf : (flds c).isEmpty = true
def fldD (c : Str) (i : Nat) : D → Option D
  | .ins c' fs => if c' = c then fs[i]? else none
  | _ => none
section
variable {F : CF} {K : PySem.W.Frag} {mg : Str → Option Value} {Z : XC} {own own1 own' : List Stt} {N : List Str} {vis : List Bool} {gl : List Str} {k : Nat} {a b : Expr} {g h : M D} {pos : Pos} {P : Program} {w : World} {base : Heap} {ps : List Str} {f : Addr} {fd : FuncData}
theorem rep_ins {B : Hp} {v : V} {c : Str} {ds : List D} (hc : (flds c).isEmpty = true) (r : Rep K B v (.ins c ds)) : ∃ a dx us, v = .ref a ∧ SlX.Slt B a (He.ga K c) dx (us.map some) ∧ Reps K B us ds := by
  cases r with
  | sl _ h rs => exact ⟨_, _, _, rfl, h, rs⟩
  | di n _ _ _ _ => rw [hc] at n; cases n
theorem ex_fld (S : Sx F K mg N vis gl k) {c : Str} {sl : List Str} (C : Cl K c sl) (i : Nat) {x : Str} (ha : EX F K Z own a g) (hi : sl[i]? = some x := by rfl) (hb : ∀ X, F X → attributeBase a x X.env (eval a X.env) = eval a X.env := by intro _ _; rfl) : EX F K Z own (.Attribute a x pos) (op1 (fldD c i) g) := by
  obtain ⟨ta, pa, ha⟩ := ha
  refine ⟨SlX.tSl K ta x, fun X hX => atK (S.hK X hX) (fun K => PE X _ (SlX.tSl K ta x)) (SlX.pe_sl (pa X hX) (hb X hX)), fun G ρ σ H B R => ?_⟩
  refine Run.thn (p2 := fun y H1 Q => ∃ a C dx p vs i v, y = .ref a ∧ SlX.Slt H1 a C dx vs ∧ SlX.SCls K C ∧ SlX.Slot1 K C x p i ∧ vs[i]? = some (some v) ∧ Q v H1) (ha G ρ σ H B R) fun d ρ1 v H1 B1 _ e R1 l => Run.prim R1 ?_
  cases d with
  | ins c' ds =>
    show Prim K _ (if c' = c then ds[i]? else none) H1 B1 _
    split
    · rename_i ec
      subst ec
      obtain ⟨a, dx, us, rfl, hs, rs⟩ := rep_ins C.nf l
      cases hd : ds[i]? with
      | none => trivial
      | some d =>
        obtain ⟨v, hv, r⟩ := rs.get hd
        obtain ⟨p, sp⟩ := C.at_ i x hi
        exact Prim.now R1.keep.bh r fun Q q => ⟨a, _, dx, p, _, i, v, rfl, sltX R1.keep.bh hs, C.s, sp, by rw [List.getElem?_map, hv]; rfl, q⟩
    · trivial
  | _ => trivial
/-! ### what a caller knows of a method -/
/-- a property's getter -/
structure PrV (P : Program) (w : World) (K : PySem.W.Frag) (mg : Str → Option Value) (base : Heap) (c m : Str) (p f : Addr) (fd : FuncData) (ps : List Str) (j : Nat) (ff : FV) : Prop where
  ok : FnOk P w K mg base CX0 j f fd ps (spV K ps.length ff)
  ar : ∀ ds d, ff ds = some d → ds.length = ps.length
  at_ : PySem.W.findIn K (.ref (He.ga K c)) m = some (some (.ref p))
  get : PySem.W.specialIn K (.ref p) "__get__" = some (some (.builtin "property.__get__"))
  tk : PySem.W.takesIn K (.ref p) = some true
  rc : ∃ rest, PySem.W.recIn K p "property" = some (.ref f :: rest)
  bd : Binds K fd ps []
def isC (c : Str) (ff : FV) (ds : List D) : D → Option D
  | .ins c' fs => if c' = c then ff (.ins c' fs :: ds) else none
  | _ => none
theorem fnRAt (A : Fam F P w base) (S : Sx F K mg N vis gl k) {X : Cx} (hX : F X) {CX : CXT} {j : Nat} {sp : Sp} (G : FnR P w K mg base CX j f sp) : FnR X.prog X.w X.K X.mg X.base CX j f sp := by
  rw [A.hP X hX, A.hw X hX, A.hb X hX, S.hK X hX, S.hmg X hX]; exact G
theorem ex_prop (A : Fam F P w base) (S : Sx F K mg N vis gl k) {c m : Str} {sl : List Str} {p : Addr} {j : Nat} {ff : FV} (C : Cl K c sl) (G : PrV P w K mg base c m p f fd ps j ff) (ha : EX F K Z own a g) (hj : j + 1 ≤ k := by decide)
    (hb : ∀ X, F X → attributeBase a m X.env (eval a X.env) = eval a X.env := by intro _ _; rfl) : EX F K Z own (.Attribute a m pos) (op1 (isC c ff []) g) := by
  obtain ⟨ta, pa, ha⟩ := ha
  have raw := G.ok.raw G.bd (dvs := []) .nil
  refine ⟨SlX.tPropSl (He.ga K c) (fun vs H Q E => spV K ps.length ff (vs ++ []) H Q E) E0 ta, fun X hX => SlX.pe_propSl (pa X hX) (by rw [S.hK X hX]; exact C.s) (by rw [S.hK X hX]; exact G.at_) (by rw [S.hK X hX]; exact G.get) (by rw [S.hK X hX]; exact G.tk) (by rw [S.hK X hX]; exact G.rc) (fnRAt A S hX raw) ((S.room X hX).mono hj) (fun _ _ _ _ h => h) (hb X hX), fun G' ρ σ H B R => ?_⟩
  refine Run.thn (p2 := fun y H1 Q => ∃ a dx vs, y = .ref a ∧ SlX.Slt H1 a (He.ga K c) dx vs ∧ spV K ps.length ff ([.ref a] ++ []) H1 Q E0) (ha G' ρ σ H B R) fun d ρ1 v H1 B1 _ e R1 l => Run.prim R1 ?_
  cases d with
  | ins c' ds =>
    show Prim K _ (if c' = c then ff (.ins c' ds :: []) else none) H1 B1 _
    split
    · rename_i ec
      subst ec
      obtain ⟨a, dx, us, rfl, hs, rs⟩ := rep_ins C.nf l
      cases hf : ff [.ins c' ds] with
      | none => trivial
      | some d => exact fun Q q => ⟨a, dx, _, rfl, sltX R1.keep.bh hs, B1, [.ins c' ds], d, by simp [← G.ar _ _ hf], ⟨R1.keep.bh, R1.keep.tab⟩, .one (.sl C.nf hs rs), hf, q⟩
    · trivial
  | _ => trivial
def chkC (c : Str) : D → Option D
  | .ins c' fs => if c' = c then some (.ins c' fs) else none
  | _ => none
def methD (c : Str) (ff : FV) (g : M D) (h : M (List D)) : M D := bnd g fun d => bnd (ofO (chkC c d)) fun e => bnd h fun ds => ofO (ff (e :: ds))
/-! ### making -/
/-- __init__: what it is given, the slots' values -/
abbrev FI := List D → Option (List D)
/-- H' is H but for the objects at x and dx and the tables -/
structure Chg2 (x dx : Addr) (H H' : Hp) : Prop where
  h : ∀ b o, H b = some o → b ≠ x → b ≠ dx → isTb o = false → H' b = some o
  dm : ∀ b o, H b = some o → ∃ o', H' b = some o'
  tk : TabsK H H'
def spI (K : PySem.W.Frag) (c : Str) (n : Nat) (f : FI) : Sp := fun vs H Q _ => ∃ B x dx ws ds fs, vs.length = n ∧ vs = .ref x :: ws ∧ (Ex B H ∧ TabK K H B) ∧ InsOk K H B x dx c [] [] ∧ Reps K B ws ds ∧ f ds = some fs ∧
  ∀ H' B' us, Ex B B' → Ex B' H' → Chg2 x dx H H' → TabK K H' B' → (∀ b o, H b = some o → B' b = B b) → InsOk K H' B' x dx c us fs → Q .non H'
def endI : SRes → Option (List D)
  | .nx ρ => (match look ρ 0 with
    | .ins _ fs => some fs
    | _ => none)
  | _ => none
def runI (c : Str) (n m : Nat) (g : SM) : FI := fun ds => if ds.length = m then endI (g (startD n (.ins c [] :: ds))) else none
theorem runI_ar {c : Str} {n m : Nat} {g : SM} {ds fs : List D} (h : runI c n m g ds = some fs) : ds.length = m := by
  unfold runI at h
  split at h
  · assumption
  · cases h
def ownI (n m : Nat) : List Stt := .I :: (List.replicate m .V ++ List.replicate (n - (m + 1)) .U)
def roI (n : Nat) : List Stt := .I :: List.replicate (n - 1) .U
theorem rel_startI {H B : Hp} {x dx : Addr} {c : Str} {vs : List V} {ds : List D} {n : Nat} (bh : Ex B H) (tb : TabK K H B) (o : InsOk K H B x dx c [] []) (r : Reps K B vs ds) (hn : vs.length + 1 ≤ N.length) (hm : vs.length = n) :
    Rel K ⟨H, B, fun b => b = x ∨ b = dx, fun _ => none, some (x, dx, c), none⟩ (ownI N.length n) (startD N.length (.ins c [] :: ds)) (L2.start N (.ref x :: vs)) H B := by
  have hl := r.len
  have key : ∀ (i : Nat) (si : Stt), (ownI N.length n)[i]? = some si → si.own = false := fun i si hi => by
    cases i with
    | zero => cases hi; rfl
    | succ i =>
      have hi' : (List.replicate n Stt.V ++ List.replicate (N.length - (n + 1)) Stt.U)[i]? = some si := hi
      by_cases hlt : i < n
      · rw [List.getElem?_append_left (by simpa using hlt), List.getElem?_replicate, if_pos hlt] at hi'
        cases hi'; rfl
      · rw [List.getElem?_append_right (by simpa using hlt), List.getElem?_replicate] at hi'
        split at hi'
        · cases hi'; rfl
        · cases hi'
  refine ⟨⟨bh, fun _ _ e => (nomatch e), fun _ _ e => (nomatch e), Ex.rfl, fun _ _ e _ _ => e, fun a o e => ⟨o, e⟩, fun _ _ _ => rfl, fun _ _ e => (nomatch e), TabsK.rfl, tb⟩, ?_, ?_, fun i st h => ?_, fun i j si sj b hi hj oi oj _ _ => by rw [key i si hi] at oi; cases oi⟩
  · simp [startD, ownI]; omega
  · simp [L2.start, ownI]; omega
  · cases i with
    | zero => cases h; exact ⟨x, dx, c, [], [], rfl, rfl, o, ⟨rfl, rfl⟩, rfl, by simp, by simp⟩
    | succ i =>
      have h' : (List.replicate n Stt.V ++ List.replicate (N.length - (n + 1)) Stt.U)[i]? = some st := h
      by_cases hi : i < n
      · rw [List.getElem?_append_left (by simpa using hi), List.getElem?_replicate, if_pos hi] at h'
        cases h'
        have hd : i < ds.length := by omega
        obtain ⟨v, hv, rv⟩ := r.get (List.getElem?_eq_getElem hd)
        refine ⟨v, ?_, ?_⟩
        · unfold L2.start
          rw [List.getElem?_append_left (by simp; omega), List.getElem?_map, List.getElem?_cons_succ, hv]
          rfl
        · unfold look startD
          rw [List.getD_eq_getElem?_getD, List.getElem?_append_left (by simp; omega), List.getElem?_cons_succ, List.getElem?_eq_getElem hd]
          exact rv
      · rw [List.getElem?_append_right (by simpa using hi), List.getElem?_replicate] at h'
        split at h'
        · cases h'; trivial
        · cases h'
theorem fn_I {x qual : Str} {params : Arguments} {body : List Stmt} {scope : Scope} {dvs : List V} {kws : List (Str × V)} {c : Str} {g : SM} {own' : List Stt} {m : Nat} (Fd : FunD K x qual params body scope dvs kws f fd) (S : FnScope N ps scope) (hps : ps.length = m + 1)
    (h : STs (bodyF P w K mg base N qual scope f k) K (ctlV N.length) (ownI N.length m) body g own') (ho : leB (roI N.length) own' = true) : FnOk P w K mg base CX0 (k + 1) f fd ps (spI K c ps.length (runI c N.length m g)) := by
  obtain ⟨t, pt, h⟩ := h
  have hpl : ps.length ≤ N.length := by
    have := congrArg List.length S.pre
    rw [List.length_take] at this
    omega
  refine FunD.okC Fd S (fun vs H Q E ⟨B, x, dx, ws, ds, fs, hl, _⟩ => hl) fun cdv A outer s H vs Q E hc hr ⟨B, x, dx, ws, ds, fs, hl, hv, ⟨bh, tb⟩, o, rws, hf, q⟩ => ⟨t, (pt _ ⟨cdv, A, outer, s, H, E, ⟨hr, hc⟩, rfl⟩).nox, ?_⟩
  subst hv
  have hw : ws.length = m := by simp at hl; omega
  refine h _ _ _ H B (rel_startI (N := N) bh tb o rws (by omega) hw) _ ?_
  unfold runI at hf
  rw [if_pos (by rw [← rws.len]; exact hw)] at hf
  cases hg : g (startD N.length (.ins c [] :: ds)) with
  | nx ρ =>
    rw [hg] at hf
    intro σ' H' B' e R
    have R := R.less ho
    obtain ⟨x', dx', c', us, fs', e1, e2, o', _, m0, _, _⟩ := R.slot 0 .I rfl
    cases m0
    have hf' : (match look ρ 0 with
      | .ins _ fs => some fs
      | _ => none) = some fs := hf
    rw [e2] at hf'
    cases hf'
    exact q H' B' us e R.keep.bh ⟨fun b o hb h1 h2 nt => R.keep.fr b o hb (by simp [h1, h2]) nt, R.keep.dom, R.keep.tk⟩ R.keep.tab (fun b o hb => R.keep.old b o hb) o'
  | rt d' ρ => rw [hg] at hf; cases hf
  | bk ρ => rw [hg] at hf; cases hf
  | ct ρ => rw [hg] at hf; cases hf
  | ex c fs ρ => rw [hg] at hf; cases hf
  | bad => rw [hg] at hf; cases hf
/-- self.f = e, the next slot -/
def slotS (c : Str) (i : Nat) (g : M D) : SM := sbd g fun d ρ => match look ρ 0 with
  | .ins c' fs => if c' = c ∧ fs.length = i then .nx (ρ.set 0 (.ins c' (fs ++ [d]))) else .bad
  | _ => .bad
theorem putS_next (us : List V) (v : V) : SlX.putS us.length v (us.map some) = (us ++ [v]).map some := by
  unfold SlX.putS
  rw [List.length_map, show us.length + 1 - us.length = 1 by omega]
  show (us.map some ++ [none]).set us.length (some v) = (us ++ [v]).map some
  rw [List.set_append_right _ _ (by simp), List.length_map, Nat.sub_self, List.map_append]
  rfl
theorem Rel.slotted {G : Gam} {ρ : Env} {σ : L2.St} {H B : Hp} (R : Rel K G own ρ σ H B) {x dx : Addr} {c : Str} {us : List V} {fs : List D} {v : V} {d : D} (ho : own[0]? = some .I) (h1 : (own.tail.all fun s => s == .V || s == .U) = true) (e1 : (σ[0]?).join = some (.ref x)) (o : InsOk K H B x dx c us fs) (hp : G.pr x = none ∧ G.pr dx = none) (hm : G.me = some (x, dx, c)) (r1 : G.ref x) (r2 : G.ref dx) (rv : Rep K B v d) :
    Rel K G own (ρ.set 0 (.ins c (fs ++ [d]))) σ (SlX.slH H x (He.ga K c) dx ((us ++ [v]).map some)) B := by
  have hl := R.own_lt ho
  have noOwn : ∀ (i : Nat) (si : Stt), own[i]? = some si → si.own = true → False := fun i si hi oi => by
    cases own with
    | nil => cases hi
    | cons s0 rest =>
      cases i with
      | zero => rw [ho] at hi; cases hi; cases oi
      | succ i =>
        have : si ∈ rest := List.mem_of_getElem? (show rest[i]? = some si from hi)
        have := List.all_eq_true.mp h1 _ this
        cases si with
        | U => cases oi
        | V => cases oi
        | I => cases oi
        | _ => exact absurd this (by decide)
  have off : ∀ b, b ≠ x → b ≠ dx → SlX.slH H x (He.ga K c) dx ((us ++ [v]).map some) b = H b := fun b n1 n2 => SlX.slH_ne n1 n2
  have hx : ∃ q, SlX.slH H x (He.ga K c) dx ((us ++ [v]).map some) x = some q := ⟨_, upd_same⟩
  have hdx : SlX.slH H x (He.ga K c) dx ((us ++ [v]).map some) dx = some (.xd []) := by unfold SlX.slH; rw [upd_ne o.ne, upd_same]
  obtain ⟨⟨qx, px1, px2⟩, qd, pd1, pd2⟩ := o.pl
  have px3 : upd H dx (.xd []) x = some qx := by rw [upd_ne (Ne.symm o.ne)]; exact px1
  have tk2 : TabsK H (SlX.slH H x (He.ga K c) dx ((us ++ [v]).map some)) := (TabsK.put pd1 pd2).trans (TabsK.put px3 px2)
  have tb2 : TabK K (SlX.slH H x (He.ga K c) dx ((us ++ [v]).map some)) B := (R.keep.tab.put pd1 pd2 rfl).put px3 px2 rfl
  refine ⟨⟨fun b q e => ?_, fun b q e => ?_, R.keep.prb, R.keep.b0, fun b q e nb nt => ?_, fun b q e => ?_, R.keep.old, R.keep.prn, R.keep.tk.trans tk2, tb2⟩, by simpa using R.lr, R.ls, fun j st hj => ?_, fun i j si sj a hi hj oi oj ei ej => (noOwn i si hi oi).elim⟩
  · rw [off b (ne_of_none e o.bx) (ne_of_none e o.bd)]; exact R.keep.bh b q e
  · rw [off b (ne_of_none e hp.1) (ne_of_none e hp.2)]; exact R.keep.pr b q e
  · rw [off b (fun z => nb (by rw [z]; exact r1)) (fun z => nb (by rw [z]; exact r2))]; exact R.keep.fr b q e nb nt
  · by_cases z : b = x
    · subst z; exact hx
    · by_cases z2 : b = dx
      · subst z2; exact ⟨_, hdx⟩
      · rw [off b z z2]; exact R.keep.dom b q e
  · rw [look_set (by rw [R.lr]; exact hl)]
    by_cases ej : j = 0
    · subst ej
      rw [if_pos rfl]
      rw [ho] at hj
      cases hj
      exact ⟨x, dx, c, us ++ [v], fs ++ [d], e1, rfl, ⟨SlX.slH_slt o.ne, .inr hdx, o.rs.append (.one rv), o.bx, o.bd, o.ne⟩, hp, hm, r1, r2⟩
    · rw [if_neg ej]
      have := R.slot j st hj
      have hin : st = .V ∨ st = .U := by
        cases own with
        | nil => cases hj
        | cons s0 rest =>
          cases j with
          | zero => exact absurd rfl ej
          | succ j =>
            have : st ∈ rest := List.mem_of_getElem? (show rest[j]? = some st from hj)
            have := List.all_eq_true.mp h1 _ this
            simpa using this
      rcases hin with rfl | rfl
      · exact this
      · trivial
theorem st_slot {C : Ctl} (S : Sx F K mg N vis gl k) {c : Str} {sl : List Str} (Cc : Cl K c sl) (i : Nat) {x y : Str} {e : Expr} {ps' pn pos' : Pos} (h : EX F K C.Z own e g) (hi : sl[i]? = some x := by rfl) (hN : N[0]? = some y := by rfl) (hv : vis[0]? = some true := by rfl) (ho : own[0]? = some .I := by rfl) (h1 : (own.tail.all fun s => s == .V || s == .U) = true := by rfl)
    (hs : ∀ X, F X → swapsWith e (some (.Attribute (.Name y pn) x ps')) pos'.line X.env = pure false := by intro _ _; rfl) : ST F K C own (.Assign [.Attribute (.Name y pn) x ps'] e pos') (slotS c i g) own := by
  obtain ⟨t, p, h⟩ := h
  refine ⟨SlX.sSl K (tVar 0) t x, fun X hX => let ⟨v1, v2, v3⟩ := S.vis X hX 0 y hv hN; atK (S.hK X hX) (fun K => PS X _ (SlX.sSl K (tVar 0) t x)) (SlX.ps_sl (pe_var (by rw [S.hN X hX]; exact hN) v1 v2 v3) (p X hX) (hs X hX)), fun G ρ σ H B R => ?_⟩
  refine SRun.ofE (p2 := fun v H1 E => ∃ z, σ[0]? = some (some z) ∧ ∃ a C dx p vs i, z = .ref a ∧ SlX.Slt H1 a C dx vs ∧ SlX.SCls K C ∧ SlX.Slot1 K C x p i ∧ E.nx σ (SlX.slH H1 a C dx (SlX.putS i v vs))) (h G ρ σ H B R) fun d ρ1 v H1 B1 _ e R1 l E hE => ?_
  obtain ⟨a, dx, c', us, fs, e1, e2, o, hp, hm, r1, r2⟩ := R1.slot 0 .I ho
  rw [e2] at hE
  change SPost K C G own (if c' = c ∧ fs.length = i then .nx (ρ1.set 0 (.ins c' (fs ++ [d]))) else .bad) B1 E at hE
  by_cases hc : c' = c ∧ fs.length = i
  · rw [if_pos hc] at hE
    obtain ⟨rfl, hlen⟩ := hc
    obtain ⟨pd, sp⟩ := Cc.at_ i x hi
    refine ⟨_, join_some e1, a, _, dx, pd, _, i, rfl, o.sl, Cc.s, sp, ?_⟩
    have hul : us.length = i := o.rs.len.trans hlen
    rw [← hul, putS_next]
    exact hE σ _ B1 Ex.rfl (R1.slotted ho h1 e1 o hp hm r1 r2 l)
  · rw [if_neg hc] at hE; exact hE.elim
/-! ### a call of the class -/
/-- what a caller knows of a class -/
structure ClI (P : Program) (w : World) (K : PySem.W.Frag) (mg : Str → Option Value) (base : Heap) (c : Str) (f : Addr) (fd : FuncData) (ps : List Str) (j : Nat) (fi : FI) : Prop where
  ok : FnOk P w K mg base CX0 j f fd ps (spI K c ps.length fi)
  ar : ∀ ds fs, fi ds = some fs → ds.length + 1 = ps.length ∧ fs ≠ []
  mkr : Mk K (He.ga K c) f
  mg : mg c = some (.ref (He.ga K c))
  nf : (flds c).isEmpty = true
def makeD (c : Str) (fi : FI) : List D → Option D := fun ds => (fi ds).map (.ins c)
theorem tab2 {B H : Hp} {x dx : Addr} {c : Str} (bh : Ex B H) (t : TabK K H B) (hx : H x = none) (hd : H dx = none) (hne : dx ≠ x) : TabK K (upd (upd H dx (.own x)) x (.ins (He.ga K c) dx [])) B := by
  have n1 : New K B H B (upd H dx (.own x)) := New.heap (K := K) bh hd
  exact (t.new n1).new (New.heap (K := K) n1.bh (by rw [upd_ne (Ne.symm hne)]; exact hx))
theorem made {B H H' B' : Hp} {x dx : Addr} {c : Str} {us : List V} {fs : List D} (bh : Ex B H) (hx : H x = none) (hd : H dx = none) (e1 : Ex B B') (e2 : Ex B' H') (hne : dx ≠ x) (e3 : Chg2 x dx (upd (upd H dx (.own x)) x (.ins (He.ga K c) dx [])) H') (tb : TabK K H' B') (e4 : ∀ b o, upd (upd H dx (.own x)) x (.ins (He.ga K c) dx []) b = some o → B' b = B b)
    (o : InsOk K H' B' x dx c us fs) (hfs : fs ≠ []) (hc : (flds c).isEmpty = true) : ∃ B2, New K B H B2 H' ∧ Rep K B2 (.ref x) (.ins c fs) := by
  have hus : us ≠ [] := fun z => by
    have := o.rs.len
    rw [z] at this
    exact hfs (List.length_eq_zero_iff.mp this.symm)
  rcases o.sl with ⟨_, z⟩ | ⟨h1, h2⟩
  · exact (hus (by simpa using z)).elim
  · have eB : Ex B' (upd (upd B' dx (.xd [])) x (SlX.SlO x (He.ga K c) dx (us.map some))) := fun b q e => by
      rw [upd_ne (ne_of_none e o.bx), upd_ne (ne_of_none e o.bd)]; exact e
    have keep : ∀ b q, H b = some q → b ≠ x ∧ b ≠ dx := fun b q e => ⟨ne_of_none e hx, ne_of_none e hd⟩
    have hold : ∀ b q, H b = some q → upd (upd H dx (.own x)) x (.ins (He.ga K c) dx []) b = some q := fun b q e => by
      obtain ⟨n1, n2⟩ := keep b q e
      rw [upd_ne n1, upd_ne n2]; exact e
    refine ⟨_, ⟨e1.trans eB, fun b q e nt => ?_, fun b q e => e3.dm b q (hold b q e), fun b q e => ?_, fun b q e => ?_, fun Q ps e => e3.tk Q ps (hold Q _ e), fun _ => tb.th, fun _ => ((tb.grow (a := dx) (o := .xd []) h2).grow (a := x) (o := SlX.SlO x (He.ga K c) dx (us.map some)) h1).nb⟩, (.sl hc (.inr ⟨upd_same, by rw [upd_ne o.ne, upd_same]⟩) (o.rs.mono eB))⟩
    · obtain ⟨n1, n2⟩ := keep b q e
      exact e3.h b q (hold b q e) n1 n2 nt
    · by_cases z : b = x
      · subst z; rw [upd_same] at e; rw [← e]; exact h1
      · rw [upd_ne z] at e
        by_cases z2 : b = dx
        · subst z2; rw [upd_same] at e; rw [← e]; exact h2
        · rw [upd_ne z2] at e; exact e2 b q e
    · obtain ⟨n1, n2⟩ := keep b q e
      rw [upd_ne n1, upd_ne n2]
      exact e4 b q (hold b q e)
theorem ex_make (A : Fam F P w base) (S : Sx F K mg N vis gl k) (i : Nat) {j : Nat} {fi : FI} {c : Str} {p pos : Pos} {e : Expr} {es : List Expr} {gs : M (List D)} {dvs : List V} {dds : List D} {ds : List Value} (G : ClI P w K mg base c f fd ps j fi) (hb : Binds K fd ps ds) (hd : Vals dvs ds) (hdd : ∀ B, Reps K B dvs dds) (ha : EXs F K Z own (e :: es) gs) (hj : j + 1 ≤ k := by decide)
    (hg : gl[i]? = some c := by rfl) (hs : ∀ X, F X → starEach (e :: es) X.env = (false, eval e X.env) :: starEach es X.env := by intro _ _; rfl) (hs2 : ∀ X, F X → ((backTo pos (starEach es X.env)).any fun q => q.1) = false := by intro _ _; rfl) :
    EX F K Z own (.Call (.Name c p) (e :: es) [] pos) (callD (fun xs => makeD c fi (xs ++ dds)) gs) := by
  obtain ⟨ta, pa, ha⟩ := ha
  refine ⟨tMake (He.ga K c) (spI K c ps.length fi) dvs E0 ta, fun X hX => let ⟨g1, g2, g3⟩ := S.gl X hX i c hg; pe_make (by rw [S.hK X hX]; exact G.mkr) (fnAt A S hX G.ok) ((S.room X hX).mono hj) g1 (by rw [S.hmg X hX]; exact G.mg) (by rw [S.hK X hX]; exact hb) hd (pass0 (X := X)) (pa X hX) g2 (hs X hX) (hs2 X hX), fun G' ρ σ H B R => ?_⟩
  refine Run.thn (p2 := fun vs H1 Q => ∀ x dx, H1 x = none → H1 dx = none → dx ≠ x → spI K c ps.length fi (.ref x :: (vs ++ dvs)) (upd (upd H1 dx (.own x)) x (.ins (He.ga K c) dx [])) (fun v H2 => v = .non ∧ Q (.ref x) H2) E0) (ha G' ρ σ H B R) fun es ρ1 vs H1 B1 _ e R1 l => Run.prim R1 ?_
  show Prim K _ ((fi (es ++ dds)).map (D.ins c)) H1 B1 _
  cases hf : fi (es ++ dds) with
  | none => trivial
  | some fs =>
    intro Q q x dx hx hdx hne
    obtain ⟨ar, hfs⟩ := G.ar _ _ hf
    have l' := l.append (hdd B1)
    refine ⟨B1, x, dx, vs ++ dvs, es ++ dds, fs, by rw [← ar]; simp [← l'.len], rfl, ⟨fun b o e => ?_, tab2 R1.keep.bh R1.keep.tab hx hdx hne⟩, ⟨.inl ⟨upd_same, rfl⟩, .inl (by rw [upd_ne hne, upd_same]), .nil, R1.keep.bh.free hx, R1.keep.bh.free hdx, hne⟩, l', hf, fun H' B' us e1 e2 e3 tb e4 o => ⟨rfl, ?_⟩⟩
    · have h1 := R1.keep.bh b o e
      rw [upd_ne (ne_of_none h1 hx), upd_ne (ne_of_none h1 hdx)]; exact h1
    · obtain ⟨B2, n2, r2⟩ := made R1.keep.bh hx hdx e1 e2 hne e3 tb e4 o hfs G.nf
      exact q _ _ B2 n2 r2
def makeK (c : Str) (fi : FI) (gD : List D → List D → List D) (g h : M (List D)) : M D := bnd g fun xs => bnd h fun ys => ofO (makeD c fi (gD xs ys))
end
end MP
namespace MP
open PySem L2
section
variable {F : CF} {K : PySem.W.Frag} {mg : Str → Option Value} {Z : XC} {own own1 own' : List Stt} {N : List Str} {vis : List Bool} {gl : List Str} {k : Nat} {a b : Expr} {g h : M D} {pos : Pos}
/-! ### tuple(x), list(x) -/
def tupleD : List D → Option D
  | [.tup ds] => some (.tup ds)
  | [.lst ds] => some (.tup ds)
  | _ => none
theorem cd_tuple : CallD K (fun xs H Q => ∃ p ys, xs = [V.ref p] ∧ ((SqL K H p ys ∧ ∀ l, H l = none → Q (V.ref l) (upd H l (.tup ys))) ∨ SqT K H p ys ∧ Q (V.ref p) H)) tupleD := fun vs ds H B bh r => by
  cases r with
  | nil => trivial
  | cons r rs =>
    cases rs with
    | cons _ _ => cases r <;> trivial
    | nil =>
      cases r with
      | tup hq rs hz => exact Prim.now bh (.tup hq rs hz) fun Q q => ⟨_, _, rfl, .inr ⟨seqT bh hq.1, q⟩⟩
      | lst hq rs hz => exact fun Q q => ⟨_, _, rfl, .inl ⟨bh.seq hq, fun l hl => q _ _ _ (New.alloc (K := K) bh hl) (.tup (tq upd_same) (rs.mono (New.alloc (K := K) bh hl).b) hz)⟩⟩
      | _ => trivial
theorem ex_tuple (S : Sx F K mg N vis gl k) (i : Nat) {p : Pos} (hm : mg "tuple" = none) (ha : EX F K Z own a g) (hg : gl[i]? = some ("tuple" : Str) := by rfl) (hs : ∀ X, F X → starEach [a] X.env = (false, eval a X.env) :: starEach [] X.env := by intro _ _; rfl) :
    EX F K Z own (.Call (.Name "tuple" p) [a] [] pos) (callD tupleD (consD g nilD)) :=
  ex_callTy S i (fun X hX => atK (S.hK X hX) (fun K => CallR X _ fun xs H Q => ∃ p ys, xs = [V.ref p] ∧ ((SqL K H p ys ∧ ∀ l, H l = none → Q (V.ref l) (upd H l (.tup ys))) ∨ SqT K H p ys ∧ Q (V.ref p) H)) call_tuple_of) cd_tuple hm PyProof.Rows.boot_tuple (es_cons ha es_nil hs) hg hs
/-- list(x): a new list -/
def listM (g : M D) : M (List D) := bnd g fun d => ofO (itemsOf d)
/-! ### all, any, sum -/
def boolsOf : List D → Option (List Bool)
  | [] => some []
  | .bl b :: ds => (boolsOf ds).map (b :: ·)
  | _ => none
theorem reps_bools {B : Hp} : ∀ {vs : List V} {ds : List D} {bs : List Bool}, Reps K B vs ds → boolsOf ds = some bs → vs = bs.map V.bl
  | _, _, _, .nil, h => by cases h; rfl
  | _, _, bs, .cons r t, h => by
    cases r with
    | bl b =>
      rename_i us es
      have h' : (boolsOf es).map (b :: ·) = some bs := h
      cases hb : boolsOf es with
      | none => rw [hb] at h'; cases h'
      | some cs => rw [hb] at h'; cases h'; rw [reps_bools t hb]; rfl
    | _ => cases h
def allD : List D → Option D
  | [.lst ds] => (boolsOf ds).map fun bs => .bl (bs.all id)
  | _ => none
theorem cd_lst1 {r : List V → Hp → VK → Prop} {f : List D → Option D} (h : ∀ {a : Addr} {us : List V} {ds : List D} {H B : Hp}, Ex B H → SqL K B a us → Reps K B us ds → ds.length ≤ sizeLine → Prim K (RV K) (f [.lst ds]) H B (r [.ref a] H)) (hn : ∀ ds, (∀ es, ds ≠ [D.lst es]) → f ds = none) : CallD K r f := fun vs ds H B bh rs => by
  by_cases hd : ∃ es, ds = [D.lst es]
  · obtain ⟨es, rfl⟩ := hd
    cases rs with
    | cons q t =>
      cases t
      cases q with
      | lst hq rs hz => exact h bh hq rs hz
  · rw [hn ds fun es z => hd ⟨es, z⟩]; trivial
theorem cd_all : CallD K (rAll K) allD := cd_lst1 (fun {a us ds H B} bh hq rs hz => by
    show Prim K _ ((boolsOf ds).map fun bs => D.bl (bs.all id)) H B _
    cases hb : boolsOf ds with
    | none => trivial
    | some bs => exact Prim.now bh (.bl _) fun Q q => ⟨a, bs, rfl, by rw [← reps_bools rs hb]; exact bh.seq hq, q⟩) fun ds hd => by
  unfold allD
  split
  · exact (hd _ rfl).elim
  · rfl
theorem ex_all (S : Sx F K mg N vis gl k) (i : Nat) {p : Pos} (hm : mg "all" = none) (ha : EX F K Z own a g) (hg : gl[i]? = some ("all" : Str) := by rfl) (hs : ∀ X, F X → starEach [a] X.env = (false, eval a X.env) :: starEach [] X.env := by intro _ _; rfl) :
    EX F K Z own (.Call (.Name "all" p) [a] [] pos) (callD allD (consD g nilD)) := ex_callB S i (fun X hX => atK (S.hK X hX) (fun K => CallR X _ (rAll K)) (cr_all (S.calm X hX))) cd_all hm PyProof.Rows.boot_all (es_cons ha es_nil hs) hg hs
/-! ### int, isinstance -/
def intD : List D → Option D
  | [.int i] => some (.int i)
  | [.bl b] => some (.int (if b then 1 else 0))
  | _ => none
theorem cd_int : CallD K (fun xs H Q => (∃ i, xs = [V.int i] ∧ Q (V.int i) H) ∨ ∃ k, xs = [V.bl k] ∧ Q (V.int (if k = true then 1 else 0)) H) intD := fun vs ds H B bh r => by
  cases r with
  | nil => trivial
  | cons r rs =>
    cases rs with
    | cons _ _ => cases r <;> trivial
    | nil =>
      cases r with
      | int i => exact Prim.now bh (.int i) fun Q q => .inl ⟨i, rfl, q⟩
      | bl b => exact Prim.now bh (.int _) fun Q q => .inr ⟨b, rfl, q⟩
      | _ => trivial
theorem ex_intc (S : Sx F K mg N vis gl k) (i : Nat) {p : Pos} (hm : mg "int" = none) (ha : EX F K Z own a g) (hg : gl[i]? = some ("int" : Str) := by rfl) (hs : ∀ X, F X → starEach [a] X.env = (false, eval a X.env) :: starEach [] X.env := by intro _ _; rfl) :
    EX F K Z own (.Call (.Name "int" p) [a] [] pos) (callD intD (consD g nilD)) := ex_callTy S i (fun X hX => call_int1) cd_int hm PyProof.Rows.boot_int (es_cons ha es_nil hs) hg hs
def tyName : D → Option String
  | .non => some "NoneType"
  | .bl _ => some "bool"
  | .int _ => some "int"
  | .str _ => some "str"
  | _ => none
def isiD (T : String) (d : D) : Option D := (tyName d).bind fun t => (kitB t T).map .bl
theorem ex_isi (S : Sx F K mg N vis gl k) (i j : Nat) (T : String) {t : Str} {p pt : Pos} (hm : mg "isinstance" = none) (hmT : mg t = none) (hbT : bootBuiltins t = some (.type T)) (ha : EX F K Z own a g) (hg : gl[i]? = some ("isinstance" : Str) := by rfl) (hgT : gl[j]? = some t := by rfl)
    (hs : ∀ X, F X → starEach [a, .Name t pt] X.env = (false, eval a X.env) :: starEach [.Name t pt] X.env := by intro _ _; rfl) (hs3 : ∀ X, F X → starEach [.Name t pt] X.env = (false, eval (.Name t pt) X.env) :: starEach [] X.env := by intro _ _; rfl)
    (hs2 : ∀ X, F X → ((backTo pos (starEach [.Name t pt] X.env)).any fun q => q.1) = false := by intro _ _; rfl) :
    EX F K Z own (.Call (.Name "isinstance" p) [a, .Name t pt] [] pos) (op1 (isiD T) g) := by
  obtain ⟨ta, pa, ha⟩ := ha
  refine ⟨tCB (rIsi K) (tCons ta (tCons (tC (.ty T)) tNil)), fun X hX => let ⟨g1, g2, g3⟩ := S.gl X hX i _ hg; let ⟨t1, t2, t3⟩ := S.gl X hX j _ hgT;
    pe_callB (atK (S.hK X hX) (fun K => CallR X _ (rIsi K)) call_isi) g1 (by rw [S.hmg X hX]; exact hm) PyProof.Rows.boot_isinstance (pa_cons (pa X hX) (pa_cons (pe_bltn (v := .ty T) t1 (by rw [S.hmg X hX]; exact hmT) hbT rfl t3 t2) pa_nil (hs3 X hX)) (hs X hX)) g3 g2 (hs X hX) (hs2 X hX), fun G ρ σ H B R => ?_⟩
  refine Run.thn (p2 := fun x H1 Q => rIsi K [x, .ty T] H1 Q) (ha G ρ σ H B R) fun d ρ1 v H1 B1 _ e R1 l => Run.prim R1 ?_
  have go : ∀ (n : String), tyName d = some n → TyOf K H1 v (.type n) → Prim K (RV K) (isiD T d) H1 B1 (rIsi K [v, .ty T] H1) := fun n hn ty => by
    unfold isiD
    rw [hn]
    show Prim K _ ((kitB n T).map D.bl) H1 B1 _
    cases hk : kitB n T with
    | none => trivial
    | some b => exact Prim.now R1.keep.bh (.bl b) fun Q q => ⟨v, .ty T, .type n, .type T, b, rfl, .ty T, .base ty, kit_ty hk, q⟩
  cases l with
  | non => exact go _ rfl .non
  | bl b => exact go _ rfl (.bl b)
  | int i => exact go _ rfl (.int i)
  | str s h => exact go _ rfl (.str s)
  | _ => trivial
/-! ### tuple(range(..)), list(range(..)) -/
theorem rep_rg {B : Hp} (n : Int) : Reps K B (rgV 0 n) (rangeL 0 n) := by
  unfold rgV rangeL
  generalize List.range (n - 0).toNat = l
  induction l with
  | nil => exact .nil
  | cons x xs ih => exact .cons (.int _) ih
def rgD (d : D) : Option (List D) := match d with
  | .int n => if 0 ≤ n ∧ n ≤ 16000000 then some (rangeL 0 n) else none
  | _ => none
theorem rangeL_len (n : Int) : (rangeL 0 n).length = n.toNat := by unfold rangeL; simp
theorem ex_tupRg (S : Sx F K mg N vis gl k) (i j : Nat) {p q pos2 : Pos} (hm : mg "tuple" = none) (hr : mg "range" = none) (ha : EX F K Z own a g) (hg : gl[i]? = some ("tuple" : Str) := by rfl) (hg2 : gl[j]? = some ("range" : Str) := by rfl)
    (hs : ∀ X, F X → starEach [a] X.env = (false, eval a X.env) :: starEach [] X.env := by intro _ _; rfl) (hs2 : ∀ X, F X → starEach [.Call (.Name "range" q) [a] [] pos2] X.env = (false, eval (.Call (.Name "range" q) [a] [] pos2) X.env) :: starEach [] X.env := by intro _ _; rfl) :
    EX F K Z own (.Call (.Name "tuple" p) [.Call (.Name "range" q) [a] [] pos2] [] pos) (op1 (fun d => (rgD d).map .tup) g) := by
  obtain ⟨ta, pa, ha⟩ := ha
  refine ⟨_, fun X hX => pe_tupRg (S.calm X hX) (S.gl X hX i _ hg).1 (by rw [S.hmg X hX]; exact hm) (prg_1 (S.gl X hX j _ hg2).1 (by rw [S.hmg X hX]; exact hr) (pa X hX) (hs X hX)) (hs2 X hX), fun G ρ σ H B R => ?_⟩
  refine Run.thn (p2 := fun x H1 Q => ∃ n, x = V.int n ∧ (RgOk 0 n ∧ ∀ q, H1 q = none → Q (.ref q) (upd H1 q (.tup (rgV 0 n))))) (ha G ρ σ H B R) fun d ρ1 v H1 B1 _ e R1 l => Run.prim R1 ?_
  cases l with
  | int n =>
    show Prim K _ ((if 0 ≤ n ∧ n ≤ 16000000 then some (rangeL 0 n) else none).map D.tup) H1 B1 _
    split
    · rename_i hn
      exact fun Q q => ⟨n, rfl, ⟨by decide, by decide, by omega, by omega, by omega⟩, fun p hp => q _ _ _ (New.alloc (K := K) R1.keep.bh hp) (.tup (tq upd_same) (rep_rg n) (by rw [rangeL_len, sizeLine_eq]; omega))⟩
    · trivial
  | _ => trivial
/-! ### a list of the frame's own is changed -/
def appS (j : Nat) (g : M D) : SM := sbd g fun d ρ => match look ρ j with
  | .lst rs => if rs.length < 16000000 then .nx (ρ.set j (.lst (rs ++ [d]))) else .bad
  | _ => .bad
theorem Rel.mut {G : Gam} {ρ : Env} {σ : L2.St} {H B : Hp} (R : Rel K G own ρ σ H B) {j : Nat} {st : Stt} {a : Addr} {us : List V} {rs' : List D} (hj : own[j]? = some st) (hs : st.isL = true) (ha : (σ[j]?).join = some (.ref a)) (hb : B a = none) (ru : Reps K B us rs') (hz : rs'.length ≤ sizeLine) : Rel K G own (ρ.set j (.lst rs')) σ (upd H a (.lst us)) B := by
  obtain ⟨a', rs0, ea, er0, us0, h0, _⟩ := R.ownAt hj hs
  rw [ha] at ea
  cases ea
  exact R.changed hj (Stt.isL_own hs) ha Ex.rfl (fun b o e => by rw [upd_ne (ne_of_none e hb)]; exact R.keep.bh b o e)
    ⟨fun b o e ne _ => by rw [upd_ne (fun z => ne (.inl z))]; exact e, fun b o e => (by
      by_cases z : b = a
      · subst z; exact ⟨_, upd_same⟩
      · exact ⟨o, by rw [upd_ne z]; exact e⟩), TabsK.put h0 plain_lst, fun b r => .inl (.inl (Root.lst upd_same r))⟩ (R.keep.tab.put h0 plain_lst rfl) (fun _ _ _ => rfl) (show LstOk K _ B a rs' from ⟨us, upd_same, ru, hz, hb⟩) (fun _ => trivial) (kind_lst hs rs') (.inl ⟨rs0, rs', er0, rfl⟩)
theorem st_append {C : Ctl} (S : Sx F K mg N vis gl k) (j : Nat) {st : Stt} {x : Str} {e : Expr} {px ap cp : Pos} (h : EX F K C.Z own e g) (hN : N[j]? = some x := by rfl) (hv : vis[j]? = some true := by rfl) (ho : own[j]? = some st := by rfl) (hst : st.isL = true := by rfl)
    (h1 : ∀ X, F X → attributeBase (.Name x px) "append" X.env (eval (.Name x px) X.env) = eval (.Name x px) X.env := by intro _ _; rfl)
    (h2 : ∀ X, F X → (((backTo cp (starEach [e] X.env)).all fun x => !x.1) && (backToKw cp (keywordEach [] X.env)).all fun x => x.1.isSome) && decide (([e].length + ([] : List Keyword).length + if ([] : List Keyword).isEmpty = true then 0 else 1) < 30) = true := by intro _ _; rfl) (h3 : (ap.endLine == cp.line) = true := by rfl)
    (hs : ∀ X, F X → starEach [e] X.env = (false, eval e X.env) :: starEach [] X.env := by intro _ _; rfl)
    (hw : ∀ X, F X → swapsWith (.Call (.Attribute (.Name x px) "append" ap) [e] [] cp) none pos.line X.env = pure false := by intro _ _; rfl) : ST F K C own (.Expr (.Call (.Attribute (.Name x px) "append" ap) [e] [] cp) pos) (appS j g) own := by
  obtain ⟨t, p, h⟩ := h
  refine ⟨tDrop (tBM K "list" rAppend (tVar j) (tCons t tNil)), fun X hX => let ⟨v1, v2, v3⟩ := S.vis X hX j x hv hN;
    atK (S.hK X hX) (fun K => PS X _ (tDrop (tBM K "list" rAppend (tVar j) (tCons t tNil)))) (ps_expr (pe_bm PySem.F.plainAttrs_list PySem.F.slot_list_append PySem.F.type_list_append mt_append (pe_var (by rw [S.hN X hX]; exact hN) v1 v2 v3) (pa_cons (p X hX) pa_nil (hs X hX)) (h1 X hX) (h2 X hX) h3 (hs X hX) rfl) (hw X hX)), fun G ρ σ H B R => ?_⟩
  obtain ⟨a, rs0, ea, _, us0, hu0, _⟩ := R.ownAt ho hst
  refine SRun.ofE (p2 := fun v H1 E => rAppend (.ref a) [v] H1 fun _ H2 => E.nx σ H2) (h G ρ σ H B R) (fun d ρ1 v H1 B1 _ e R1 l E hE => ?_) fun E q => ⟨.ref a, join_some ea, .inl ⟨rfl, us0, .inl (.inl hu0)⟩, q⟩
  obtain ⟨a', rs, ea', er, us, hu, ru, hz, hb⟩ := R1.ownAt ho hst
  rw [ea] at ea'
  cases ea'
  rw [er] at hE
  change SPost K C G own (if rs.length < 16000000 then .nx (ρ1.set j (.lst (rs ++ [d]))) else .bad) B1 E at hE
  by_cases hl : rs.length < 16000000
  · rw [if_pos hl] at hE
    refine ⟨a, us, v, rfl, rfl, hu, by rw [ru.len, sizeLine_eq]; omega, ?_⟩
    exact hE σ _ B1 Ex.rfl (R1.mut ho hst ea hb (ru.append (.one l)) (by rw [sizeLine_eq]; simp; omega))
  · rw [if_neg hl] at hE; exact hE.elim
end
end MP
namespace MP
open PySem L2
section
variable {F : CF} {K : PySem.W.Frag} {mg : Str → Option Value} {Z : XC} {own own1 own' : List Stt} {N : List Str} {vis : List Bool} {gl : List Str} {k : Nat} {a b : Expr} {g h : M D} {pos : Pos}
/-- x[i] = e -/
def setIxS (j : Nat) (gi ge : M D) : SM := sbd ge fun d => sbd gi fun i ρ => match look ρ j with
  | .lst rs => (match i with
    | .int z => (match ixN rs.length z with
      | some n => .nx (ρ.set j (.lst (rs.set n d)))
      | none => .bad)
    | _ => .bad)
  | _ => .bad
theorem st_setIx {C : Ctl} (S : Sx F K mg N vis gl k) (j : Nat) {st : Stt} {x : Str} {e i : Expr} {gi : M D} {px sp : Pos} (hi : EX F K C.Z own i gi) (h : EX F K C.Z own e g) (hN : N[j]? = some x := by rfl) (hv : vis[j]? = some true := by rfl) (ho : own[j]? = some st := by rfl) (hst : st.isL = true := by rfl)
    (h1 : ∀ X, F X → ∀ v : Value, assign (.Subscript (.Name x px) i sp) X.env v = (do
      let ov ← holding [v] (eval (.Name x px) X.env)
      let iv ← holding [v, ov] (eval i X.env)
      standAt sp
      holding [v, ov, iv] (setItem ov iv v)
      release [v, ov, iv] []) := by intro _ _ _; rfl)
    (h2 : ∀ X, F X → swapsWithSole [.Subscript (.Name x px) i sp] e pos.line X.env = pure false := by intro _ _; rfl) (h3 : ∀ X, F X → swappedStores [.Subscript (.Name x px) i sp] e X.env = pure none := by intro _ _; rfl)
    (h4 : ∀ X, F X → (assignEach [.Subscript (.Name x px) i sp] X.env).map (·.2) = [assign (.Subscript (.Name x px) i sp) X.env] := by intro _ _; rfl) : ST F K C own (.Assign [.Subscript (.Name x px) i sp] e pos) (setIxS j gi g) own := by
  obtain ⟨t, p, h⟩ := h
  obtain ⟨ti, pi, hi⟩ := hi
  refine ⟨_, fun X hX => let ⟨v1, v2, v3⟩ := S.vis X hX j x hv hN; ps_asg (p X hX) (pg_sub (pe_var (by rw [S.hN X hX]; exact hN) v1 v2 v3) (pi X hX) set_list (h1 X hX)) (h2 X hX) (h3 X hX) (h4 X hX), fun G ρ σ H B R => ?_⟩
  refine SRun.ofE (p2 := fun v H1 E => ∃ z, σ[j]? = some (some z) ∧ ti σ H1 fun i H3 => rSetL z i v H3 fun H4 => E.nx σ H4) (h G ρ σ H B R) fun d ρ1 v H1 B1 _ e R1 l => ?_
  obtain ⟨a, rs0, ea, _⟩ := R1.ownAt ho hst
  refine SRun.ofE (p2 := fun i H3 E => rSetL (.ref a) i v H3 fun H4 => E.nx σ H4) (hi G ρ1 σ H1 B1 R1) (fun d2 ρ2 v2 H2 B2 _ e2 R2 l2 E hE => ?_) fun E q => ⟨.ref a, join_some ea, q⟩
  obtain ⟨a', rs, ea', er, us, hu, ru, hz, hb⟩ := R2.ownAt ho hst
  rw [ea] at ea'
  cases ea'
  rw [er] at hE
  cases l2 with
  | int z =>
    dsimp only at hE
    cases hn : ixN rs.length z with
    | none => rw [hn] at hE; exact hE.elim
    | some n =>
      rw [hn] at hE
      refine ⟨a, us, z, n, rfl, rfl, hu, by rw [ru.len]; exact hn, ?_⟩
      exact hE σ _ B2 Ex.rfl (R2.mut ho hst ea hb (ru.set (l.mono e2) n) (by simpa using hz))
  | _ => exact hE.elim
/-- x == e, x != e, x a list of the frame's own -/
def cmpOwn (f : D → D → Option D) (j : Nat) (h : M D) : M D := bnd h fun d ρ => ofO (f (look ρ j) d) ρ
theorem own_shaped {B H : Hp} {a : Addr} {us : List V} {rs : List D} (bh : Ex B H) (hu : H a = some (.lst us)) (ru : Reps K B us rs) (h : okD (.lst rs) = true) : Dp K H (.ref a) (D.lst rs).py ∧ SeqAt.shaped (D.lst rs).py = true := by
  unfold okD at h
  rw [Bool.and_eq_true] at h
  obtain ⟨x, y⟩ := ru.dp bh (by simpa [D.plain] using h.1)
  refine ⟨by rw [D.py]; exact .lst (.inl (.inl hu)) x, ?_⟩
  unfold SeqAt.shaped
  rw [h.2, Bool.and_true, D.py, PyData.canLay0]
  exact y
/-! ### a, b = e1, e2 -/
/-- how an item of the right side stands: a value, a new list -/
def setPar (i j : Nat) (g h : M D) : SM := sbd g fun x => sbd h fun y ρ => .nx ((ρ.set i x).set j y)
theorem st_parVV {C : Ctl} (S : Sx F K mg N vis gl k) {lv : List Bool} (L : Lx F N lv) (i j : Nat) {x y : Str} {px py pt pt2 : Pos} {kt k2 : Nat} (ha : EX F K C.Z own a g) (hb : EX F K C.Z own b h) (hx : ∀ X, F X → X.env.scope.names.lookup x = some .local) (hy : ∀ X, F X → X.env.scope.names.lookup y = some .local) (hNi : N[i]? = some x := by rfl) (hNj : N[j]? = some y := by rfl) (hij : i ≠ j := by decide) (ho : (own.set i .V).set j .V = own' := by rfl)
    (hs1 : ∀ X, F X → starEach [a, b] X.env = (false, eval a X.env) :: starEach [b] X.env := by intro _ _; rfl) (hs2 : ∀ X, F X → starEach [b] X.env = (false, eval b X.env) :: starEach [] X.env := by intro _ _; rfl)
    (hw : ∀ X, F X → swappedStores [.Tuple [.Name x px, .Name y py] kt pt] (.Tuple [a, b] k2 pt2) X.env = pure (some [x, y]) := by intro _ _; rfl) (hw2 : ∀ X, F X → swapsWithSole [.Tuple [.Name x px, .Name y py] kt pt] (.Tuple [a, b] k2 pt2) pos.line X.env = pure false := by intro _ _; rfl) :
    ST F K C own (.Assign [.Tuple [.Name x px, .Name y py] kt pt] (.Tuple [a, b] k2 pt2) pos) (setPar i j g h) own' := by
  obtain ⟨ta, pa, ha⟩ := ha
  obtain ⟨tb, pb, hb⟩ := hb
  subst ho
  refine ⟨_, fun X hX => ps_par (i := i) (j := j) (S.calm X hX) (by rw [S.hN X hX]; exact L.nd) (by rw [S.hN X hX]; exact hNi) (by rw [S.hN X hX]; exact hNj) hij (hx X hX) (hy X hX) (pa_cons (pa X hX) (pa_cons (pb X hX) pa_nil (hs2 X hX)) (hs1 X hX)) (hw X hX) (hw2 X hX), fun G ρ σ H B R => ?_⟩
  refine SRun.ofE (p2 := fun v H1 E => tb σ H1 fun u H2 => ∃ v' w, [v, u] = [v', w] ∧ E.nx ((σ.set i (some v')).set j (some w)) H2) (ha G ρ σ H B R) fun d ρ1 v H1 B1 _ e R1 l => ?_
  refine SRun.ofE (p2 := fun u H2 E => ∃ v' w, [v, u] = [v', w] ∧ E.nx ((σ.set i (some v')).set j (some w)) H2) (hb G ρ1 σ H1 B1 R1) fun d2 ρ2 v2 H2 B2 _ e2 R2 l2 E hE => ?_
  exact ⟨v, v2, rfl, hE _ H2 B2 Ex.rfl ((R2.setV (l.mono e2)).setV l2)⟩
end
end MP
namespace MP
open PySem L2
/-! ### contexts, by checks of the text -/
def isVis (sc : Scope) (x : Str) : Bool := match sc.names.lookup x with
  | some .local => true
  | some .cell => true
  | some .free => true
  | _ => false
def visB (sc : Scope) : List Str → List Bool → Bool
  | x :: N, true :: vs => isVis sc x && !(x == ("__debug__" : Str)) && !(x == ("__classdict__" : Str)) && visB sc N vs
  | _ :: N, false :: vs => visB sc N vs
  | _, _ => true
theorem isVis_ok {sc : Scope} {x : Str} (h : isVis sc x = true) : Vis sc x := by
  unfold isVis at h
  unfold Vis
  split at h <;> simp_all
theorem visB_at {sc : Scope} : ∀ {N : List Str} {vs : List Bool} {i : Nat} {x : Str}, visB sc N vs = true → vs[i]? = some true → N[i]? = some x → Vis sc x ∧ (x == ("__debug__" : Str)) = false ∧ (x == ("__classdict__" : Str)) = false
  | [], _, _, _, _, _, h => by simp at h
  | _ :: _, [], _, _, _, h, _ => by simp at h
  | y :: N, b :: vs, 0, x, h, h1, h2 => by
    simp at h1 h2
    subst h1 h2
    have h' : (isVis sc y && !(y == ("__debug__" : Str)) && !(y == ("__classdict__" : Str)) && visB sc N vs) = true := h
    simp only [Bool.and_eq_true, Bool.not_eq_true'] at h'
    exact ⟨isVis_ok h'.1.1.1, h'.1.1.2, h'.1.2⟩
  | y :: N, b :: vs, i + 1, x, h, h1, h2 => by
    refine visB_at (N := N) (vs := vs) (i := i) ?_ (by simpa using h1) (by simpa using h2)
    cases b with
    | true => have h' : (isVis sc y && !(y == ("__debug__" : Str)) && !(y == ("__classdict__" : Str)) && visB sc N vs) = true := h; exact (Bool.and_eq_true_iff.mp h').2
    | false => exact h
def glB (sc : Scope) (gl : List Str) : Bool := gl.all fun x => decide (sc.names.lookup x = some .globalImplicit) && !(x == ("__debug__" : Str)) && decide (x ≠ "__name__")
def isLoc (sc : Scope) (x : Str) : Bool := match sc.names.lookup x with
  | some .local => true
  | some .cell => true
  | _ => false
def locB (sc : Scope) : List Str → List Bool → Bool
  | x :: N, true :: vs => isLoc sc x && locB sc N vs
  | _ :: N, false :: vs => locB sc N vs
  | _, _ => true
theorem locB_at {sc : Scope} : ∀ {N : List Str} {vs : List Bool} {i : Nat} {x : Str}, locB sc N vs = true → vs[i]? = some true → N[i]? = some x → L2.Loc sc x
  | [], _, _, _, _, _, h => by simp at h
  | _ :: _, [], _, _, _, h, _ => by simp at h
  | y :: N, b :: vs, 0, x, h, h1, h2 => by
    simp at h1 h2
    subst h1 h2
    have h' := (Bool.and_eq_true_iff.mp (show (isLoc sc y && locB sc N vs) = true from h)).1
    unfold isLoc at h'
    unfold L2.Loc
    split at h' <;> simp_all
  | y :: N, b :: vs, i + 1, x, h, h1, h2 => by
    refine locB_at (N := N) (vs := vs) (i := i) ?_ (by simpa using h1) (by simpa using h2)
    cases b with
    | true => exact (Bool.and_eq_true_iff.mp (show (isLoc sc y && locB sc N vs) = true from h)).2
    | false => exact h
section
variable {P : Program} {w : World} {K : PySem.W.Frag} {mg : Str → Option Value} {base : Heap} {N : List Str} {qual : Str} {sc : Scope} {f : Addr} {k : Nat} {vis lv : List Bool} {gl : List Str} {F : CF} {C : Value → Prop}
theorem glB_at {gl : List Str} (h : glB sc gl = true) {i : Nat} {x : Str} (hi : gl[i]? = some x) : sc.names.lookup x = some .globalImplicit ∧ (x == ("__debug__" : Str)) = false ∧ x ≠ "__name__" := by
  have := List.all_eq_true.mp h x (List.mem_of_getElem? hi)
  simp only [Bool.and_eq_true, Bool.not_eq_true', decide_eq_true_eq] at this
  exact ⟨this.1.1, this.1.2, this.2⟩
theorem sx_body (hv : visB sc N vis = true) (hg : glB sc gl = true) : Sx (bodyG C P w K mg base N qual sc f k) K mg N vis gl k where
  hK := fun X ⟨_, _, _, _, _, _, _, e⟩ => by rw [e]; rfl
  hmg := fun X ⟨_, _, _, _, _, _, _, e⟩ => by rw [e]; rfl
  hN := fun X ⟨_, _, _, _, _, _, _, e⟩ => by rw [e]; rfl
  vis := fun X ⟨_, _, _, _, _, _, _, e⟩ i x h1 h2 => by rw [e]; exact visB_at hv h1 h2
  gl := fun X ⟨_, _, _, _, _, _, _, e⟩ i x h => by rw [e]; exact glB_at hg h
  calm := fun X ⟨_, _, _, _, _, _, _, e⟩ => by rw [e]; rfl
  room := fun X ⟨_, _, _, _, _, _, r, e⟩ => by rw [e]; exact r.1
theorem fam_body : Fam (bodyG C P w K mg base N qual sc f k) P w base where
  hP := fun X ⟨_, _, _, _, _, _, _, e⟩ => by rw [e]; rfl
  hw := fun X ⟨_, _, _, _, _, _, _, e⟩ => by rw [e]; rfl
  hb := fun X ⟨_, _, _, _, _, _, _, e⟩ => by rw [e]; rfl
theorem lx_body (hn : N.Nodup) (hl : locB sc N lv = true) : Lx (bodyG C P w K mg base N qual sc f k) N lv where
  nd := hn
  loc := fun X ⟨_, _, _, _, _, _, _, e⟩ i x h1 h2 => by rw [e]; exact ⟨locB_at hl h1 h2, .inl rfl⟩
theorem pass_body : ∀ X, bodyG C P w K mg base N qual sc f k X → PassesOwn (model X.prog X.w) X.A X.env X.xe := fun X ⟨_, _, _, _, _, _, _, e⟩ => by rw [e]; exact PassesOwn.never
theorem loc_body {x : Str} (h : sc.names.lookup x = some .local) : ∀ X, bodyG C P w K mg base N qual sc f k X → X.env.scope.names.lookup x = some .local := fun X ⟨_, _, _, _, _, _, _, e⟩ => by rw [e]; exact h
/-! blocks of comprehensions -/
theorem relabel_at {env : PySem.Env} {x : Str} {kd : NameKind} : ∀ {names : List (Str × NameKind)}, names.lookup x = some kd → (names.map fun (n, k) => if (k == NameKind.free && env.scope.kind == .function && env.kindOf n == some .cell) then (n, NameKind.cell) else (n, k)).lookup x = some kd ∨
    (kd = .free ∧ (names.map fun (n, k) => if (k == NameKind.free && env.scope.kind == .function && env.kindOf n == some .cell) then (n, NameKind.cell) else (n, k)).lookup x = some .cell)
  | [], h => by simp at h
  | (n, k) :: r, h => by
    have ih := @relabel_at env x kd r
    show List.lookup x ((if (k == NameKind.free && env.scope.kind == .function && env.kindOf n == some .cell) = true then (n, NameKind.cell) else (n, k)) :: _) = _ ∨ _ ∧ List.lookup x ((if (k == NameKind.free && env.scope.kind == .function && env.kindOf n == some .cell) = true then (n, NameKind.cell) else (n, k)) :: _) = _
    cases hx : x == n with
    | true =>
      simp only [List.lookup_cons, hx] at h
      cases h
      by_cases hc : (kd == NameKind.free && env.scope.kind == .function && env.kindOf n == some .cell) = true
      · rw [if_pos hc]
        simp only [Bool.and_eq_true] at hc
        exact .inr ⟨eq_of_beq hc.1.1, by simp [List.lookup_cons, hx]⟩
      · rw [if_neg hc]
        exact .inl (by simp [List.lookup_cons, hx])
    | false =>
      simp only [List.lookup_cons, hx] at h
      by_cases hc : (k == NameKind.free && env.scope.kind == .function && env.kindOf n == some .cell) = true
      · rw [if_pos hc]; simp only [List.lookup_cons, hx]; exact ih h
      · rw [if_neg hc]; simp only [List.lookup_cons, hx]; exact ih h
theorem vis_relabel {env : PySem.Env} {x : Str} (h : Vis sc x) : Vis (relabel sc env) x := by
  rcases h with h | h | h
  · rcases relabel_at (env := env) h with q | ⟨q, _⟩
    · exact .inl q
    · cases q
  · rcases relabel_at (env := env) h with q | ⟨q, _⟩
    · exact .inr (.inl q)
    · cases q
  · rcases relabel_at (env := env) h with q | ⟨_, q⟩
    · exact .inr (.inr q)
    · exact .inr (.inl q)
theorem lookup_relabel {env : PySem.Env} {x : Str} {kd : NameKind} (h : sc.names.lookup x = some kd) (hk : kd ≠ .free) : (relabel sc env).names.lookup x = some kd := by
  rcases relabel_at (env := env) h with q | ⟨q, _⟩
  · exact q
  · exact (hk q).elim
theorem sx_blk {N0 : List Bool} {gl0 : List Str} (S : Sx F K mg N N0 gl0 k) (hv : visB sc N vis = true) (hg : glB sc gl = true) : Sx (blkF F sc) K mg N vis gl k where
  hK := fun Y ⟨X, _, _, _, _, _, hX, e⟩ => by rw [e]; exact S.hK X hX
  hmg := fun Y ⟨X, _, _, _, _, _, hX, e⟩ => by rw [e]; exact S.hmg X hX
  hN := fun Y ⟨X, _, _, _, _, _, hX, e⟩ => by rw [e]; exact S.hN X hX
  vis := fun Y ⟨X, _, _, _, _, _, hX, e⟩ i x h1 h2 => by
    rw [e]
    obtain ⟨a, b⟩ := visB_at hv h1 h2
    exact ⟨vis_relabel a, b⟩
  gl := fun Y ⟨X, _, _, _, _, _, hX, e⟩ i x h => by
    rw [e]
    obtain ⟨a, b⟩ := glB_at hg h
    exact ⟨lookup_relabel a (by decide), b⟩
  calm := fun Y ⟨X, _, _, _, _, _, hX, e⟩ => by rw [e]; exact S.calm X hX
  room := fun Y ⟨X, _, _, _, _, _, hX, e⟩ => by rw [e]; exact S.room X hX
theorem fam_blk (A : Fam F P w base) : Fam (blkF F sc) P w base where
  hP := fun Y ⟨X, _, _, _, _, _, hX, e⟩ => by rw [e]; exact A.hP X hX
  hw := fun Y ⟨X, _, _, _, _, _, hX, e⟩ => by rw [e]; exact A.hw X hX
  hb := fun Y ⟨X, _, _, _, _, _, hX, e⟩ => by rw [e]; exact A.hb X hX
def lclB (sc : Scope) : List Str → List Bool → Bool
  | x :: N, true :: vs => (decide (sc.names.lookup x = some .local) || decide (sc.names.lookup x = some .cell)) && lclB sc N vs
  | _ :: N, false :: vs => lclB sc N vs
  | _, _ => true
theorem lclB_at {sc : Scope} : ∀ {N : List Str} {vs : List Bool} {i : Nat} {x : Str}, lclB sc N vs = true → vs[i]? = some true → N[i]? = some x → sc.names.lookup x = some .local ∨ sc.names.lookup x = some .cell
  | [], _, _, _, _, _, h => by simp at h
  | _ :: _, [], _, _, _, h, _ => by simp at h
  | y :: N, b :: vs, 0, x, h, h1, h2 => by
    simp at h1 h2
    subst h1 h2
    exact (Bool.or_eq_true_iff.mp (Bool.and_eq_true_iff.mp (show ((decide (sc.names.lookup y = some .local) || decide (sc.names.lookup y = some .cell)) && lclB sc N vs) = true from h)).1).imp of_decide_eq_true of_decide_eq_true
  | y :: N, b :: vs, i + 1, x, h, h1, h2 => by
    refine lclB_at (N := N) (vs := vs) (i := i) ?_ (by simpa using h1) (by simpa using h2)
    cases b with
    | true => exact (Bool.and_eq_true_iff.mp (show ((decide (sc.names.lookup y = some .local) || decide (sc.names.lookup y = some .cell)) && lclB sc N vs) = true from h)).2
    | false => exact h
theorem lx_blk (hn : N.Nodup) (hl : lclB sc N lv = true) : Lx (blkF F sc) N lv where
  nd := hn
  loc := fun Y ⟨X, _, _, _, _, _, hX, e⟩ i x h1 h2 => by
    rw [e]
    rcases lclB_at hl h1 h2 with z | z
    · have q := lookup_relabel (env := X.env) z (by decide)
      exact ⟨.inl q, .inr q⟩
    · have q := lookup_relabel (env := X.env) z (by decide)
      exact ⟨.inr q, .inl (by show (sc.names.lookup x == some .cell) = true; rw [z]; rfl)⟩
end
end MP
namespace MP
open PySem L2
/-- the scope in which a comprehension stands -/
def Scp (F : CF) (N : List Str) (sc : Scope) : Prop := ∀ X, F X → X.N = N ∧ ∀ scope oc, BlkOk N sc scope oc → BlkOk X.N X.env.scope scope oc
section
variable {P : Program} {w : World} {K : PySem.W.Frag} {mg : Str → Option Value} {base : Heap} {N : List Str} {qual : Str} {sc : Scope} {f : Addr} {k : Nat} {vis lv : List Bool} {gl : List Str} {F : CF} {C : Value → Prop} {Z : XC} {own own1 own' : List Stt}
theorem scp_body : Scp (bodyG C P w K mg base N qual sc f k) N sc := fun X ⟨_, _, _, _, _, _, _, e⟩ => by rw [e]; exact ⟨rfl, fun _ _ h => h⟩
theorem scp_blk {N0 : List Bool} {gl0 : List Str} (S : Sx F K mg N N0 gl0 k) : Scp (blkF F sc) N sc := fun Y ⟨X, _, _, _, _, _, hX, e⟩ => by
  rw [e]
  refine ⟨S.hN X hX, fun scope oc h => ?_⟩
  show BlkOk X.N (relabel sc X.env) scope oc
  rw [S.hN X hX]
  refine ⟨h.kind, h.uniq, h.ix, fun y hy hf => ?_, h.own⟩
  rcases h.free y hy hf with q | q
  · exact .inl (lookup_relabel q (by decide))
  · rcases relabel_at (env := X.env) q with z | ⟨_, z⟩
    · exact .inr z
    · exact .inl z
theorem el_lcB {elt tg iter : Expr} {ifs : List Expr} {scope : Scope} {pos : Pos} {it : M (List D)} {b : Bd} {c : M Bool} {g : M D} (oc : List (Str × Nat)) (vis1 lv1 : List Bool) (gl1 : List Str) (S : Sx F K mg N vis gl k) (A : Fam F P w base) (Q : Scp F N sc) (hnd : N.Nodup) (own1 : List Stt) (hi : IT F K Z own tg iter it)
    (ht : Sx (blkF F scope) K mg N vis1 gl1 k → Lx (blkF F scope) N lv1 → TGd (blkF F scope) K own own1 tg (oc.map (·.2)) b) (hc : Sx (blkF F scope) K mg N vis1 gl1 k → Fam (blkF F scope) P w base → Scp (blkF F scope) N scope → ETs (blkF F scope) K (Z0 own) own1 ifs c)
    (hg : Sx (blkF F scope) K mg N vis1 gl1 k → Fam (blkF F scope) P w base → Scp (blkF F scope) N scope → EX (blkF F scope) K (Z0 own) own1 elt g) (hb : blkC N sc scope oc = true := by decide +kernel) (hv : visB scope N vis1 = true := by decide +kernel) (hgl : glB scope gl1 = true := by decide +kernel) (hl : lclB scope N lv1 = true := by decide +kernel)
    (hu : (oc.map (·.2)).all (fun i => own[i]? == some .U) = true := by decide) (hw : leB own own1 = true := by rfl) (hs : ∀ X, F X → ∀ x, foldedSetIterable iter X.env x = pure x := by intro _ _ _; rfl) : EL F K Z own (.ListComp elt [⟨tg, iter, ifs, 0⟩] scope pos) (lcD b it c g (oc.map (·.2))) := by
  have S1 := sx_blk (sc := scope) S hv hgl
  exact el_lc S hnd (fun X hX => (Q X hX).2 scope oc (blkOk_by hb)) hi (ht S1 (lx_blk hnd hl)) (hc S1 (fam_blk A) (scp_blk S)) (hg S1 (fam_blk A) (scp_blk S)) (fun i hi => eq_of_beq (List.all_eq_true.mp hu i hi)) hw hs
theorem st_setLcB {C : Ctl} {elt tg iter : Expr} {ifs : List Expr} {scope : Scope} {pos spos py : Pos} {y : Str} {it : M (List D)} {b : Bd} {c : M Bool} {g : M D} (i : Nat) (oc : List (Str × Nat)) (vis1 lv1 : List Bool) (gl1 : List Str) (S : Sx F K mg N vis gl k) (A : Fam F P w base) (Q : Scp F N sc) (L : Lx F N lv) (own1 : List Stt) (hy : ∀ X, F X → X.env.scope.names.lookup y = some .local) (hi : IT F K C.Z own tg iter it)
    (ht : Sx (blkF F scope) K mg N vis1 gl1 k → Lx (blkF F scope) N lv1 → TGd (blkF F scope) K own own1 tg (oc.map (·.2)) b) (hc : Sx (blkF F scope) K mg N vis1 gl1 k → Fam (blkF F scope) P w base → Scp (blkF F scope) N scope → ETs (blkF F scope) K (Z0 own) own1 ifs c)
    (hg : Sx (blkF F scope) K mg N vis1 gl1 k → Fam (blkF F scope) P w base → Scp (blkF F scope) N scope → EX (blkF F scope) K (Z0 own) own1 elt g) (hkd : ∀ X, F X → X.env.scope.kind = .function) (hb : blkC N sc scope oc = true := by decide +kernel) (hv : visB scope N vis1 = true := by decide +kernel) (hgl : glB scope gl1 = true := by decide +kernel) (hl : lclB scope N lv1 = true := by decide +kernel)
    (hu : (oc.map (·.2)).all (fun i => own[i]? == some .U) = true := by decide) (hpl : (py.line == pos.line) = true := by rfl) (hany : (scope.names.any fun (n, k) => n == y && (k == .local || k == .cell)) = false := by decide +kernel) (hN : N[i]? = some y := by rfl) (ho : own.set i .L = own' := by rfl) (hw : leB own own1 = true := by rfl)
    (hs : ∀ X, F X → ∀ x, foldedSetIterable iter X.env x = pure x := by intro _ _ _; rfl) : ST F K C own (.Assign [.Name y py] (.ListComp elt [⟨tg, iter, ifs, 0⟩] scope pos) spos) (setLS i (lcD b it c g (oc.map (·.2)))) own' := by
  have S1 := sx_blk (sc := scope) S hv hgl
  exact st_setLc S L i hy (fun X hX => (Q X hX).2 scope oc (blkOk_by hb)) hi (ht S1 (lx_blk L.nd hl)) (hc S1 (fam_blk A) (scp_blk S)) (hg S1 (fam_blk A) (scp_blk S)) (fun i hi => eq_of_beq (List.all_eq_true.mp hu i hi)) (fun X hX => sw_true (hkd X hX) (hy X hX) hpl hany) hN ho hw hs
theorem kind_body (h : sc.kind = .function) : ∀ X, bodyG C P w K mg base N qual sc f k X → X.env.scope.kind = .function := fun X ⟨_, _, _, _, _, _, _, e⟩ => by rw [e]; exact h
/-! ### tests -/
def EW (F : CF) (K : PySem.W.Frag) (Z : XC) (own : List Stt) (e : Expr) (g : M Bool) : Prop :=
  ∃ t, (∀ X, F X → PW X e t) ∧ ∀ G ρ σ H B, Rel K G own ρ σ H B → Run K Z G own RB (g ρ) σ B (t σ H)
def andB (g h : M Bool) : M Bool := bnd g fun b => if b then h else ret false
def orB (g h : M Bool) : M Bool := bnd g fun b => if b then ret true else h
def notB (g : M Bool) : M Bool := bnd g fun b => ret (!b)
theorem EW.et {e : Expr} {g : M Bool} (h : EW F K Z own e g) : ET F K Z own e g := by
  obtain ⟨t, p, h⟩ := h
  exact ⟨t, fun X hX => (p X hX).pt, h⟩
theorem et_not {a : Expr} {g : M Bool} {pos : Pos} (ha : ET F K Z own a g) : ET F K Z own (.UnaryOp .Not a pos) (notB g) := by
  obtain ⟨ta, pa, ha⟩ := ha
  refine ⟨_, fun X hX => pt_not (pa X hX), fun G ρ σ H B R => ?_⟩
  refine Run.thn (p2 := fun c H1 Q => Q (!c) H1) (ha G ρ σ H B R) fun c ρ1 c' H1 B1 _ e R1 l => ?_
  cases l
  exact Run.now R1 rfl fun Q q => q
theorem ew_and1 {a : Expr} {g : M Bool} {pos : Pos} (ha : ET F K Z own a g) : EW F K Z own (.BoolOp .And [a] pos) g := by
  obtain ⟨ta, pa, ha⟩ := ha
  exact ⟨ta, fun X hX => pw_and1 (pa X hX), ha⟩
theorem ew_or1 {a : Expr} {g : M Bool} {pos : Pos} (ha : ET F K Z own a g) : EW F K Z own (.BoolOp .Or [a] pos) g := by
  obtain ⟨ta, pa, ha⟩ := ha
  exact ⟨ta, fun X hX => pw_or1 (pa X hX), ha⟩
theorem ew_and {a b : Expr} {rest : List Expr} {g h : M Bool} {pos : Pos} (ha : ET F K Z own a g) (hb : EW F K Z own (.BoolOp .And (b :: rest) pos) h) : EW F K Z own (.BoolOp .And (a :: b :: rest) pos) (andB g h) := by
  obtain ⟨ta, pa, ha⟩ := ha
  obtain ⟨tb, pb, hb⟩ := hb
  refine ⟨_, fun X hX => pw_and (pa X hX) (pb X hX), fun G ρ σ H B R => ?_⟩
  refine Run.thn (Rl2 := RB) (p2 := fun c H1 Q => if c = true then tb σ H1 Q else Q false H1) (ha G ρ σ H B R) fun c ρ1 c' H1 B1 _ e R1 l => ?_
  cases l
  cases c with
  | true => exact Run.imp (hb G ρ1 σ H1 B1 R1) fun Q q => by rw [if_pos rfl]; exact q
  | false => exact Run.now R1 rfl fun Q q => by rw [if_neg Bool.false_ne_true]; exact q
theorem ew_or {a b : Expr} {rest : List Expr} {g h : M Bool} {pos : Pos} (ha : ET F K Z own a g) (hb : EW F K Z own (.BoolOp .Or (b :: rest) pos) h) : EW F K Z own (.BoolOp .Or (a :: b :: rest) pos) (orB g h) := by
  obtain ⟨ta, pa, ha⟩ := ha
  obtain ⟨tb, pb, hb⟩ := hb
  refine ⟨_, fun X hX => pw_or (pa X hX) (pb X hX), fun G ρ σ H B R => ?_⟩
  refine Run.thn (Rl2 := RB) (p2 := fun c H1 Q => if c = true then Q true H1 else tb σ H1 Q) (ha G ρ σ H B R) fun c ρ1 c' H1 B1 _ e R1 l => ?_
  cases l
  cases c with
  | true => exact Run.now R1 rfl fun Q q => by rw [if_pos rfl]; exact q
  | false => exact Run.imp (hb G ρ1 σ H1 B1 R1) fun Q q => by rw [if_neg Bool.false_ne_true]; exact q
theorem et_cmp {op : CmpOp} {r : R2} {ff : D → D → Option D} {a b : Expr} {g h : M D} {pos : Pos} (hr : ∀ X, F X → OpR X (compareOp op) r) (hf : OpD K r ff) (hm : behindInMarks op b = false) (ha : EX F K Z own a g) (hb : EX F K Z own b h) : ET F K Z own (.Compare a [op] [b] pos) (asB (op2 ff g h)) := by
  obtain ⟨ta, pa, ha⟩ := ha
  obtain ⟨tb, pb, hb⟩ := hb
  refine ⟨_, fun X hX => pt_cmpR (hr X hX) (pa X hX) (pb X hX) hm, fun G ρ σ H B R => Run.asB (g := op2 ff g h) ?_⟩
  exact Run.thn (ha G ρ σ H B R) fun d ρ1 v H1 B1 _ e R1 l => Run.thn (hb G ρ1 σ H1 B1 R1) fun d2 ρ2 v2 H2 B2 _ e2 R2 l2 => Run.prim R2 (hf v v2 d d2 H2 B2 R2.keep.bh (l.mono e2) l2)
theorem rl_eq (S : Sx F K mg N vis gl k) : ∀ X, F X → OpR X (compareOp .Eq) (rEqD K) := fun X hX => atK (S.hK X hX) (fun K => OpR X _ (rEqD K)) (op_eqD (S.room X hX).units)
theorem rl_ne (S : Sx F K mg N vis gl k) : ∀ X, F X → OpR X (compareOp .NotEq) (rNeD K) := fun X hX => atK (S.hK X hX) (fun K => OpR X _ (rNeD K)) (op_neD (S.room X hX).units)
theorem rl_notin (S : Sx F K mg N vis gl k) : ∀ X, F X → OpR X (compareOp .NotIn) (rIn2 K true) := fun X hX => atK (S.hK X hX) (fun K => OpR X _ (rIn2 K true)) (or_in true)
theorem et_eqOwn (S : Sx F K mg N vis gl k) (j : Nat) {st : Stt} {x : Str} {px pos : Pos} {b : Expr} {h : M D} (hb : EX F K Z own b h) (hN : N[j]? = some x := by rfl) (hv : vis[j]? = some true := by rfl) (ho : own[j]? = some st := by rfl) (hst : st.isL = true := by rfl) : ET F K Z own (.Compare (.Name x px) [.Eq] [b] pos) (asB (cmpOwn eqD j h)) := by
  obtain ⟨tb, pb, hb⟩ := hb
  refine ⟨_, fun X hX => let ⟨v1, v2, v3⟩ := S.vis X hX j x hv hN; pt_cmpR (rl_eq S X hX) (pe_var (by rw [S.hN X hX]; exact hN) v1 v2 v3) (pb X hX) (nomark _), fun G ρ σ H B R => Run.asB (g := cmpOwn eqD j h) ?_⟩
  obtain ⟨a, rs0, ea, _⟩ := R.ownAt ho hst
  refine Run.imp (Run.thn (p2 := fun y H2 Q => rEqD K (.ref a) y H2 Q) (hb G ρ σ H B R) fun d ρ1 v H1 B1 _ e R1 l => Run.prim R1 ?_) fun Q q => ⟨.ref a, join_some ea, q⟩
  obtain ⟨a', rs, ea', er, us, hu, ru, hz, _⟩ := R1.ownAt ho hst
  rw [ea] at ea'
  cases ea'
  rw [er]
  unfold eqD
  split
  · rename_i h
    rw [Bool.and_eq_true] at h
    obtain ⟨a1, a2⟩ := own_shaped R1.keep.bh hu ru h.1
    obtain ⟨b1, b2⟩ := shaped_of R1.keep.bh l h.2
    exact Prim.now R1.keep.bh (.bl _) fun Q q => ⟨_, _, a1, b1, a2, b2, q⟩
  · trivial
/-! ### constants of the module -/
theorem ex_gint (S : Sx F K mg N vis gl k) (i : Nat) {x : Str} {pos : Pos} {n : Int} (hm : ∃ t, mg x = some (.int n t)) (hg : gl[i]? = some x := by rfl) : EX F K Z own (.Name x pos) (kD (.int n)) := by
  obtain ⟨t, hm⟩ := hm
  exact ex_glob S i hm (v := .int n) ⟨t, rfl⟩ (fun B => .int n) hg
theorem ex_gstr (S : Sx F K mg N vis gl k) (i : Nat) {x : Str} {pos : Pos} {n : Str} (hm : ∃ t, mg x = some (.str n t)) (hn : PyData.strOk n = true := by decide +kernel) (hg : gl[i]? = some x := by rfl) : EX F K Z own (.Name x pos) (kD (.str n)) := by
  obtain ⟨t, hm⟩ := hm
  exact ex_glob S i hm (v := .str n) ⟨t, rfl⟩ (fun B => .str n hn) hg
theorem ex_gref (S : Sx F K mg N vis gl k) (i : Nat) {x : Str} {pos : Pos} {d : D} (hm : ∃ a, mg x = some (.ref a) ∧ ∀ B, Rep K B (.ref a) d) (hg : gl[i]? = some x := by rfl) : EX F K Z own (.Name x pos) (kD d) := by
  obtain ⟨a, hm, hd⟩ := hm
  exact ex_glob S i hm (v := .ref a) rfl hd hg
/-! ### what is known of the defs, the function's data left open -/
end
end MP
namespace MP
open PySem L2
section
variable {F : CF} {K : PySem.W.Frag} {mg : Str → Option Value} {Z : XC} {own own1 own' : List Stt} {N : List Str} {vis lv : List Bool} {gl : List Str} {k : Nat} {a b : Expr} {pos : Pos}
/-! ### a, b = e1, e2: a new list among them -/
def setParLL (i j : Nat) (g h : M (List D)) : SM := sbd g fun x => sbd h fun y ρ => .nx ((ρ.set i (.lst x)).set j (.lst y))
def setParVL (i j : Nat) (g : M D) (h : M (List D)) : SM := sbd g fun x => sbd h fun y ρ => .nx ((ρ.set i x).set j (.lst y))
def setParLV (i j : Nat) (g : M (List D)) (h : M D) : SM := sbd g fun x => sbd h fun y ρ => .nx ((ρ.set i (.lst x)).set j y)
/-- x, y = e -/
def unpS (b : Bd) (g : M D) : SM := sbd g fun d ρ => match b d ρ with
  | some ρ' => .nx ρ'
  | none => .bad
theorem st_unp {C : Ctl} {tg e : Expr} {g : M D} {bd : Bd} (vs : List Nat) (h : EX F K C.Z own e g) (ht : TGd F K own own' tg vs bd) (h2 : ∀ X, F X → swapsWithSole [tg] e pos.line X.env = pure false := by intro _ _; rfl) (h3 : ∀ X, F X → swappedStores [tg] e X.env = pure none := by intro _ _; rfl)
    (h4 : ∀ X, F X → (assignEach [tg] X.env).map (·.2) = [assign tg X.env] := by intro _ _; rfl) : ST F K C own (.Assign [tg] e pos) (unpS bd g) own' := by
  obtain ⟨t, p, h⟩ := h
  obtain ⟨gt, pg, ht⟩ := ht
  refine ⟨_, fun X hX => ps_asg (p X hX) (pg X hX) (h2 X hX) (h3 X hX) (h4 X hX), fun G ρ σ H B R => ?_⟩
  refine SRun.ofE (p2 := fun v H1 E => gt v σ H1 E.nx) (h G ρ σ H B R) fun d ρ1 v H1 B1 _ e R1 l E hE => ?_
  have := ht G ρ1 σ H1 B1 v d R1 l
  cases hb : bd d ρ1 with
  | none => rw [hb] at hE; exact hE.elim
  | some ρ2 =>
    rw [hb] at hE this
    exact this _ fun σ' _ R2 => hE σ' H1 B1 Ex.rfl R2
/-! ### zip -/
def zipL : List D → List D → List D
  | a :: as, b :: bs => .tup [a, b] :: zipL as bs
  | _, _ => []
theorem zipL_len : ∀ (a b : List D), (zipL a b).length = min a.length b.length
  | [], b => by simp [zipL]
  | _ :: _, [] => by simp [zipL]
  | _ :: as, _ :: bs => by simp [zipL, zipL_len as bs]
theorem zipL_at : ∀ {as bs : List D} {i : Nat} {a b : D}, as[i]? = some a → bs[i]? = some b → (zipL as bs)[i]? = some (.tup [a, b])
  | [], _, _, _, _, h, _ => by simp at h
  | _ :: _, [], _, _, _, _, h => by simp at h
  | _ :: _, _ :: _, 0, _, _, h1, h2 => by simp at h1 h2; subst h1 h2; rfl
  | _ :: as, _ :: bs, i + 1, _, _, h1, h2 => by simpa [zipL] using zipL_at (as := as) (bs := bs) (i := i) (by simpa using h1) (by simpa using h2)
def zipO : List D → Option (List D)
  | [.lst a, .lst b] => some (zipL a b)
  | [.tup a, .tup b] => some (zipL a b)
  | _ => none
def zipM (g : M (List D)) : M (List D) := bnd g fun ds => ofO (zipO ds)
theorem itz_ok {B : Hp} {a b : Addr} {us vs : List V} {ds es : List D} (h1 : SqT K B a us) (r1 : Reps K B us ds) (hz : ds.length ≤ sizeLine) (h2 : SqT K B b vs) (r2 : Reps K B vs es) : ItOk K B (RZ.ItzT K a b) (zipL ds es) where
  sz := by rw [zipL_len]; omega
  go := fun i H e hi => by
    rw [zipL_len] at hi
    obtain ⟨x, hx, _⟩ := r1.get (List.getElem?_eq_getElem (show i < ds.length by omega))
    obtain ⟨y, hy, _⟩ := r2.get (List.getElem?_eq_getElem (show i < es.length by omega))
    exact ⟨us, vs, x, y, seqT e h1, seqT e h2, hx, hy⟩
  yld := fun i H B1 x H' e e1 hi y => by
    obtain ⟨T, p, q, rfl, hT, rfl, y1, y2⟩ := y
    obtain ⟨d, hd, rd⟩ := r1.getV (y1 us (seqT (e.trans e1) h1))
    obtain ⟨d2, hd2, rd2⟩ := r2.getV (y2 vs (seqT (e.trans e1) h2))
    exact ⟨.tup [d, d2], upd B1 T (.tup [p, q]), zipL_at hd hd2, New.alloc e1 hT, .tup (tq upd_same) (.cons (rd.mono (e.trans (New.alloc (K := K) e1 hT).b)) (.cons (rd2.mono (e.trans (New.alloc (K := K) e1 hT).b)) .nil)) (by show 2 ≤ sizeLine; decide)⟩
  stop := fun i H e hi => by
    rw [zipL_len] at hi
    refine ⟨us, vs, seqT e h1, seqT e h2, ?_⟩
    rw [r1.len, r2.len]
    omega
theorem itzl_ok {B : Hp} {a b : Addr} {us vs : List V} {ds es : List D} (h1 : SqL K B a us) (r1 : Reps K B us ds) (hz : ds.length ≤ sizeLine) (h2 : SqL K B b vs) (r2 : Reps K B vs es) : ItOk K B (Itz K a b) (zipL ds es) where
  sz := by rw [zipL_len]; omega
  go := fun i H e hi => by
    rw [zipL_len] at hi
    obtain ⟨x, hx, _⟩ := r1.get (List.getElem?_eq_getElem (show i < ds.length by omega))
    obtain ⟨y, hy, _⟩ := r2.get (List.getElem?_eq_getElem (show i < es.length by omega))
    exact ⟨us, vs, x, y, e.seq h1, e.seq h2, hx, hy⟩
  yld := fun i H B1 x H' e e1 hi y => by
    obtain ⟨T, p, q, rfl, hT, rfl, y1, y2⟩ := y
    obtain ⟨d, hd, rd⟩ := r1.getV (y1 us ((e.trans e1).seq h1))
    obtain ⟨d2, hd2, rd2⟩ := r2.getV (y2 vs ((e.trans e1).seq h2))
    exact ⟨.tup [d, d2], upd B1 T (.tup [p, q]), zipL_at hd hd2, New.alloc e1 hT, .tup (tq upd_same) (.cons (rd.mono (e.trans (New.alloc (K := K) e1 hT).b)) (.cons (rd2.mono (e.trans (New.alloc (K := K) e1 hT).b)) .nil)) (by show 2 ≤ sizeLine; decide)⟩
  stop := fun i H e hi => by
    rw [zipL_len] at hi
    refine ⟨us, vs, e.seq h1, e.seq h2, ?_⟩
    rw [r1.len, r2.len]
    omega
theorem it_zip (S : Sx F K mg N vis gl k) (i : Nat) {g : M (List D)} {p tpos : Pos} {elts : List Expr} {kk : Nat} (hm : mg "zip" = none) (ha : EXs F K Z own [a, b] g) (hg : gl[i]? = some ("zip" : Str) := by rfl) (hs : ∀ X, F X → starEach [a, b] X.env = (false, eval a X.env) :: starEach [b] X.env := by intro _ _; rfl) (hs2 : ∀ X, F X → (backTo pos (starEach [b] X.env)).any (·.1) = false := by intro _ _; rfl) :
    IT F K Z own (.Tuple elts kk tpos) (.Call (.Name "zip" p) [a, b] [] pos) (zipM g) := by
  obtain ⟨t, pa, h⟩ := ha
  refine ⟨RZ.iZipA K t, fun X hX => atK (S.hK X hX) (fun K => PI X _ _ (RZ.iZipA K t)) (RZ.pi_zipA (S.gl X hX i _ hg).1 (by rw [S.hmg X hX]; exact hm) (pa X hX) (hs X hX) (hs2 X hX)), fun G ρ σ H B R => ?_⟩
  refine Run.thn (p2 := fun vs H1 R => ∃ a b xs ys, vs = [.ref a, .ref b] ∧ ((SqL K H1 a xs ∧ SqL K H1 b ys ∧ R (Itz K a b) H1) ∨ (SqT K H1 a xs ∧ SqT K H1 b ys ∧ R (RZ.ItzT K a b) H1))) (h G ρ σ H B R) fun ds ρ1 vs H1 B1 _ e R1 l => ?_
  cases l with
  | nil => trivial
  | cons r rs =>
    cases rs with
    | nil => cases r <;> trivial
    | cons r2 rs =>
      cases rs with
      | cons _ _ => cases r <;> cases r2 <;> trivial
      | nil =>
        cases r with
        | tup q1 s1 z1 =>
          cases r2 with
          | tup q2 s2 z2 => exact fun Q q => ⟨_, _, _, _, rfl, .inr ⟨seqT R1.keep.bh q1.1, seqT R1.keep.bh q2.1, q _ H1 B1 Ex.rfl R1 (itz_ok q1.1 s1 z1 q2.1 s2)⟩⟩
          | _ => trivial
        | lst q1 s1 z1 =>
          cases r2 with
          | lst q2 s2 z2 => exact fun Q q => ⟨_, _, _, _, rfl, .inl ⟨R1.keep.bh.seq q1, R1.keep.bh.seq q2, q _ H1 B1 Ex.rfl R1 (itzl_ok q1 s1 z1 q2 s2)⟩⟩
          | _ => trivial
        | _ => cases r2 <;> trivial
end
end MP
namespace MP
open PySem PySem.Spec PyProof.Rows L2
/-! ### a set of ints and texts -/
/-- the set at a holds just the keys l; its table can be walked -/
def MxR (P : Program) (w : World) (h : Heap) (a : Addr) (l : List Key) : Prop :=
  ∃ (o : Obj) (es : Array (Int × Value)) (ep : Nat) (t : SetTable), h.get? a = some o ∧ o.ExactSet ∧ o.data = .set es ep t ∧ ElemsOf (mixKind P w) es.toList ∧
    (∀ k, k ∈ l ↔ ∃ e ∈ es.toList, keyIs k e.2 = true) ∧ l.Nodup ∧ es.size = l.length ∧ l.length < scanBound ∧ t.fits es.size = true ∧ Ris t.place.toList ∧
    (w.params.followText "set-order" = true ∨ t.led = true)
instance decK (k : Key) (l : List Key) : Decidable (k ∈ l) := @List.instDecidableMemOfLawfulBEq _ instBEqOfDecidableEq inferInstance k l
def addK (l : List Key) (k : Key) : List Key := if k ∈ l then l else k :: l
theorem addK_len (l : List Key) (k : Key) : (addK l k).length ≤ l.length + 1 := by
  unfold addK; split
  · omega
  · simp
theorem addK_mem {l : List Key} {k j : Key} : j ∈ addK l k ↔ j ∈ l ∨ j = k := by
  unfold addK; split
  · rename_i h; exact ⟨.inl, fun z => z.elim id fun e => e ▸ h⟩
  · rw [List.mem_cons]; exact Or.comm
section
variable {P : Program} {w : World} {A : Around} {E : Value → Shared → Prop} {s : Shared} {a : Addr} {l : List Key}
theorem MxR.keep {h h' : Heap} (R : MxR P w h a l) (k : ∀ o, h.get? a = some o → h'.get? a = some o) : MxR P w h' a l := by
  obtain ⟨o, es, ep, t, ho, r⟩ := R
  exact ⟨o, es, ep, t, k o ho, r⟩
theorem mx_tail {g : Bool → Sem Unit} (hg : ∀ (b : Bool) (s₁ : Shared) (Q' : Unit → Shared → Prop), Q' () s₁ → wpAny (model P w) A (g b) Q' E s₁)
    {o : Obj} {es : Array (Int × Value)} {ep : Nat} {t : SetTable} (ho : s.heap.get? a = some o) (hex : o.ExactSet) (hd : o.data = .set es ep t)
    {es1 : Array (Int × Value)} {t2 : SetTable} (el : ElemsOf (mixKind P w) es1.toList) (hm : ∀ k, k ∈ l ↔ ∃ e ∈ es1.toList, keyIs k e.2 = true) (nd : l.Nodup) (sz : es1.size = l.length)
    (hb : l.length < scanBound) (hf : t2.fits es1.size = true) (hr : Ris t2.place.toList) (hl : w.params.followText "set-order" = true ∨ t2.led = true) {dm : Bool} {R : Option Bool → Shared → Prop}
    (hR : ∀ h', Heap.SameBut a s.heap h' → MxR P w h' a l → R (some true) { s with heap := h' }) :
    wpAny (model P w) A (do
        storeSet a es1 t2
        if (!dm && t2.tooFull) = true then do
            g (relayAll t2 es1 (SetTable.grown es1.size)).2.2
            storeSet a (relayAll t2 es1 (SetTable.grown es1.size)).1 (relayAll t2 es1 (SetTable.grown es1.size)).2.1
            pure (some true)
          else pure (some true)) R E s := by
  have hb1 : es1.size < scanBound := by omega
  refine wpAny_bind (wpAny_storeSet_of ho hd ?_ (fits_of_scanBound hb1))
  have ho1 := store_at (es' := es1) (t' := t2) ho hd
  have sb := Heap.SameBut.update s.heap a (Obj.putSet es1 t2)
  by_cases c : (!dm && t2.tooFull) = true
  · rw [if_pos c]
    have x1 := relayAll_perm t2 es1 (SetTable.grown es1.size)
    have x2 := relayAll_fits t2 es1 (SetTable.grown es1.size)
    have x3 := relayAll_ris t2 es1 (SetTable.grown es1.size)
    have x4 := relayAll_led t2 es1 (SetTable.grown es1.size)
    generalize relayAll t2 es1 (SetTable.grown es1.size) = Z at x1 x2 x3 x4 ⊢
    obtain ⟨es2, t3, gv⟩ := Z
    dsimp only at x1 x2 x3 x4 ⊢
    have z2 : es2.size = es1.size := by rw [← Array.length_toList, x1.length_eq, Array.length_toList]
    refine wpAny_bind (hg _ _ _ (wpAny_bind (wpAny_storeSet_of ho1 rfl (wpAny_pure (hR _ (sb.trans (Heap.SameBut.update _ a _)) ?_)) (fits_of_scanBound (by omega)))))
    exact ⟨_, es2, _, t3, store_at (es' := es2) (t' := t3) ho1 rfl, hex, rfl, fun e he => el e (x1.mem_iff.mp he),
      fun k => (hm k).trans ⟨fun ⟨e, he, q⟩ => ⟨e, x1.mem_iff.mpr he, q⟩, fun ⟨e, he, q⟩ => ⟨e, x1.mem_iff.mp he, q⟩⟩, nd, z2.trans sz, hb, x2, x3, hl.imp id fun z => x4.trans z⟩
  · rw [if_neg c]
    exact wpAny_pure (hR _ sb ⟨_, es1, _, t2, ho1, hex, rfl, el, hm, nd, sz, hb, hf, hr, hl⟩)
theorem mx_add {k : Key} {v : Value} {Q : Bool → Shared → Prop} (hk : (mixKind P w).is k v = true) (hsc : v.scannable = true) (R : MxR P w s.heap a l) (room : l.length + 1 < scanBound)
    (hQ : ∀ h' b, Heap.SameBut a s.heap h' → MxR P w h' a (addK l k) → Q b { s with heap := h' }) : wpAny (model P w) A (setAddHashed a v ((mixKind P w).hash k)) Q E s := by
  obtain ⟨o, es, ep, t, ho, hex, hd, el, hm, nd, sz, hb, hf, hr, hl⟩ := R
  have hb0 : es.size < scanBound := by omega
  unfold setAddHashed setAddHashedIn
  refine wpAny_holding (wpAny_bind (wpAny_setState_of ho hd hf ?_))
  dsimp only
  rw [byScan_of hsc hb0 el]
  simp only [↓reduceIte]
  unfold setAddByScan
  refine wpAny_bind (wpAny_bind (wpAny_rule (wpAny_bind (wpAny_setScan_of hk ho hd hf el ?_))))
  cases hi : List.findIdx? (fun e => (mixKind P w).is k e.2) es.toList with
  | some j =>
    dsimp only
    obtain ⟨hj, pj, _⟩ := List.findIdx?_eq_some_iff_getElem.mp hi
    have hin : k ∈ l := (hm k).2 ⟨es.toList[j], List.getElem_mem hj, pj⟩
    refine wpAny_pure (wpAny_pure ?_)
    refine hQ s.heap false (Heap.SameBut.refl a s.heap) ?_
    rw [show addK l k = l from if_pos hin]
    exact ⟨o, es, ep, t, ho, hex, hd, el, hm, nd, sz, hb, hf, hr, hl⟩
  | none =>
    dsimp only
    have hout : k ∉ l := fun z => by
      obtain ⟨e, he, q⟩ := (hm k).1 z
      have c := List.findIdx?_eq_none_iff.mp hi e he
      have q' : (mixKind P w).is k e.2 = true := q
      rw [q'] at c; cases c
    have x1 := layNew_perm t es ((mixKind P w).hash k) v
    have x2 := layNew_fits t es ((mixKind P w).hash k) v
    have x3 := layNew_ris t es ((mixKind P w).hash k) v hr
    have x4 := layNew_led t es ((mixKind P w).hash k) v
    generalize layNew t es ((mixKind P w).hash k) v = Z at x1 x2 x3 x4 ⊢
    obtain ⟨es1, t1, dm, gv⟩ := Z
    dsimp only at x1 x2 x3 x4 ⊢
    rw [Array.toList_push] at x1
    have pc : es1.toList.Perm (((mixKind P w).hash k, v) :: es.toList) := x1.trans (List.perm_append_singleton _ _)
    have el1 : ElemsOf (mixKind P w) es1.toList := fun e he => by
      rcases List.mem_cons.mp (pc.mem_iff.mp he) with z | z
      · rw [z]; exact ⟨⟨k, hk, rfl⟩, hsc⟩
      · exact el e z
    have hm1 : ∀ j, j ∈ addK l k ↔ ∃ e ∈ es1.toList, keyIs j e.2 = true := fun j => by
      rw [addK_mem, hm j]
      constructor
      · rintro (⟨e, he, q⟩ | rfl)
        · exact ⟨e, pc.mem_iff.mpr (List.mem_cons_of_mem _ he), q⟩
        · exact ⟨_, pc.mem_iff.mpr List.mem_cons_self, hk⟩
      · rintro ⟨e, he, q⟩
        rcases List.mem_cons.mp (pc.mem_iff.mp he) with z | z
        · rw [z] at q; exact .inr ((mixKind P w).inj v j k q hk)
        · exact .inl ⟨e, z, q⟩
    have nd1 : (addK l k).Nodup := by rw [show addK l k = k :: l from if_neg hout]; exact List.nodup_cons.mpr ⟨hout, nd⟩
    have sz1 : es1.size = (addK l k).length := by
      rw [show addK l k = k :: l from if_neg hout, ← Array.length_toList, pc.length_eq, List.length_cons, Array.length_toList, sz]; rfl
    have hb1 : (addK l k).length < scanBound := Nat.lt_of_le_of_lt (addK_len l k) room
    have hl1 : w.params.followText "set-order" = true ∨ t1.led = true := hl.imp id fun z => x4.trans z
    have hg : ∀ (b : Bool) (s₁ : Shared) (Q' : Unit → Shared → Prop), Q' () s₁ → wpAny (model P w) A (match b with | true => rule "set.scan.the-table-gave-way" | false => pure ()) Q' E s₁ :=
      fun b s₁ Q' q => by cases b <;> first | exact wpAny_pure q | exact wpAny_rule q
    refine wpAny_bind (hg _ _ _ ?_)
    split
    · refine wpAny_bind ?_
      rw [hashByValue_scannable 8 hsc]
      refine wpAny_pure ?_
      refine mx_tail ?_ ho hex hd el1 hm1 nd1 sz1 hb1 ?_ ?_ ?_ ?_
      · intro b s₁ Q' q; cases b <;> first | exact wpAny_pure q | exact wpAny_rule q
      · first | (split <;> first | exact x2 | exact SetTable.fits_plain_off x2) | exact x2
      · first | (split <;> exact x3) | exact x3
      · first | (split <;> exact hl1) | exact hl1
      · intro h' sb r; dsimp only; exact wpAny_pure (hQ h' true sb r)
    · refine wpAny_bind (wpAny_pure ?_)
      simp only [↓reduceIte]
      refine mx_tail ?_ ho hex hd el1 hm1 nd1 sz1 hb1 x2 x3 hl1 ?_
      · intro b s₁ Q' q; cases b <;> first | exact wpAny_pure q | exact wpAny_rule q
      · intro h' sb r; dsimp only; exact wpAny_pure (hQ h' true sb r)
/-- the keys, each once -/
def uniqK (ks : List Key) : List Key := ks.foldl addK []
theorem uniq_step (ks : List Key) (k : Key) : uniqK (ks ++ [k]) = addK (uniqK ks) k := by unfold uniqK; rw [List.foldl_append]; rfl
theorem uniq_len (ks : List Key) : (uniqK ks).length ≤ ks.length := by
  have z : ∀ (ks l : List Key), (ks.foldl addK l).length ≤ l.length + ks.length := by
    intro ks; induction ks with
    | nil => intro l; simp
    | cons k r ih => intro l; have a := ih (addK l k); have b := addK_len l k; simp only [List.foldl_cons, List.length_cons]; omega
  have a := z ks []; simpa [uniqK] using a
theorem uniq_mem {ks : List Key} {j : Key} : j ∈ uniqK ks ↔ j ∈ ks := by
  have z : ∀ (ks l : List Key), j ∈ ks.foldl addK l ↔ j ∈ l ∨ j ∈ ks := by
    intro ks; induction ks with
    | nil => intro l; simp
    | cons k r ih => intro l; rw [List.foldl_cons, ih, addK_mem, List.mem_cons, or_assoc]
  have a := z ks []; simpa [uniqK] using a
theorem loop_mx {I : Addr} {fp wr : List Addr} {G : Array GenState → Array GenState → Prop} {n : Nat} {Pv : Nat → Value → Prop} {St : Nat → Shared → Prop} {R : Result → Shared → Prop}
    (W : WalksS P w A.in1 I fp wr G n Pv St) (S : Addr) (hSf : S ∉ fp) (ks : List Key) (hn : n = ks.length) (hb : ks.length + 1 < scanBound) (hval : ∀ i v, Pv i v → ∃ k, ks[i]? = some k ∧ keyIs k v = true) :
    ∀ (m i : Nat) (s : Shared), n - i = m → i ≤ n → St i s → MxR P w s.heap S (uniqK (ks.take i)) →
      (∀ s', Moved (S :: wr) G s s' → MxR P w s'.heap S (uniqK ks) → R (.ok (.ret .none)) s') → codeAny (model P w) A (.builtin "set.update.loop" ⟨[.ref S, .ref I], []⟩) R s := by
  have hSw : S ∉ wr := fun h => hSf (W.sub _ h)
  have hsub : ∀ b ∈ wr, b ∈ S :: wr := fun b hb => List.mem_cons_of_mem _ hb
  intro m
  induction m with
  | zero =>
    intro i s hm hi hst hS hR
    have e : i = n := by omega
    subst e
    refine codeAny_builtin F.entry_set_update_loop ?_
    rw [Around.under_plainId F.plain_set_update_loop _]
    refine wpAny_bind (m := pyNext (.ref I)) (W.done s _ _ hst fun s' mv => ?_)
    rw [List.take_of_length_le (by omega)] at hS
    exact wpAny_pure (hR s' (mv.mono hsub) (hS.keep fun o e => mv.heap S o hSw e))
  | succ m ih =>
    intro i s hm hi hst hS hR
    have lt : i < n := by omega
    refine codeAny_builtin F.entry_set_update_loop ?_
    rw [Around.under_plainId F.plain_set_update_loop _]
    refine wpAny_bind (m := pyNext (.ref I)) (W.item i s _ _ lt hst fun v s' hP hst' mv => ?_)
    obtain ⟨k, hk, hkv⟩ := hval i v hP
    have hS' := hS.keep (h' := s'.heap) fun o e => mv.heap S o hSw e
    have hsc : v.scannable = true := by rcases keyIs_shape hkv with ⟨i, t, rfl, rfl⟩ | ⟨x, t, rfl, rfl⟩ <;> rfl
    have hlen : (uniqK (ks.take i)).length + 1 < scanBound := by
      have a := uniq_len (ks.take i)
      rw [List.length_take] at a; omega
    refine wpAny_bind (m := holding [v] (setAdd S v)) (wpAny_holding ?_)
    unfold setAdd
    refine wpAny_holding (wpAny_bind ((mixKind P w).pyHash (k := k) hkv ?_))
    refine mx_add (s := { s' with toks := s'.toks + 1 }) hkv hsc hS' hlen fun h' b sb hS2 => ?_
    have e1 : uniqK (ks.take (i + 1)) = addK (uniqK (ks.take i)) k := by rw [List.take_add_one, hk]; exact uniq_step _ _
    rw [← e1] at hS2
    refine wpAny_pure ⟨plainId_quiet F.plain_set_update_loop _, ih (i + 1) _ (by omega) lt (W.frame _ s' _ _ hst' (Nat.le_succ _) fun c hc o e => ?_) hS2 fun s2 mv2 r => ?_⟩
    · rw [sb.2 c (fun h : c = S => hSf (by rw [← h]; exact hc))]; exact e
    · refine hR s2 (Moved.trans W.gtrans ((mv.mono hsub).then_heap (Nat.le_succ _) fun c o hc e => ?_) mv2) r
      rw [sb.2 c (fun h : c = S => hc (by rw [h]; exact List.mem_cons_self))]; exact e
/-- a set just made -/
def setO0 (w : World) : Obj := { cls := .type "set", dict := none, data := .set #[] 0 (.fresh 0 0 (!w.params.followText "set-order")) }
theorem mx_new {h : Heap} {a : Addr} (ho : h.get? a = some (setO0 w)) : MxR P w h a [] := by
  refine ⟨_, #[], 0, _, ho, ⟨rfl, rfl, rfl⟩, rfl, fun e he => by simp at he, fun k => by simp, List.nodup_nil, rfl, by decide, rfl, List.Pairwise.nil, ?_⟩
  show _ ∨ (!w.params.followText "set-order") = true
  cases w.params.followText "set-order"
  · exact .inr rfl
  · exact .inl rfl
theorem call_mx_list {l : Addr} {items : Array Value} (ks : List Key) {Q : Value → Shared → Prop} (hh : A.handled = none) (hl : s.heap.IsList l items)
    (hv : ∀ (i : Nat) (v : Value), items[i]? = some v → ∃ k, ks[i]? = some k ∧ keyIs k v = true) (hn : items.size = ks.length) (hb : ks.length + 1 < scanBound)
    (h : ∀ (h' : Heap) (tk : Nat), MxR P w h' s.heap.objs.size (uniqK ks) → (∀ b o, s.heap.get? b = some o → h'.get? b = some o) → Q (.ref s.heap.objs.size) { s with heap := h', toks := tk }) :
    wpAny (model P w) A (call (.type "set") [.ref l]) Q E s := by
  obtain ⟨c, tl, hmro⟩ := F.called_set.mro
  have hmade := F.called_set.made
  have hsub := F.called_set.sub
  refine wpAny_call (codeAny_of_tree ?_)
  show wpAny _ _ (callAny (.type "set") _) _ _ _
  refine wpAny_pure ⟨Code.quiet_builtin _ (by decide +kernel), codeAny_builtin F.entry_type_call ?_⟩
  rw [Around.under_plain (weight_type_call_type "set" [.ref l] []) rfl]
  have h1 := F.called_set.notType
  have h2 := F.called_set.canCreate
  have hct := F.typeCall_set_1 (.ref l)
  repeat (any_goals (first | assumption | wp_step))
  refine codeAny_mono (code_set_led1 (.ref l) (E := E) (Q₁ := fun x s1 => x = .ref s.heap.objs.size ∧ s1 = { s with heap := s.heap.push (setO0 w) }) ⟨rfl, rfl⟩) fun r s1 hr => ?_
  rcases r with e | (_ | _ | x | _)
  all_goals first | exact hr | exact hr.elim | skip
  obtain ⟨rfl, rfl⟩ := hr
  have hS : (s.heap.push (setO0 w)).get? s.heap.objs.size = some (setO0 w) := Heap.get?_push_size _ rfl
  have hT : Shared.TypeIs { s with heap := s.heap.push (setO0 w) } (.ref s.heap.objs.size) "set" := ⟨_, hS, rfl⟩
  have hli := F.called_set.init.lookup
  have hbi := F.called_set.init.bind (.ref s.heap.objs.size)
  repeat (any_goals (first | assumption | wp_step))
  refine codeAny_mono (codeAny_call_builtin (R := wants (fun r s2 => r = .none ∧ ∃ h' tk, s2 = { s with heap := h', toks := tk } ∧ MxR P w h' s.heap.objs.size (uniqK ks) ∧
      (∀ b o, s.heap.get? b = some o → h'.get? b = some o)) E) F.called_set.init.plain F.entry_set_init (check_set_init_1 hT ?_)) fun r2 s2 hr2 => ?_
  · obtain ⟨⟨oc, od, odt, os⟩, hol, hcl, nl, hdl⟩ := hl
    simp only at hcl hdl
    subst hcl; subst hdl
    have hol' : (s.heap.push (setO0 w)).get? l = some { cls := .type "list", dict := od, data := .seq items nl, slots := os } := Heap.get?_push_of_some _ hol
    have x1 := F.sub_list_set
    have x2 := F.sub_list_frozenset
    have x3 : (Value.type "list" == Value.type "dict") = false := by decide
    have hl1 : (s.heap.push (setO0 w)).IsList l items := ⟨_, hol', rfl, nl, rfl⟩
    unfold Builtin.«set.__init__» noKeywords Builtin.Frozenset.updateFrom
    generalize hPI : pyIter = PI
    wp_walk
    subst hPI
    refine wpAny_pyIter_list hl1 (wpAny_bind (wpAny_runValue ?_))
    have hlS : l < s.heap.objs.size := Heap.lt_size hol
    have hh3 : A.in1.in1.in1.handled = none := by simp [hh]
    have hz : (s.heap.push (setO0 w)).objs.size = s.heap.objs.size + 1 := Heap.size_push ..
    have hne : l ≠ (s.heap.push (setO0 w)).objs.size := by rw [hz]; exact Nat.ne_of_lt (Nat.lt_succ_of_lt hlS)
    have hSf : s.heap.objs.size ∉ [(s.heap.push (setO0 w)).objs.size, l] := by
      rw [hz]; simp only [List.mem_cons, List.not_mem_nil, or_false, not_or]
      exact ⟨Nat.ne_of_lt (Nat.lt_succ_self _), Nat.ne_of_gt hlS⟩
    refine loop_mx ((Walks.list hh3 _ l hne items).toS) s.heap.objs.size hSf ks hn hb hv (items.size - 0) 0 _ (by omega) (Nat.zero_le _) ⟨⟨_, Heap.get?_push_size _ rfl, rfl, rfl⟩, (hl1.push _)⟩ ?hS0 ?hR
    case hS0 => exact mx_new (Heap.get?_push_of_some _ hS)
    case hR =>
      intro s' mv hS'
      obtain ⟨h', g2, d', tk', os'⟩ := s'
      have eg : g2 = s.gens := mv.gens
      have ed : d' = s.drawn := mv.drawn
      have eo : os' = s.os := mv.os
      subst eg; subst ed; subst eo
      show wpAny _ _ _ _ _ _
      refine wpAny_pure ?_
      show wpAny _ _ (PySem.ret Value.none) _ _ _
      refine wpAny_pure ⟨rfl, h', tk', rfl, hS', fun b o e => ?_⟩
      have b0 : b < s.heap.objs.size := Heap.lt_size e
      refine mv.heap b o (fun z => ?_) (Heap.get?_push_of_some _ (Heap.get?_push_of_some _ e))
      rcases List.mem_cons.mp z with z | z
      · exact absurd b0 (by rw [z]; exact Nat.lt_irrefl _)
      · have z := List.mem_singleton.mp z
        exact absurd b0 (by rw [z, hz]; exact Nat.not_lt_of_le (Nat.le_succ _))
  · rcases r2 with e | (_ | _ | x | _)
    all_goals first | exact hr2 | exact hr2.elim | skip
    obtain ⟨rfl, h', tk, rfl, hS', hk'⟩ := hr2
    repeat (any_goals (first | assumption | wp_step))
    exact h _ _ hS' hk'
theorem call_mx_tuple {l : Addr} {items : Array Value} (ks : List Key) {Q : Value → Shared → Prop} (hh : A.handled = none) (hl : s.heap.IsTuple l items)
    (hv : ∀ (i : Nat) (v : Value), items[i]? = some v → ∃ k, ks[i]? = some k ∧ keyIs k v = true) (hn : items.size = ks.length) (hb : ks.length + 1 < scanBound)
    (h : ∀ (h' : Heap) (tk : Nat), MxR P w h' s.heap.objs.size (uniqK ks) → (∀ b o, s.heap.get? b = some o → h'.get? b = some o) → Q (.ref s.heap.objs.size) { s with heap := h', toks := tk }) :
    wpAny (model P w) A (call (.type "set") [.ref l]) Q E s := by
  obtain ⟨c, tl, hmro⟩ := F.called_set.mro
  have hmade := F.called_set.made
  have hsub := F.called_set.sub
  refine wpAny_call (codeAny_of_tree ?_)
  show wpAny _ _ (callAny (.type "set") _) _ _ _
  refine wpAny_pure ⟨Code.quiet_builtin _ (by decide +kernel), codeAny_builtin F.entry_type_call ?_⟩
  rw [Around.under_plain (weight_type_call_type "set" [.ref l] []) rfl]
  have h1 := F.called_set.notType
  have h2 := F.called_set.canCreate
  have hct := F.typeCall_set_1 (.ref l)
  repeat (any_goals (first | assumption | wp_step))
  refine codeAny_mono (code_set_led1 (.ref l) (E := E) (Q₁ := fun x s1 => x = .ref s.heap.objs.size ∧ s1 = { s with heap := s.heap.push (setO0 w) }) ⟨rfl, rfl⟩) fun r s1 hr => ?_
  rcases r with e | (_ | _ | x | _)
  all_goals first | exact hr | exact hr.elim | skip
  obtain ⟨rfl, rfl⟩ := hr
  have hS : (s.heap.push (setO0 w)).get? s.heap.objs.size = some (setO0 w) := Heap.get?_push_size _ rfl
  have hT : Shared.TypeIs { s with heap := s.heap.push (setO0 w) } (.ref s.heap.objs.size) "set" := ⟨_, hS, rfl⟩
  have hli := F.called_set.init.lookup
  have hbi := F.called_set.init.bind (.ref s.heap.objs.size)
  repeat (any_goals (first | assumption | wp_step))
  refine codeAny_mono (codeAny_call_builtin (R := wants (fun r s2 => r = .none ∧ ∃ h' tk, s2 = { s with heap := h', toks := tk } ∧ MxR P w h' s.heap.objs.size (uniqK ks) ∧
      (∀ b o, s.heap.get? b = some o → h'.get? b = some o)) E) F.called_set.init.plain F.entry_set_init (check_set_init_1 hT ?_)) fun r2 s2 hr2 => ?_
  · obtain ⟨⟨oc, od, odt, os⟩, hol, hcl, nl, hdl⟩ := hl
    simp only at hcl hdl
    subst hcl; subst hdl
    have hol' : (s.heap.push (setO0 w)).get? l = some { cls := .type "tuple", dict := od, data := .seq items nl, slots := os } := Heap.get?_push_of_some _ hol
    have x1 := F.sub_tuple_set
    have x2 := F.sub_tuple_frozenset
    have x3 : (Value.type "tuple" == Value.type "dict") = false := by decide
    have hl1 : (s.heap.push (setO0 w)).IsTuple l items := ⟨_, hol', rfl, nl, rfl⟩
    unfold Builtin.«set.__init__» noKeywords Builtin.Frozenset.updateFrom
    generalize hPI : pyIter = PI
    wp_walk
    subst hPI
    refine wpAny_pyIter_tuple hl1 (wpAny_bind (wpAny_runValue ?_))
    have hlS : l < s.heap.objs.size := Heap.lt_size hol
    have hh3 : A.in1.in1.in1.handled = none := by simp [hh]
    have hz : (s.heap.push (setO0 w)).objs.size = s.heap.objs.size + 1 := Heap.size_push ..
    have hne : l ≠ (s.heap.push (setO0 w)).objs.size := by rw [hz]; exact Nat.ne_of_lt (Nat.lt_succ_of_lt hlS)
    have hSf : s.heap.objs.size ∉ [(s.heap.push (setO0 w)).objs.size, l] := by
      rw [hz]; simp only [List.mem_cons, List.not_mem_nil, or_false, not_or]
      exact ⟨Nat.ne_of_lt (Nat.lt_succ_self _), Nat.ne_of_gt hlS⟩
    refine loop_mx ((Walks.tuple hh3 _ l hne items).toS) s.heap.objs.size hSf ks hn hb hv (items.size - 0) 0 _ (by omega) (Nat.zero_le _) ⟨⟨_, Heap.get?_push_size _ rfl, rfl, rfl⟩, (hl1.push _)⟩ ?hS0 ?hR
    case hS0 => exact mx_new (Heap.get?_push_of_some _ hS)
    case hR =>
      intro s' mv hS'
      obtain ⟨h', g2, d', tk', os'⟩ := s'
      have eg : g2 = s.gens := mv.gens
      have ed : d' = s.drawn := mv.drawn
      have eo : os' = s.os := mv.os
      subst eg; subst ed; subst eo
      show wpAny _ _ _ _ _ _
      refine wpAny_pure ?_
      show wpAny _ _ (PySem.ret Value.none) _ _ _
      refine wpAny_pure ⟨rfl, h', tk', rfl, hS', fun b o e => ?_⟩
      have b0 : b < s.heap.objs.size := Heap.lt_size e
      refine mv.heap b o (fun z => ?_) (Heap.get?_push_of_some _ (Heap.get?_push_of_some _ e))
      rcases List.mem_cons.mp z with z | z
      · exact absurd b0 (by rw [z]; exact Nat.lt_irrefl _)
      · have z := List.mem_singleton.mp z
        exact absurd b0 (by rw [z, hz]; exact Nat.not_lt_of_le (Nat.le_succ _))
  · rcases r2 with e | (_ | _ | x | _)
    all_goals first | exact hr2 | exact hr2.elim | skip
    obtain ⟨rfl, h', tk, rfl, hS', hk'⟩ := hr2
    repeat (any_goals (first | assumption | wp_step))
    exact h _ _ hS' hk'
end
end MP
namespace MP
open PySem PySem.Spec PyProof.Rows L2
/-! ### the keys of a set's entries -/
def AllK : List Key → List Value → Prop
  | [], [] => True
  | k :: ks, v :: vs => keyIs k v = true ∧ AllK ks vs
  | _, _ => False
theorem AllK.len : ∀ {ks : List Key} {vs : List Value}, AllK ks vs → ks.length = vs.length
  | [], [], _ => rfl
  | _ :: _, _ :: _, h => congrArg (· + 1) (AllK.len h.2)
theorem allK_of : ∀ (vs : List Value), (∀ v ∈ vs, ∃ k, keyIs k v = true) → ∃ ks, AllK ks vs
  | [], _ => ⟨[], trivial⟩
  | v :: vs, h => by
    obtain ⟨k, hk⟩ := h v List.mem_cons_self
    obtain ⟨ks, r⟩ := allK_of vs fun u hu => h u (List.mem_cons_of_mem _ hu)
    exact ⟨k :: ks, hk, r⟩
theorem AllK.find : ∀ {ks : List Key} {vs : List Value}, AllK ks vs → ∀ v ∈ vs, ∃ k ∈ ks, keyIs k v = true
  | [], [], _, _, hu => nomatch hu
  | k :: ks, v :: vs, h, u, hu => by
    rcases List.mem_cons.mp hu with rfl | hu
    · exact ⟨k, List.mem_cons_self, h.1⟩
    · obtain ⟨j, hj, q⟩ := AllK.find h.2 u hu
      exact ⟨j, List.mem_cons_of_mem _ hj, q⟩
theorem AllK.perm {vs ws : List Value} (p : vs.Perm ws) : ∀ {ks : List Key}, AllK ks vs → ∃ js, AllK js ws ∧ js.Perm ks := by
  induction p with
  | nil => intro ks h; exact ⟨ks, h, .refl _⟩
  | cons v p ih =>
    intro ks h
    cases ks with
    | nil => exact h.elim
    | cons k ks =>
      obtain ⟨js, a, b⟩ := ih h.2
      exact ⟨k :: js, ⟨h.1, a⟩, b.cons k⟩
  | swap v w l =>
    intro ks h
    match ks, h with
    | k :: j :: ks, h => exact ⟨j :: k :: ks, ⟨h.2.1, h.1, h.2.2⟩, .swap ..⟩
    | [_], h => exact h.2.elim
    | [], h => exact h.elim
  | trans p q i1 i2 =>
    intro ks h
    obtain ⟨js, a, b⟩ := i1 h
    obtain ⟨is, c, d⟩ := i2 a
    exact ⟨is, c, d.trans b⟩
theorem perm_of_sub {α : Type} : ∀ {l ks : List α}, l.Nodup → (∀ x ∈ l, x ∈ ks) → ks.length ≤ l.length → ks.Perm l
  | [], ks, _, _, hl => by
    cases ks with
    | nil => exact .refl _
    | cons _ _ => simp at hl
  | x :: l, ks, nd, sub, hl => by
    obtain ⟨n1, n2⟩ := List.nodup_cons.mp nd
    obtain ⟨a, b, rfl⟩ := List.append_of_mem (sub x List.mem_cons_self)
    have q : (a ++ b).Perm l := perm_of_sub n2 (fun y hy => by
      have z := sub y (List.mem_cons_of_mem _ hy)
      have ne : y ≠ x := fun e => n1 (e ▸ hy)
      rcases List.mem_append.mp z with z | z
      · exact List.mem_append_left _ z
      · rcases List.mem_cons.mp z with z | z
        · exact absurd z ne
        · exact List.mem_append_right _ z) (by simp at hl ⊢; omega)
    exact List.perm_middle.trans (q.cons x)
section
variable {P : Program} {w : World} {A : Around} {E : Value → Shared → Prop} {s : Shared} {a : Addr} {l : List Key}
theorem mx_vals {es : Array (Int × Value)} (el : ElemsOf (mixKind P w) es.toList) (hm : ∀ k, k ∈ l ↔ ∃ e ∈ es.toList, keyIs k e.2 = true) (nd : l.Nodup) (sz : es.size = l.length) {vs : List Value} (p : vs.Perm (es.toList.map (·.2))) :
    ∃ ks, AllK ks vs ∧ ks.Perm l := by
  obtain ⟨ks, h⟩ := allK_of (es.toList.map (·.2)) fun v hv => by
    obtain ⟨e, he, rfl⟩ := List.mem_map.mp hv
    obtain ⟨⟨k, hk, _⟩, _⟩ := el e he
    exact ⟨k, hk⟩
  have hl : ks.length = l.length := by rw [h.len, List.length_map, Array.length_toList, sz]
  have q : ks.Perm l := perm_of_sub nd (fun k hk => by
    obtain ⟨e, he, z⟩ := (hm k).1 hk
    obtain ⟨j, hj, y⟩ := h.find e.2 (List.mem_map_of_mem he)
    rw [(mixKind P w).inj e.2 k j z y]; exact hj) (by omega)
  obtain ⟨js, x, y⟩ := h.perm p.symm
  exact ⟨js, x, y.trans q⟩
theorem allK_strs : ∀ {ks : List Key} {vs : List Value}, AllK ks vs → (∀ k ∈ ks, ∃ z, k = Sum.inr z) → ∃ zs : List Str, ks = zs.map Sum.inr ∧ StrsAre vs zs
  | [], [], _, _ => ⟨[], rfl, .nil⟩
  | k :: ks, v :: vs, h, hk => by
    obtain ⟨z, rfl⟩ := hk k List.mem_cons_self
    obtain ⟨zs, rfl, r⟩ := allK_strs h.2 fun j hj => hk j (List.mem_cons_of_mem _ hj)
    obtain ⟨t, rfl⟩ := Value.isStrOf_shape (x := z) (v := v) h.1
    exact ⟨z :: zs, rfl, .cons z t r⟩
theorem allK_ints : ∀ {ks : List Key} {vs : List Value}, AllK ks vs → (∀ k ∈ ks, ∃ z, k = Sum.inl z) → ∃ zs : List Int, ks = zs.map Sum.inl ∧ IntsAre vs zs
  | [], [], _, _ => ⟨[], rfl, .nil⟩
  | k :: ks, v :: vs, h, hk => by
    obtain ⟨z, rfl⟩ := hk k List.mem_cons_self
    obtain ⟨zs, rfl, r⟩ := allK_ints h.2 fun j hj => hk j (List.mem_cons_of_mem _ hj)
    rcases keyIs_shape h.1 with ⟨i, t, e, rfl⟩ | ⟨x, t, e, rfl⟩
    · cases e; exact ⟨z :: zs, rfl, .cons z t r⟩
    · cases e
/-! ### rows put in order -/
def leS (x y : Str) : Bool := !decide (y.cps.toList < x.cps.toList)
def sortS (zs : List Str) : List Str := zs.mergeSort leS
def sortI (zs : List Int) : List Int := zs.mergeSort fun x y => decide (x ≤ y)
theorem leS_trans (x y z : Str) (h1 : leS x y = true) (h2 : leS y z = true) : leS x z = true := by
  simp only [leS, Bool.not_eq_true', decide_eq_false_iff_not] at *
  exact fun h => h2 (Std.lt_of_lt_of_le h (Std.not_lt.mp h1))
theorem leS_total (x y : Str) : (leS x y || leS y x) = true := by
  simp only [leS, Bool.or_eq_true, Bool.not_eq_true', decide_eq_false_iff_not]
  by_cases h : y.cps.toList < x.cps.toList
  · exact .inr fun q => absurd (Std.lt_trans h q) Std.lt_irrefl
  · exact .inl h
theorem leS_anti {x y : Str} (h1 : leS x y = true) (h2 : leS y x = true) : x = y := by
  simp only [leS, Bool.not_eq_true', decide_eq_false_iff_not] at *
  have e : x.cps.toList = y.cps.toList := Std.le_antisymm (Std.not_lt.mp h1) (Std.not_lt.mp h2)
  obtain ⟨⟨x⟩⟩ := x; obtain ⟨⟨y⟩⟩ := y
  simp at e; rw [e]
theorem rising_pw : ∀ {zs : List Str} {p : Str}, risingS p zs = true → (p :: zs).Pairwise (fun x y => leS x y = true)
  | [], _, _ => List.pairwise_singleton _ _
  | x :: r, p, h => by
    have h' : (!ltCps x.cps.toList p.cps.toList && risingS x r) = true := h
    rw [Bool.and_eq_true, ltCps_eq] at h'
    have ih := rising_pw h'.2
    have px : leS p x = true := h'.1
    refine List.pairwise_cons.mpr ⟨fun y hy => ?_, ih⟩
    rcases List.mem_cons.mp hy with rfl | hy
    · exact px
    · exact leS_trans _ _ _ px ((List.pairwise_cons.mp ih).1 y hy)
theorem sortS_eq {ys zs : List Str} (p : ys.Perm zs) (h : sortedS ys = true) : ys = sortS zs := by
  have h1 : ys.Pairwise (fun x y => leS x y = true) := by
    cases ys with
    | nil => exact .nil
    | cons y r => exact rising_pw h
  exact List.Perm.eq_of_pairwise (le := fun x y => leS x y = true) (fun a b _ _ => leS_anti) h1 (List.pairwise_mergeSort leS_trans leS_total zs) (p.trans (List.mergeSort_perm zs leS).symm)
theorem sortI_eq {ys zs : List Int} (p : ys.Perm zs) (h : ys.Pairwise (· ≤ ·)) : ys = sortI zs :=
  List.Perm.eq_of_pairwise (le := fun x y => decide (x ≤ y) = true) (fun a b _ _ x y => by have := of_decide_eq_true x; have := of_decide_eq_true y; omega) (h.imp fun q => decide_eq_true q)
    (List.pairwise_mergeSort (fun a b c x y => by have := of_decide_eq_true x; have := of_decide_eq_true y; exact decide_eq_true (by omega)) (fun a b => by by_cases z : a ≤ b <;> simp [z]; omega) zs) (p.trans (List.mergeSort_perm zs _).symm)
end
end MP
namespace MP
open PySem PySem.Spec PyProof.Rows L2
def MxO (P : Program) (w : World) (a : Addr) (l : List Key) : HO := .ext fun h => MxR P w h a l
theorem mxO_new {P : Program} {w : World} {H : Hp} {h : Heap} {a : Addr} {l : List Key} (R : MxR P w h a l) : ObjOk P w H h a (MxO P w a l) := by
  have ⟨o, _, _, _, ho, _⟩ := R
  exact ⟨R, ⟨o, ho⟩, fun h1 h2 p k => p.keep k⟩
theorem relV_key {k : Key} {u : Value} (r : RelV (kV k) u) : keyIs k u = true := by
  cases k with
  | inl i => obtain ⟨t, rfl⟩ := r; show ((i == i) = true); simp
  | inr x => obtain ⟨t, rfl⟩ := r; show Value.isStrOf x (.str x t) = true; simp [Value.isStrOf]
theorem vals_keys : ∀ {ks : List Key} {us : List Value}, Vals (ks.map kV) us → ∀ (i : Nat) (v : Value), us[i]? = some v → ∃ k, ks[i]? = some k ∧ keyIs k v = true
  | [], _, .nil, i, v, h => by simp at h
  | k :: ks, _, .cons r t, 0, v, h => by simp at h; subst h; exact ⟨k, rfl, relV_key r⟩
  | k :: ks, _, .cons r t, i + 1, v, h => by
    obtain ⟨j, a, b⟩ := vals_keys t i v (by simpa using h)
    exact ⟨j, by simpa using a, b⟩
section
variable {X : Cx}
theorem mxO_get {pins : List (Addr × Obj)} {σ : L2.St} {H : Hp} {s : Shared} {a : Addr} {l : List Key} (I : Inv X pins σ H s) (ha : H a = some (MxO X.prog X.w a l)) : MxR X.prog X.w s.heap a l := (I.hok a _ ha).1
/-- set(xs), ints and texts -/
def rSetM (K : PySem.W.Frag) (P : Program) (w : World) : List V → Hp → VK → Prop := fun xs H Q => ∃ (l : Addr) (ks : List Key), xs = [V.ref l] ∧ (SqL K H l (ks.map kV) ∨ SqT K H l (ks.map kV)) ∧ ks.length < 4000 ∧
  ∀ a, H a = none → Q (.ref a) (upd H a (MxO P w a (uniqK ks)))
theorem cr_setM (hc : X.calm = true) : CallR X (.type "set") (rSetM X.K X.prog X.w) := by
  intro pins s σ H xs us Q I r h
  obtain ⟨l, ks, rfl, hl, hf, q⟩ := h
  rw [Vals.ref1 r]
  have hn : H s.heap.objs.size = none := I.hok.fresh (Nat.le_refl _)
  have hb : ks.length + 1 < scanBound := by unfold scanBound; omega
  have fin : ∀ (h' : Heap) (tk : Nat), MxR X.prog X.w h' s.heap.objs.size (uniqK ks) → (∀ b o, s.heap.get? b = some o → h'.get? b = some o) → ∃ (v : V) (H' : Hp), Inv X pins σ H' { s with heap := h', toks := tk } ∧ RelV v (.ref s.heap.objs.size) ∧ Q v H' := fun h' tk R k =>
    ⟨.ref s.heap.objs.size, upd H s.heap.objs.size (MxO X.prog X.w s.heap.objs.size (uniqK ks)), I.laid (t' := tk) k (Nat.le_refl _) (mxO_new R), rfl, q _ hn⟩
  rcases hl with hl | hl
  · obtain ⟨its, rv, pl, hz⟩ := I.list hl
    refine call_mx_list ks (I.ok.hd hc) pl.isList (fun i v e => vals_keys rv i v (by simpa using e)) ?_ hb fin
    have e := rv.length
    rw [List.length_map] at e
    simpa using e.symm
  · obtain ⟨its, rv, pl, hz⟩ := I.tuple hl
    refine call_mx_tuple ks (I.ok.hd hc) pl (fun i v e => vals_keys rv i v (by simpa using e)) ?_ hb fin
    have e := rv.length
    rw [List.length_map] at e
    simpa using e.symm
def rLenM (P : Program) (w : World) : List V → Hp → VK → Prop := fun xs H Q => ∃ (a : Addr) (l : List Key), xs = [V.ref a] ∧ H a = some (MxO P w a l) ∧ Q (.int l.length) H
theorem cr_lenM : CallR X (.builtin "len") (rLenM X.prog X.w) := by
  intro pins s σ H xs us Q I r h
  obtain ⟨a, l, rfl, ha, q⟩ := h
  rw [Vals.ref1 r]
  obtain ⟨o, es, ep, t, ho, hex, hd, el, hm, nd, sz, hb, hf, hr, hl⟩ := mxO_get I ha
  refine call_len_set ho hex hd hf ?_ ⟨.int l.length, H, I.tok _, ⟨_, by rw [sz]⟩, q⟩
  have : es.size < 4096 := by rw [sz]; exact hb
  omega
theorem ints_vals : ∀ {us : List Value} {zs : List Int}, IntsAre us zs → Vals (zs.map V.int) us
  | _, _, .nil => .nil
  | _, _, .cons n t r => .cons ⟨t, rfl⟩ (ints_vals r)
def rSortM (P : Program) (w : World) : List V → Hp → VK → Prop := fun xs H Q => ∃ (a : Addr) (l : List Key), xs = [V.ref a] ∧ H a = some (MxO P w a l) ∧ l.length < 64 ∧
  ((∃ zs : List Str, l = zs.map Sum.inr ∧ ∀ p, H p = none → Q (.ref p) (upd H p (.lst ((sortS zs).map V.str)))) ∨ (∃ zs : List Int, l = zs.map Sum.inl ∧ ∀ p, H p = none → Q (.ref p) (upd H p (.lst ((sortI zs).map V.int)))))
theorem perm_inr {ks : List Key} {zs : List Str} (p : ks.Perm (zs.map Sum.inr)) {ys : List Str} (e : ks = ys.map Sum.inr) : ys.Perm zs := by
  subst e
  have q := p.filterMap Sum.getRight?
  rw [List.filterMap_map, List.filterMap_map] at q
  have e : ∀ l : List Str, l.filterMap (Sum.getRight? ∘ (Sum.inr : Str → Key)) = l := fun l => by induction l with
    | nil => rfl
    | cons x l ih => show x :: _ = _; rw [ih]
  rwa [e, e] at q
theorem perm_inl {ks : List Key} {zs : List Int} (p : ks.Perm (zs.map Sum.inl)) {ys : List Int} (e : ks = ys.map Sum.inl) : ys.Perm zs := by
  subst e
  have q := p.filterMap Sum.getLeft?
  rw [List.filterMap_map, List.filterMap_map] at q
  have e : ∀ l : List Int, l.filterMap (Sum.getLeft? ∘ (Sum.inl : Int → Key)) = l := fun l => by induction l with
    | nil => rfl
    | cons x l ih => show x :: _ = _; rw [ih]
  rwa [e, e] at q
theorem cr_sortM (hc : X.calm = true) : CallR X (.builtin "sorted") (rSortM X.prog X.w) := by
  intro pins s σ H xs us Q I r h
  obtain ⟨a, l, rfl, ha, h64, q⟩ := h
  rw [Vals.ref1 r]
  obtain ⟨o, es, ep, t, ho, hex, hd, el, hm, nd, sz, hb, hf, hr, hl⟩ := mxO_get I ha
  refine Calls.call_function_entry kind_sorted plain_sorted entry_sorted (args_sorted1 _) ?_
  unfold Builtin.«sorted»
  refine wpAny_bind (m := checkCount "sorted" 1 1 _) (wpAny_pure ?_)
  refine wpAny_bind (collect_set (A := X.A.in1) (I.ok.hd hc) ⟨o, ho, hex.1, hd⟩ hf (by rw [sz]; exact hb) hr hl fun s1 vs k1 hz g1 o1 pm => ?_)
  obtain ⟨ks, hK, pK⟩ := mx_vals el hm nd sz pm
  have hvl : vs.length = l.length := by rw [← hK.len, pK.length_eq]
  refine wpAny_bind (wpAny_newList ?_ (by rw [hvl, sizeLine_eq]; omega))
  have hoL : (s1.heap.push (seqObj "list" vs.toArray 0)).get? s1.heap.objs.size = some (seqObj "list" vs.toArray 0) := Heap.get?_push_size _ rfl
  have old : ∀ (out : Array Value) b u, s.heap.get? b = some u → (sortedHeap (s1.heap.push (seqObj "list" vs.toArray 0)) s1.heap.objs.size vs out).get? b = some u := fun out b u e => by
    have q := k1 b u e
    have hlt := Heap.lt_size q
    rw [sortedHeap_old (Nat.ne_of_lt hlt) (by rw [size_push']; exact Nat.lt_succ_of_lt hlt)]
    exact Heap.get?_push_of_some _ q
  have hn : H s1.heap.objs.size = none := I.hok.fresh hz
  have fin : ∀ (ys : List V) (out : Array Value), ys.length = l.length → Vals ys out.toList → (∀ p, H p = none → Q (.ref p) (upd H p (.lst ys))) →
      ∃ (v : V) (H' : Hp), Inv X pins σ H' { s1 with heap := sortedHeap (s1.heap.push (seqObj "list" vs.toArray 0)) s1.heap.objs.size vs out } ∧ RelV v (.ref s1.heap.objs.size) ∧ Q v H' := fun ys out hy rv q => by
    obtain ⟨c, hc'⟩ := sortedHeap_at (vs := vs) (out := out) hoL
    have J : Inv X pins σ (upd H s1.heap.objs.size (.lst ys)) { s with heap := sortedHeap (s1.heap.push (seqObj "list" vs.toArray 0)) s1.heap.objs.size vs out, gens := s1.gens, drawn := s1.drawn, toks := s1.toks } :=
      I.call (ch := []) (Un.laid (old out) hz hn) (I.hok.laid (old out) hz ⟨by rw [hy, sizeLine_eq]; omega, out.toList, c, rv, hc'⟩) (by rw [g1]; exact I.bare) (fun _ z => nomatch z)
    have e : { s1 with heap := sortedHeap (s1.heap.push (seqObj "list" vs.toArray 0)) s1.heap.objs.size vs out } = { s with heap := sortedHeap (s1.heap.push (seqObj "list" vs.toArray 0)) s1.heap.objs.size vs out, gens := s1.gens, drawn := s1.drawn, toks := s1.toks } := by
      cases s1
      cases s
      cases o1
      rfl
    rw [e]
    exact ⟨.ref s1.heap.objs.size, _, J, rfl, q _ hn⟩
  rcases q with ⟨zs, rfl, q⟩ | ⟨zs, rfl, q⟩
  · obtain ⟨ys, e, hS⟩ := allK_strs hK fun k hk => by obtain ⟨z, _, e⟩ := List.mem_map.mp (pK.mem_iff.mp hk); exact ⟨z, e.symm⟩
    refine wpAny_bind (wpAny_holding (wpAny_call_entry slot_list_sort ⟨_, hoL, rfl⟩ entry_list_sort
      (list_sort_treeK strKind_oneLt (s := { s1 with heap := s1.heap.push (seqObj "list" vs.toArray 0) }) hoL hS.keysOf (fun v₁ v₂ rest e => keyKind_strs (by rw [← e]; exact hS)) (by rw [hvl]; exact h64) fun st' hp hs => ⟨_, rfl, ?_⟩) (args_list_sort _)))
    obtain ⟨us, g2, g3, g4⟩ := sorted_out_str hS hp hs
    have e2 : us = sortS zs := sortS_eq (g3.trans (perm_inr pK e)) g4
    subst e2
    exact wpAny_pure ⟨_, rfl, fin _ _ (by rw [List.length_map, List.length_map]; exact (List.mergeSort_perm zs leS).length_eq) (vals_of_strs g2) q⟩
  · obtain ⟨ys, e, hS⟩ := allK_ints hK fun k hk => by obtain ⟨z, _, e⟩ := List.mem_map.mp (pK.mem_iff.mp hk); exact ⟨z, e.symm⟩
    refine wpAny_bind (wpAny_holding (wpAny_call_entry slot_list_sort ⟨_, hoL, rfl⟩ entry_list_sort
      (list_sort_tree (s := { s1 with heap := s1.heap.push (seqObj "list" vs.toArray 0) }) hoL hS (by rw [hvl]; exact h64) fun out ns' a1 a2 a3 => ⟨_, rfl, ?_⟩) (args_list_sort _)))
    have e2 : ns' = sortI zs := sortI_eq (a2.trans (perm_inl pK e)) a3
    subst e2
    exact wpAny_pure ⟨_, rfl, fin _ _ (by rw [List.length_map, List.length_map]; exact (List.mergeSort_perm zs _).length_eq) (ints_vals a1) q⟩
end
/-! ### len(set(xs)), sorted(set(xs)) -/
def keysD : List D → Option (List Key)
  | [] => some []
  | .int i :: ds => (keysD ds).map (Sum.inl i :: ·)
  | .str x :: ds => (keysD ds).map (Sum.inr x :: ·)
  | _ => none
def itemsKO (d : D) : Option (List Key) := ((itemsOf d).bind keysD).bind fun ks => if ks.length < 4000 then some ks else none
theorem keys_reps {K : PySem.W.Frag} {B : Hp} : ∀ {ds : List D} {vs : List V} {ks : List Key}, Reps K B vs ds → keysD ds = some ks → vs = ks.map kV
  | [], _, _, .nil, h => by cases h; rfl
  | .int i :: ds, _, ks, .cons r rs, h => by
    obtain ⟨js, e, rfl⟩ := Option.map_eq_some_iff.mp (show (keysD ds).map (Sum.inl i :: ·) = some ks from h)
    cases r; rw [keys_reps rs e]; rfl
  | .str i :: ds, _, ks, .cons r rs, h => by
    obtain ⟨js, e, rfl⟩ := Option.map_eq_some_iff.mp (show (keysD ds).map (Sum.inr i :: ·) = some ks from h)
    cases r; rw [keys_reps rs e]; rfl
  | .non :: _, _, _, _, h => by cases h
  | .bl _ :: _, _, _, _, h => by cases h
  | .tup _ :: _, _, _, _, h => by cases h
  | .lst _ :: _, _, _, _, h => by cases h
  | .dct _ :: _, _, _, _, h => by cases h
  | .ins _ _ :: _, _, _, _, h => by cases h
def lenSetD (d : D) : Option D := (itemsKO d).map fun ks => .int (uniqK ks).length
/-- the texts, or the ints, of a row of keys -/
def strsK : List Key → Option (List Str)
  | [] => some []
  | .inr x :: ks => (strsK ks).map (x :: ·)
  | .inl _ :: _ => none
def intsK : List Key → Option (List Int)
  | [] => some []
  | .inl x :: ks => (intsK ks).map (x :: ·)
  | .inr _ :: _ => none
theorem strsK_eq : ∀ {ks : List Key} {zs : List Str}, strsK ks = some zs → ks = zs.map Sum.inr
  | [], _, h => by cases h; rfl
  | .inr x :: ks, _, h => by
    obtain ⟨js, e, rfl⟩ := Option.map_eq_some_iff.mp (show (strsK ks).map (x :: ·) = some _ from h)
    rw [strsK_eq e]; rfl
  | .inl _ :: _, _, h => by cases h
theorem intsK_eq : ∀ {ks : List Key} {zs : List Int}, intsK ks = some zs → ks = zs.map Sum.inl
  | [], _, h => by cases h; rfl
  | .inl x :: ks, _, h => by
    obtain ⟨js, e, rfl⟩ := Option.map_eq_some_iff.mp (show (intsK ks).map (x :: ·) = some _ from h)
    rw [intsK_eq e]; rfl
  | .inr _ :: _, _, h => by cases h
def sortKD (l : List Key) : Option (List D) := if l.length < 64 then (match strsK l with
  | some zs => some ((sortS zs).map .str)
  | none => match intsK l with
    | some zs => some ((sortI zs).map .int)
    | none => none) else none
def sortSetD (d : D) : Option (List D) := (itemsKO d).bind fun ks => sortKD (uniqK ks)
section
variable {F : CF} {K : PySem.W.Frag} {mg : Str → Option Value} {Z : XC} {own : List Stt} {N : List Str} {vis lv : List Bool} {gl : List Str} {k : Nat} {a : Expr} {pos : Pos} {g : M D}
theorem pe_cl {X : Cx} {e : Expr} {t : TE} (h : PE X e t) : PE X e (fun σ H Q => ∃ k : VK, t σ H k ∧ ∀ v H', k v H' → Q v H') :=
  ⟨fun pins s σ H Q I ⟨k, a, b⟩ => thn (h.run pins s σ H k I a) fun _ _ ⟨x, H', J, r, q⟩ => ⟨x, H', J, r, b _ _ q⟩⟩
theorem keys_ok {B : Hp} : ∀ {ds : List D} {vs : List V} {ks : List Key}, Reps K B vs ds → keysD ds = some ks → ∀ x, Sum.inr x ∈ ks → PyData.strOk x = true
  | [], _, _, .nil, h, x, hx => by cases h; cases hx
  | .int i :: ds, _, ks, .cons r rs, h, x, hx => by
    obtain ⟨js, e, rfl⟩ := Option.map_eq_some_iff.mp (show (keysD ds).map (Sum.inl i :: ·) = some ks from h)
    rcases List.mem_cons.mp hx with z | z
    · cases z
    · exact keys_ok rs e x z
  | .str i :: ds, _, ks, .cons r rs, h, x, hx => by
    obtain ⟨js, e, rfl⟩ := Option.map_eq_some_iff.mp (show (keysD ds).map (Sum.inr i :: ·) = some ks from h)
    rcases List.mem_cons.mp hx with z | z
    · cases z; cases r; assumption
    · exact keys_ok rs e x z
  | .non :: _, _, _, _, h, _, _ => by cases h
  | .bl _ :: _, _, _, _, h, _, _ => by cases h
  | .tup _ :: _, _, _, _, h, _, _ => by cases h
  | .lst _ :: _, _, _, _, h, _, _ => by cases h
  | .dct _ :: _, _, _, _, h, _, _ => by cases h
  | .ins _ _ :: _, _, _, _, h, _, _ => by cases h
theorem rps_strs {B : Hp} : ∀ {zs : List Str}, (∀ z ∈ zs, PyData.strOk z = true) → Reps K B (zs.map V.str) (zs.map D.str)
  | [], _ => .nil
  | z :: zs, h => .cons (.str z (h z List.mem_cons_self)) (rps_strs fun y hy => h y (List.mem_cons_of_mem _ hy))
theorem rps_ints {B : Hp} : ∀ {zs : List Int}, Reps K B (zs.map V.int) (zs.map D.int)
  | [] => .nil
  | z :: zs => .cons (.int z) rps_ints
theorem items_ks {H B : Hp} {d : D} {ks : List Key} {v : V} (bh : Ex B H) (l : RV K H B v d) (h : itemsKO d = some ks) : ∃ p, v = .ref p ∧ (SqL K H p (ks.map kV) ∨ SqT K H p (ks.map kV)) ∧ ks.length < 4000 ∧ ∀ x, Sum.inr x ∈ ks → PyData.strOk x = true := by
  obtain ⟨ks', e, h⟩ := Option.bind_eq_some_iff.mp h
  obtain ⟨ds, e1, e2⟩ := Option.bind_eq_some_iff.mp e
  split at h
  · rename_i hl
    cases h
    obtain ⟨p, vs, rfl, hq, rs, hz⟩ := rep_items l e1
    have ok := keys_ok rs e2
    have ev := keys_reps rs e2
    subst ev
    exact ⟨p, rfl, hq.elim (fun z => .inr (seqT bh z)) (fun z => .inl (bh.seq z)), hl, ok⟩
  · cases h
theorem ex_lenSet (S : Sx F K mg N vis gl k) (i j : Nat) {p p2 pos2 : Pos} (hm : mg "len" = none) (hm2 : mg "set" = none) (ha : EX F K Z own a g) (hg : gl[i]? = some ("len" : Str) := by rfl) (hg2 : gl[j]? = some ("set" : Str) := by rfl)
    (hs : ∀ X, F X → starEach [a] X.env = (false, eval a X.env) :: starEach [] X.env := by intro _ _; rfl)
    (hs2 : ∀ X, F X → starEach [Expr.Call (.Name "set" p2) [a] [] pos2] X.env = (false, eval (Expr.Call (.Name "set" p2) [a] [] pos2) X.env) :: starEach [] X.env := by intro _ _; rfl) :
    EX F K Z own (.Call (.Name "len" p) [.Call (.Name "set" p2) [a] [] pos2] [] pos) (op1 lenSetD g) := by
  obtain ⟨ta, pa, ha⟩ := ha
  refine ⟨fun σ H Q => ta σ H fun x H1 => ∀ P w, rSetM K P w [x] H1 fun y H2 => rLenM P w [y] H2 Q, fun X hX => ?_, fun G ρ σ H B R => ?_⟩
  · obtain ⟨g1, g2, g3⟩ := S.gl X hX i _ hg
    obtain ⟨h1, h2, h3⟩ := S.gl X hX j _ hg2
    have q := pe_callB (p := p) (pos := pos) cr_lenM g1 (by rw [S.hmg X hX]; exact hm) PySem.boot_len (pa_cons (pe_callTy (cr_setM (S.calm X hX)) h1 (by rw [S.hmg X hX]; exact hm2) PyProof.Rows.boot_set (pa_cons (pe_cl (pa X hX)) pa_nil (hs X hX)) h3 h2 (hs X hX) rfl) pa_nil (hs2 X hX)) g3 g2 (hs2 X hX) rfl
    refine ⟨fun pins s σ H Q I h => q.run pins s σ H Q I ⟨_, h, fun v H' z => ?_⟩⟩
    have z' := z X.prog X.w
    rw [← S.hK X hX] at z'
    exact z'
  · refine Run.thn (p2 := fun x H1 Q => ∀ P w, rSetM K P w [x] H1 fun y H2 => rLenM P w [y] H2 Q) (ha G ρ σ H B R) fun d ρ1 v H1 B1 _ e R1 l => Run.prim R1 ?_
    cases hd : itemsKO d with
    | none => unfold lenSetD; rw [hd]; trivial
    | some ks =>
      unfold lenSetD; rw [hd]
      obtain ⟨p, rfl, hq, hl, ok⟩ := items_ks R1.keep.bh l hd
      exact fun Q q P w => ⟨p, ks, rfl, hq, hl, fun a ha => ⟨a, uniqK ks, rfl, upd_same, q _ _ B1 (New.heap (K := K) R1.keep.bh ha) (.int _)⟩⟩
theorem el_sortedSet (S : Sx F K mg N vis gl k) (i j : Nat) {p p2 pos2 : Pos} (hm : mg "sorted" = none) (hm2 : mg "set" = none) (ha : EX F K Z own a g) (hg : gl[i]? = some ("sorted" : Str) := by rfl) (hg2 : gl[j]? = some ("set" : Str) := by rfl)
    (hs : ∀ X, F X → starEach [a] X.env = (false, eval a X.env) :: starEach [] X.env := by intro _ _; rfl)
    (hs2 : ∀ X, F X → starEach [Expr.Call (.Name "set" p2) [a] [] pos2] X.env = (false, eval (Expr.Call (.Name "set" p2) [a] [] pos2) X.env) :: starEach [] X.env := by intro _ _; rfl) :
    EL F K Z own (.Call (.Name "sorted" p) [.Call (.Name "set" p2) [a] [] pos2] [] pos) (bnd g fun d => ofO (sortSetD d)) := by
  obtain ⟨ta, pa, ha⟩ := ha
  refine ⟨fun σ H Q => ta σ H fun x H1 => ∀ P w, rSetM K P w [x] H1 fun y H2 => rSortM P w [y] H2 Q, fun X hX => ?_, fun G ρ σ H B R => ?_⟩
  · obtain ⟨g1, g2, g3⟩ := S.gl X hX i _ hg
    obtain ⟨h1, h2, h3⟩ := S.gl X hX j _ hg2
    have q := pe_callB (p := p) (pos := pos) (cr_sortM (S.calm X hX)) g1 (by rw [S.hmg X hX]; exact hm) PyProof.Rows.boot_sorted (pa_cons (pe_callTy (cr_setM (S.calm X hX)) h1 (by rw [S.hmg X hX]; exact hm2) PyProof.Rows.boot_set (pa_cons (pe_cl (pa X hX)) pa_nil (hs X hX)) h3 h2 (hs X hX) rfl) pa_nil (hs2 X hX)) g3 g2 (hs2 X hX) rfl
    refine ⟨fun pins s σ H Q I h => q.run pins s σ H Q I ⟨_, h, fun v H' z => ?_⟩⟩
    have z' := z X.prog X.w
    rw [← S.hK X hX] at z'
    exact z'
  · refine Run.thn (p2 := fun x H1 Q => ∀ P w, rSetM K P w [x] H1 fun y H2 => rSortM P w [y] H2 Q) (ha G ρ σ H B R) fun d ρ1 v H1 B1 _ e R1 l => ?_
    cases hd : sortSetD d with
    | none => simp only [ofO]; trivial
    | some ds =>
      obtain ⟨ks, hk, hs⟩ := Option.bind_eq_some_iff.mp hd
      obtain ⟨p, rfl, hq, hl, ok⟩ := items_ks R1.keep.bh l hk
      intro Q q P w
      refine ⟨p, ks, rfl, hq, hl, fun a ha => ?_⟩
      have n1 : New K B1 H1 B1 (upd H1 a (MxO P w a (uniqK ks))) := New.heap (K := K) R1.keep.bh ha
      have R2 := R1.new n1
      unfold sortKD at hs
      split at hs
      · rename_i h64
        refine ⟨a, uniqK ks, rfl, upd_same, h64, ?_⟩
        split at hs
        · rename_i zs ez
          cases hs
          refine .inl ⟨zs, strsK_eq ez, fun l hl => ?_⟩
          have e := strsK_eq ez
          have hn : ((sortS zs).map D.str).length ≤ sizeLine := by
            have x : (sortS zs).length = zs.length := (List.mergeSort_perm zs leS).length_eq
            rw [e, List.length_map] at h64
            rw [List.length_map, x, sizeLine_eq]; omega
          obtain ⟨R3, f3⟩ := R2.fresh hl (rps_strs (zs := sortS zs) fun z hz => ok z (uniq_mem.mp (by rw [e]; exact List.mem_map_of_mem ((List.mergeSort_perm zs leS).mem_iff.mp hz)))) hn
          exact q _ _ B1 Ex.rfl R3 f3
        · split at hs
          · rename_i zs ez
            cases hs
            refine .inr ⟨zs, intsK_eq ez, fun l hl => ?_⟩
            have e := intsK_eq ez
            have hn : ((sortI zs).map D.int).length ≤ sizeLine := by
              have x : (sortI zs).length = zs.length := (List.mergeSort_perm zs _).length_eq
              rw [e, List.length_map] at h64
              rw [List.length_map, x, sizeLine_eq]; omega
            obtain ⟨R3, f3⟩ := R2.fresh hl rps_ints hn
            exact q _ _ B1 Ex.rfl R3 f3
          · cases hs
      · cases hs
end
end MP
namespace MP
open PySem L2
open PySem.AutoSeq1 (wpAny_loadPart')
/-! ### enumerate(t), t a tuple -/
def tupIt (l : Addr) : Obj := { cls := .type "tuple_iterator", data := .fields #[.ref l, .int 0 0] }
def enumO (it : Addr) : Obj := { cls := .type "enumerate", data := .fields #[.none, .bool false, .ref it, rawInt 0, .none, .none] }
theorem meets_enumT (l : Addr) (items : Array Value) (n : Nat) (dct : Option Addr) (sl : Array (Option Value)) :
    Meets (Builtin.«enumerate.__new__» ⟨[.type "enumerate", .ref l], []⟩) (fun _ R s => s.heap.get? l = some { cls := .type "tuple", dict := dct, data := .seq items n, slots := sl } ∧
      R (.ok (.ret (.ref (s.heap.push (tupIt l)).objs.size))) { s with heap := (s.heap.push (tupIt l)).push (enumO s.heap.objs.size) }) :=
  .of_wp fun prog w A R s h => by
    obtain ⟨hp, g, d, tk, os⟩ := s; obtain ⟨hl, h⟩ := h
    have hsub := sub_enumerate
    have hL : Heap.IsTuple (Shared.heap ⟨hp, g, d, tk, os⟩) l items := ⟨_, hl, rfl, n, rfl⟩
    wp_walk using wpAny_loadPart' hl
    refine wpAny_stack_any fun st => wpAny_pure ?_
    split
    · rename_i c _ _ _ _ _
      cases (c == Value.type "enumerate")
      · wp_walk using wpAny_loadPart' hl, wpAny_pyIter_tuple hL
        exact ⟨_, rfl, h⟩
      · wp_walk using wpAny_loadPart' hl, wpAny_pyIter_tuple hL
        exact ⟨_, rfl, h⟩
    · wp_walk using wpAny_loadPart' hl, wpAny_pyIter_tuple hL
      exact ⟨_, rfl, h⟩
section
variable {prog : Program} {w : World} {A : Around} {E : Value → Shared → Prop} {s : Shared}
theorem call_enumT {l : Addr} {items : Array Value} {Q : Value → Shared → Prop} (hL : s.heap.IsTuple l items)
    (h : ∀ h', IsEnum h' (s.heap.objs.size + 1) s.heap.objs.size 0 .none → h'.IsTupleIter s.heap.objs.size l 0 → (∀ b o, s.heap.get? b = some o → h'.get? b = some o) → Q (.ref (s.heap.objs.size + 1)) { s with heap := h' }) :
    wpAny (model prog w) A (call (.type "enumerate") [.ref l]) Q E s := by
  obtain ⟨⟨c, dct, dt, sl⟩, hl, hc, n, hd⟩ := hL
  replace hc : c = .type "tuple" := hc
  replace hd : dt = .seq items n := hd
  subst hc hd
  refine callType_new F.called_enumerate (by decide) (F.typeCall_enumerate_1 _) (F.newCall_enumerate_1 _) (fun obj => F.args_object_init_2 obj _) F.entry_enumerate_new (meets_enumT l items n dct sl) ⟨hl, ?_⟩
  have hz : (s.heap.push (tupIt l)).objs.size = s.heap.objs.size + 1 := Heap.size_push ..
  show _ ∧ _
  have he : IsEnum ((s.heap.push (tupIt l)).push (enumO s.heap.objs.size)) (s.heap.objs.size + 1) s.heap.objs.size 0 .none := by
    have q := Heap.get?_push_size (s.heap.push (tupIt l)) (o := enumO s.heap.objs.size) rfl
    rw [hz] at q; exact q
  rw [hz]
  exact ⟨⟨_, he, rfl⟩, h _ he ⟨_, Heap.get?_push_of_some _ (Heap.get?_push_size _ rfl), rfl, rfl⟩ fun b o x => Heap.get?_push_of_some _ (Heap.get?_push_of_some _ x)⟩
theorem enumT_end {e it l : Addr} {i : Nat} {c : Int} {items : Array Value} {old : Value} {Q : Option Value → Shared → Prop} (hh : A.handled = none) (he : IsEnum s.heap e it c old) (hit : s.heap.IsTupleIter it l i) (hl : s.heap.IsTuple l items) (hx : items[i]? = none)
    (hQ : ∀ h', Heap.ExtBut it s.heap h' → Q none { s with heap := h' }) : wpAny (model prog w) A (pyNext (.ref e)) Q E s := by
  have hT : s.TypeIs (.ref e) "enumerate" := ⟨_, he, rfl⟩
  unfold pyNext
  refine wpAny_bind (wpAny_attempt (wpAny_callSpecial?_slot (name := Str.ofString "__next__") hT F.slot_enumerate_next (wpAny_call_entry F.slot_enumerate_next hT F.entry_enumerate_next ?_ (F.args_enumerate_next_1 _))))
  show wpAny _ _ (field (.ref e) 2 >>= _) _ _ _
  refine wpAny_bind (wpAny_field he rfl (x := .ref it) rfl (wpAny_bind (wpAny_nextOf_tuple_end (A := A.in1) hh hit hl hx fun h' x he' hx' => ?_)))
  obtain ⟨o, ho, hc⟩ := hx'
  exact wpAny_bind (wpAny_isInstance (T := "StopIteration") (b := true) ⟨o, ho, hc⟩ isSubtype_stop (wpAny_pure (hQ _ he')))
end
def IteT (K : PySem.W.Frag) (a : Addr) : It :=
  ⟨fun i H => ∃ (xs : List V) (x : V), SqT K H a xs ∧ xs[i]? = some x, fun i H v H' => ∃ T x, v = .ref T ∧ H T = none ∧ H' = upd H T (.tup [.int (i : Nat), x]) ∧ ∀ xs, SqT K H a xs → xs[i]? = some x,
    fun i H => ∃ xs : List V, SqT K H a xs ∧ xs.length ≤ i⟩
theorem turn_enumT {P : Program} {w : World} {K : PySem.W.Frag} {elts : List Expr} {kk : Nat} {tpos : Pos} (a e it : Addr) :
    Turn P w K (.Tuple elts kk tpos) (IteT K a) [e, it] e (fun i h => (∃ old, IsEnum h e it ((i : Nat) : Int) old) ∧ h.IsTupleIter it a i ∧ e ≠ it ∧ e ≠ a ∧ a ≠ it) where
  mem := by simp
  obj := fun i h st b hb => by
    obtain ⟨⟨old, he⟩, ⟨o, ho, hc, hd⟩, _⟩ := st
    rcases (show b = e ∨ b = it by simpa using hb) with z | z
    · rw [z]; exact ⟨_, he, fun v q => nomatch q⟩
    · rw [z]; exact ⟨o, ho, fun v q => by rw [hd] at q; cases q⟩
  keep := fun i h h' st k => let ⟨⟨old, he⟩, hi, hne⟩ := st; ⟨⟨old, k e (by simp) _ he⟩, hi.at fun o q => k it (by simp) o q, hne⟩
  item := by
    intro X hP hw hK hc i pins s σ H E I hf st hg
    subst hP hw hK
    obtain ⟨⟨old, he⟩, hit, hne, hea, hai⟩ := st
    obtain ⟨xs, x, hq, hx⟩ := hg
    obtain ⟨its, rv, p, hz⟩ := I.tuple hq
    obtain ⟨u, hu, ru⟩ := rv.get hx
    have hel : e < s.heap.objs.size := Heap.lt_size he
    have hil : it < s.heap.objs.size := by obtain ⟨_, q, _⟩ := hit; exact Heap.lt_size q
    have hi : i < its.toArray.size := by simpa using (List.getElem?_eq_some_iff.mp hu).1
    refine wpAny_pyNext_enum_itemD (Draws.tuple (A := X.A.in1) (I.ok.hd hc) it a hai its.toArray) he ⟨hit, p⟩ hi hne (by simp [hne, hea]) fun v h' tk hv ho hst hT hsz hk => ?_
    obtain rfl : v = u := by
      have q : its.toArray[i]? = some v := hv
      rw [show its.toArray[i]? = some u by simpa using hu] at q
      exact (Option.some.inj q).symm
    refine ⟨_, rfl, wpAny_letOwnedTupleGo_enum (s := { s with heap := h', toks := tk + 1 }) ho fun h'' he' sb => ?_⟩
    have hT2 : h''.get? s.heap.objs.size = some { cls := .type "tuple", data := .seq #[.int i tk, v] } := (sb.2 _ (Nat.ne_of_gt hel)).trans hT
    have new : ObjOk X.prog X.w (upd H s.heap.objs.size (.tup [.int (i : Nat), x])) h'' s.heap.objs.size (.tup [.int (i : Nat), x]) :=
      ⟨by show 2 ≤ sizeLine; decide, [.int i tk, v], .cons ⟨_, rfl⟩ (.cons ru .nil), ⟨_, hT2, rfl, _, rfl⟩⟩
    have I1 : Inv X pins σ (upd H s.heap.objs.size (.tup [.int (i : Nat), x])) { s with heap := h'', toks := tk + 1 } :=
      I.turnedNew (ch := [e, it]) (fun b ob hb q => (sb.2 b (fun z => hb (by simp [z]))).trans (hk b ob (fun z => hb (by simp [z])) (fun z => hb (by simp [z])) q)) hf (Nat.le_refl _) new
    refine ⟨.ref s.heap.objs.size, _, I1, rfl, ⟨_, x, rfl, I.hok.fresh (Nat.le_refl _), rfl, fun ys hy => by rw [I.tuple_inj hy hq]; exact hx⟩, ⟨⟨v, ?_⟩, hst.1.at fun o q => (sb.2 it (Ne.symm hne)).trans q, hne, hea, hai⟩, fun b hb => ?_⟩
    · have e1 : ((i + 1 : Nat) : Int) = (i : Int) + 1 := by omega
      rw [e1]; exact he'
    · have hb' : b < s.heap.objs.size := by
        rcases (show b = e ∨ b = it by simpa using hb) with z | z
        · rw [z]; exact hel
        · rw [z]; exact hil
      rw [upd_ne (Nat.ne_of_lt hb')]
      exact (hf b hb).1
  done := by
    intro X hP hw hK hc i pins s σ H E I hf st hg
    subst hP hw hK
    obtain ⟨⟨old, he⟩, hit, hne, hea, hai⟩ := st
    obtain ⟨xs, hq, hx⟩ := hg
    obtain ⟨its, rv, p, hz⟩ := I.tuple hq
    obtain ⟨f0, f1, f2, f3, f4, f5⟩ := hf it (by simp)
    have hl := rv.length
    exact enumT_end (I.ok.hd hc) he hit p (by simp; omega) fun h' eb => ⟨rfl, I.turned (t' := s.toks) (fun b o hb q => eb b o hb q) f0 f1 f3 f4 f5⟩
  self := fun A i s Q E st h => let ⟨⟨_, he⟩, _⟩ := st; wpAny_pyIter_enum he h
def iEnumA (K : PySem.W.Frag) (ta : TA) : TI := fun σ H R => ta σ H fun vs H1 => ∃ a xs, vs = [.ref a] ∧ ((SqL K H1 a xs ∧ R (Ite K a) H1) ∨ (SqT K H1 a xs ∧ R (IteT K a) H1))
theorem pi_enumA {X : Cx} {e : Expr} {ta : TA} {p pos tpos : Pos} {elts : List Expr} {kk : Nat} (hg : Gl X "enumerate") (hm : X.mg "enumerate" = none) (ha : PA X [e] ta) (hs : starEach [e] X.env = [(false, eval e X.env)] := by rfl) :
    PI X (.Tuple elts kk tpos) (.Call (.Name "enumerate" p) [e] [] pos) (iEnumA X.K ta) := by
  refine ⟨fun pins s σ H R I h => ?_⟩
  refine PyProof.Rows.Call_ (ld_blt I hg hm PyProof.Rows.boot_enumerate (PyProof.Rows.callWith_type1 (thn (ha.run pos pins s σ H _ I h) fun us s1 ⟨vs, H1, I1, r1, q1⟩ => ?_) hs rfl))
  obtain ⟨a, xs, ex, hq⟩ := q1
  subst ex
  rw [Vals.ref1 r1]
  have fp : ∀ b ∈ [s1.heap.objs.size + 1, s1.heap.objs.size], s1.heap.objs.size ≤ b := fun b hb => by
    rcases (show b = s1.heap.objs.size + 1 ∨ b = s1.heap.objs.size by simpa using hb) with z | z
    · rw [z]; exact Nat.le_add_right _ _
    · rw [z]; exact Nat.le_refl _
  rcases hq with ⟨hq, q⟩ | ⟨hq, q⟩
  · obtain ⟨its, rv, p', hz⟩ := I1.list hq
    refine call_enumerate_list p'.isList fun h' he hit hsz hk => wpAny_pyIter_enum he ?_
    exact ⟨s1.heap.objs.size + 1, [s1.heap.objs.size + 1, s1.heap.objs.size], _, _, H1, rfl, I1.kept (t' := s1.toks) hk, turn_enum a (s1.heap.objs.size + 1) s1.heap.objs.size, ⟨⟨.none, he⟩, hit, Nat.succ_ne_self _⟩, fun b hb => I1.fpOk (fp b hb) (I1.hok.fresh (fp b hb)), q⟩
  · obtain ⟨its, rv, p', hz⟩ := I1.tuple hq
    have lt : a < s1.heap.objs.size := by obtain ⟨o, ho, _⟩ := p'; exact Heap.lt_size ho
    refine call_enumT p' fun h' he hit hk => wpAny_pyIter_enum he ?_
    exact ⟨s1.heap.objs.size + 1, [s1.heap.objs.size + 1, s1.heap.objs.size], _, _, H1, rfl, I1.kept (t' := s1.toks) hk, turn_enumT a (s1.heap.objs.size + 1) s1.heap.objs.size,
      ⟨⟨.none, he⟩, hit, Nat.succ_ne_self _, Nat.ne_of_gt (Nat.lt_succ_of_lt lt), Nat.ne_of_lt lt⟩, fun b hb => I1.fpOk (fp b hb) (I1.hok.fresh (fp b hb)), q⟩
/-! ### the rule -/
def enumL : Nat → List D → List D
  | _, [] => []
  | i, d :: ds => .tup [.int i, d] :: enumL (i + 1) ds
theorem enumL_len : ∀ (i : Nat) (ds : List D), (enumL i ds).length = ds.length
  | _, [] => rfl
  | i, _ :: ds => congrArg (· + 1) (enumL_len (i + 1) ds)
theorem enumL_at : ∀ {j : Nat} {ds : List D} {i : Nat} {d : D}, ds[i]? = some d → (enumL j ds)[i]? = some (.tup [.int (j + i : Nat), d])
  | _, [], _, _, h => by simp at h
  | j, x :: ds, 0, d, h => by simp at h; subst h; rfl
  | j, x :: ds, i + 1, d, h => by
    have q := enumL_at (j := j + 1) (ds := ds) (i := i) (d := d) (by simpa using h)
    rw [show j + (i + 1) = j + 1 + i by omega]
    simpa [enumL] using q
def enumD (g : M D) : M (List D) := bnd g fun d => ofO ((itemsOf d).map (enumL 0))
section
variable {F : CF} {K : PySem.W.Frag} {mg : Str → Option Value} {Z : XC} {own : List Stt} {N : List Str} {vis lv : List Bool} {gl : List Str} {k : Nat} {a : Expr} {pos : Pos} {g : M D}
theorem ite_ok {B : Hp} {a : Addr} {us : List V} {ds : List D} (h1 : SqL K B a us) (r1 : Reps K B us ds) (hz : ds.length ≤ sizeLine) : ItOk K B (Ite K a) (enumL 0 ds) where
  sz := by rw [enumL_len]; exact hz
  go := fun i H e hi => by
    rw [enumL_len] at hi
    obtain ⟨v, hv, _⟩ := r1.get (List.getElem?_eq_getElem hi)
    exact ⟨us, v, e.seq h1, hv⟩
  yld := fun i H B1 x H' e e1 hi y => by
    obtain ⟨T, p, rfl, hT, rfl, h⟩ := y
    obtain ⟨d, hd, rd⟩ := r1.getV (h us ((e.trans e1).seq h1))
    have q := enumL_at (j := 0) hd
    rw [Nat.zero_add] at q
    exact ⟨_, _, q, New.alloc e1 hT, .tup (tq upd_same) (.cons (.int _) (.cons (rd.mono (e.trans (New.alloc (K := K) e1 hT).b)) .nil)) (by show 2 ≤ sizeLine; decide)⟩
  stop := fun i H e hi => ⟨us, e.seq h1, by rw [enumL_len] at hi; rw [r1.len]; exact hi⟩
theorem iteT_ok {B : Hp} {a : Addr} {us : List V} {ds : List D} (h1 : SqT K B a us) (r1 : Reps K B us ds) (hz : ds.length ≤ sizeLine) : ItOk K B (IteT K a) (enumL 0 ds) where
  sz := by rw [enumL_len]; exact hz
  go := fun i H e hi => by
    rw [enumL_len] at hi
    obtain ⟨v, hv, _⟩ := r1.get (List.getElem?_eq_getElem hi)
    exact ⟨us, v, seqT e h1, hv⟩
  yld := fun i H B1 x H' e e1 hi y => by
    obtain ⟨T, p, rfl, hT, rfl, h⟩ := y
    obtain ⟨d, hd, rd⟩ := r1.getV (h us (seqT (e.trans e1) h1))
    have q := enumL_at (j := 0) hd
    rw [Nat.zero_add] at q
    exact ⟨_, _, q, New.alloc e1 hT, .tup (tq upd_same) (.cons (.int _) (.cons (rd.mono (e.trans (New.alloc (K := K) e1 hT).b)) .nil)) (by show 2 ≤ sizeLine; decide)⟩
  stop := fun i H e hi => ⟨us, seqT e h1, by rw [enumL_len] at hi; rw [r1.len]; exact hi⟩
theorem it_enum (S : Sx F K mg N vis gl k) (i : Nat) {p tpos : Pos} {elts : List Expr} {kk : Nat} (hm : mg "enumerate" = none) (ha : EX F K Z own a g) (hg : gl[i]? = some ("enumerate" : Str) := by rfl) (hs : ∀ X, F X → starEach [a] X.env = (false, eval a X.env) :: starEach [] X.env := by intro _ _; rfl) :
    IT F K Z own (.Tuple elts kk tpos) (.Call (.Name "enumerate" p) [a] [] pos) (enumD g) := by
  obtain ⟨t, pa, ha⟩ := ha
  refine ⟨iEnumA K (tCons t tNil), fun X hX => atK (S.hK X hX) (fun K => PI X _ _ (iEnumA K (tCons t tNil))) (pi_enumA (S.gl X hX i _ hg).1 (by rw [S.hmg X hX]; exact hm) (pa_cons (pa X hX) pa_nil (hs X hX)) (hs X hX)), fun G ρ σ H B R => ?_⟩
  refine Run.thn (p2 := fun x H1 Q => ∃ a xs, [x] = [.ref a] ∧ ((SqL K H1 a xs ∧ Q (Ite K a) H1) ∨ (SqT K H1 a xs ∧ Q (IteT K a) H1))) (ha G ρ σ H B R) fun d ρ1 v H1 B1 _ e R1 l => ?_
  cases hd : itemsOf d with
  | none => simp only [Option.map_none, ofO]; trivial
  | some ds =>
    obtain ⟨p, vs, rfl, hq, rs, hz⟩ := rep_items l hd
    intro Q q
    refine ⟨p, vs, rfl, ?_⟩
    rcases hq with hq | hq
    · exact .inr ⟨seqT R1.keep.bh hq, q _ _ B1 Ex.rfl R1 (iteT_ok hq rs hz)⟩
    · exact .inl ⟨R1.keep.bh.seq hq, q _ _ B1 Ex.rfl R1 (ite_ok hq rs hz)⟩
end
end MP
namespace MP
open PySem PySem.Spec PyProof.Rows L2
/-! ### a lambda of one parameter, without captured names: its call -/
section
variable {prog : Program} {w : World} {A : Around} {R : Result → Shared → Prop} {s : Shared}
theorem call_lam {a : Addr} {args : Args} {o : Obj} {fd : FuncData} {body : Expr} {q : Str} (hroom : A.depth < recursionLimit) (ho : s.heap.get? a = some o)
    (hd' : o.data = .func fd) (hco : fd.scope.isCoroutine = false) (hgen : fd.scope.isGenerator = false) (hbody : fd.body = .expr body) (hcd : s.heap.CodeRec fd.code q)
    (h : wpAny (model prog w) A.in1 (bindArgs fd args) (fun binds s₁ =>
      wpAny (model prog w) A.in1 (newFunctionEnv fd.scope fd.globals fd.closure binds (q ++ ".<locals>.") (some a) fd.code none fd.builtins)
        (fun env s₂ => s₂.heap.NoLimit ∧ codeAny (model prog w) A (.expr body env) R s₂) (fun e s' => R (.error e) s') s₁) (fun e s' => R (.error e) s') s) :
    codeAny (model prog w) A (.call (.ref a) args) R s := by
  refine codeAny_of_tree ?_
  show wpAny _ A.in1 (callAny (.ref a) args) _ _ s
  simp only [callAny]
  refine wpAny_bind (wpAny_load ho ?_)
  obtain ⟨c, oc, vs, tq, hc, hoc, hdc, hq⟩ := hcd
  simp only [hd', callFunction, hco, hgen, hbody, hc]
  rw [hc] at h
  refine wpAny_bind (m := field (.ref c) 1) (wpAny_field hoc hdc hq (wpAny_bind (wpAny_pure ?_)))
  exact wpAny_bind (wpAny_mono h (fun binds s₁ h₁ => wpAny_bind (wpAny_mono h₁ (fun env s₂ h₂ => wpAny_bind (wpAny_enterFrame h₂.1 hroom
    (wpAny_pure (And.intro rfl h₂.2)))) fun _ _ h' => h')) fun _ _ h' => h')
end
section
variable {CX : CXT} {P : Program} {w : World} {K : PySem.W.Frag} {mg : Str → Option Value} {base : Heap} {k : Nat} {f c : Addr} {qual q : Str} {params : Arguments} {body : Expr} {scope : Scope} {pm ctv : Value} {N ps : List Str}
theorem lam_run {A : Around} {outer : List PySem.Env} {s : Shared} {H : Hp} {args : Args} {us : List Value} {vs : List V} {Q : VK} {E : XK} {t : TE} (S : FnScope N ps scope) (hl : vs.length = ps.length)
    (ho : s.heap.get? f = some (PySem.W.kla_obj "<lambda>" qual params body scope [] pm c ctv)) (hcd : s.heap.CodeRec (.ref c) q) (hr : Room (k + 1) A) (e0 : Env0 P w K mg base A outer s H)
    (hb : BindsTo s (PySem.W.kla_fn "<lambda>" qual params body scope [] pm (.ref c) ctv) args (ps.zip us)) (r : Vals vs us)
    (ht : PE (cxOf CX P w K mg base N q scope f (.ref c) A outer s H E) body t) (hq : t (start N vs) H Q) :
    codeAny (model P w) A (.call (.ref f) args) (CR CX outer P w H s Q E) s := by
  have lim : s.heap.NoLimit := e0.mod.nolimit.keeps fun b o e => (e0.bs b o e).1
  have hkind : ∀ y ∈ ps.zip us, scope.names.lookup y.1 = some .local ∨ (scope.names.lookup y.1 = some .cell ∧ ((cellsFrom (s.heap.objs.size + 1) scope.names []).lookup y.1).isSome = true) := fun ⟨n, v⟩ hy => by
    rcases S.par n (List.of_mem_zip hy).1 with z | z
    · exact .inl z
    · exact .inr ⟨z, PySem.W.cellsFrom_some _ _ _ (.inl z)⟩
  refine call_lam hr.depth ho rfl S.co S.gen rfl hcd (hb _ _ _ _ ?_)
  refine wpAny_newFunctionEnv_cells S.kind hkind fun env he s1 x => ?_
  subst he
  refine ⟨lim.keeps x.toInCall.keep, PySem.W.kla_codeExpr ?_⟩
  have I : L2.Inv (cxOf CX P w K mg base N q scope f (.ref c) A outer s H E) [] (start N vs) H s1 := inv_start S hr.hd e0 hl r x
  exact wpAny_mono (ht.run [] s1 (start N vs) H _ I hq) (fun u s' ⟨v, H', J, rv, q⟩ => ⟨v, H', J.os, J.bare, J.base, J.hok, rv, q⟩) fun e s' hs => hs
end
/-! ### .. and its making -/
section
variable {X : Cx} {pins : List (Addr × Obj)} {σ : L2.St} {H : Hp} {s : Shared}
theorem upd_twice (H : Hp) (a : Addr) (o o' : HO) : upd (upd H a o) a o' = upd H a o' := funext fun b => by
  by_cases z : b = a
  · subst z; rw [upd_same, upd_same]
  · rw [upd_ne z, upd_ne z, upd_ne z]
/-- the heap behind a lambda that is made -/
structure Lmd (T : List Addr) (H H1 : Hp) : Prop where
  h : ExN H H1
  dm : ∀ a o, H a = some o → ∃ o', H1 a = some o'
  tk : TabsK H H1
  th : TabsH T H1
  tp : ∀ (b : Addr) (vs : List V), H1 b = some (.tup vs) → H b = some (.tup vs)
/-- the code object at c bears the name q -/
def CodAt (H : Hp) (c : Addr) (q : Str) : Prop := ∃ (oc : Obj) (vs : Array Value) (t : Tok), H c = some (.frz oc (.own 0)) ∧ oc.data = .fields vs ∧ vs[1]? = some (.str q t)
theorem CodAt.rec {c : Addr} {q : Str} (h : CodAt H c q) (I : L2.Inv X pins σ H s) : s.heap.CodeRec (.ref c) q := by
  obtain ⟨oc, vs, t, a, b, d⟩ := h
  exact ⟨c, oc, vs, t, rfl, (I.hok c _ a).1, b, d⟩
theorem lam_mk {c P : Addr} {params : Arguments} {body : Expr} {scope : Scope} {pos : Pos} {ps : Array Value} {E : Value → Shared → Prop} {Q : Value → Shared → Prop} (I : L2.Inv X pins σ H s) (TB : LamX.TabB X.base X.mg c P) (hcode : X.env.code = .ref c)
    {T : List Addr} (th : TabsH T H) (hT : P ∈ T) (hP : H P = some (.tbl ps)) (hdef : defaultsOf params X.env = ([], [])) (hfree : ∀ y ∈ scope.names, y.2 ≠ .free) (hclo : cloFrom X.env.cells scope.names [] = [])
    (h : ∀ (f c' : Addr) (q : Str) (pm ctv : Value) (H1 : Hp) (s' : Shared), L2.Inv X pins σ H1 s' → Lmd T H H1 →
      s'.heap.get? f = some (PySem.W.kla_obj "<lambda>" (X.env.qual ++ "<lambda>") params body scope [] pm c' ctv) → H1 f = none → f ∉ frs X.stack → CodAt H1 c' q → Q (.ref f) s') :
    wpAny (model X.prog X.w) X.A (eval (.Lambda params body scope pos) X.env) Q E s := by
  obtain ⟨ht, ha⟩ := th P hT ps hP
  refine PySem.W.kla_eval hdef ?_
  have bP : s.heap.BuiltinsAt X.mg P := TB.bm.keeps I.bk
  have hP' : s.heap.get? P = some { cls := .none, data := .fields ps } := I.hok P _ hP
  have nofr : ∀ f, s.heap.objs.size ≤ f → f ∉ frs X.stack := fun f hf z => by
    rcases List.mem_cons.mp (I.stkSub _ z) with e | e
    · have h1 := I.lt
      rw [← e] at h1
      exact Nat.lt_irrefl _ (Nat.lt_of_lt_of_le h1 hf)
    · exact I.nofs hf e
  have hcl : closureFor scope X.env = pure (cloFrom X.env.cells scope.names []) := closure_ok fun y hy e => absurd e (hfree y hy)
  cases hc : codeAmong pos ps.toList with
  | none =>
    refine PySem.W.kla_makeFunction (mg := X.mg) (c := c) (P := P) (ps := ps) hcl I.ok.glob (I.mod.glob.keeps I.bk) hcode (TB.code.keeps I.bk) hP' ht hc TB.gP bP fun c' ctv h' tk hx hge hlt hrec htb => ?_
    obtain ⟨c2, oc, vs, t, e2, hoc, hd, hv⟩ := id hrec
    cases e2
    have hsz : s.heap.objs.size ≤ h'.objs.size := Nat.le_trans hge (Nat.le_of_lt hlt)
    have nC : H c' = none := I.hok.fresh hge
    have I1 := LamX.inv_table (t' := tk) (more := #[rawInt pos.line, rawInt pos.col, .ref c']) (h' := h'.push (PySem.W.kla_obj "<lambda>" (X.env.qual ++ "<lambda>") params body scope (cloFrom X.env.cells scope.names []) ((X.mg "__name__").getD .none) c' ctv)) I hP
      (fun b o hb e => Heap.get?_push_of_some _ (hx b o hb e)) (Heap.get?_push_of_some _ htb) hge ⟨oc, vs, t, Heap.get?_push_of_some _ hoc, hd, hv⟩
    have I2 := I1.write (x := c') (e := c') (o := .frz oc (.own 0)) (t' := tk) (h' := h'.push (PySem.W.kla_obj "<lambda>" (X.env.qual ++ "<lambda>") params body scope (cloFrom X.env.cells scope.names []) ((X.mg "__name__").getD .none) c' ctv)) (by rw [upd_same]; trivial) (.inl rfl) (fun b u _ e => e) ⟨oc, Heap.get?_push_of_some _ hoc⟩
      ⟨Heap.get?_push_of_some _ hoc, oc, Heap.get?_push_of_some _ hoc⟩
    rw [upd_twice] at I2
    rw [hclo] at I2 ⊢
    have nP : P ≠ c' := ne_of_none hP nC
    have eL : (ps ++ #[rawInt pos.line, rawInt pos.col, .ref c']).toList = ps.toList ++ [rawInt pos.line, rawInt pos.col, .ref c'] := by simp
    have hP1 : upd (upd H P (.tbl (ps ++ #[rawInt pos.line, rawInt pos.col, .ref c']))) c' (.frz oc (.own 0)) P = some (.tbl (ps ++ #[rawInt pos.line, rawInt pos.col, .ref c'])) := by rw [upd_ne nP, upd_same]
    have off : ∀ b u, H b = some u → b ≠ P → upd (upd H P (.tbl (ps ++ #[rawInt pos.line, rawInt pos.col, .ref c']))) c' (.frz oc (.own 0)) b = some u := fun b u e hb => by rw [upd_ne (ne_of_none e nC), upd_ne hb]; exact e
    refine h h'.objs.size c' _ _ ctv _ _ I2 ⟨fun b o e n => off b o e fun z => ?_, fun b o e => ?_, fun Q' qs e => ?_, fun Q' hQ qs e => ?_, fun b ws e => by
      by_cases z1 : b = c'
      · rw [z1, upd_same] at e; cases e
      · by_cases z2 : b = P
        · rw [z2, hP1] at e; cases e
        · rw [upd_ne z1, upd_ne z2] at e; exact e⟩ (Heap.get?_push_size _ rfl) ?_ (nofr _ hsz) ⟨oc, vs, t, upd_same, hd, hv⟩
    · rw [z, hP] at e; cases e; cases n
    · by_cases z : b = P
      · rw [z]; exact ⟨_, hP1⟩
      · exact ⟨o, off b o e z⟩
    · by_cases z : Q' = P
      · rw [z]; exact ⟨_, hP1⟩
      · exact ⟨qs, off Q' _ e z⟩
    · by_cases z : Q' = P
      · rw [z, hP1] at e
        cases e
        refine ⟨by rw [eL]; exact PySem.TriplesOk_snoc _ _ _ _ ht, fun p' cv hcv => ?_⟩
        rw [eL] at hcv
        rcases LamX.among_app _ ht hcv with y | y
        · obtain ⟨c0, o0, e1, e2, e3⟩ := ha p' cv y
          exact ⟨c0, o0, e1, off c0 _ e2 (fun z => by rw [z, hP] at e2; cases e2), e3⟩
        · exact ⟨c', oc, y, upd_same, vs, _, t, hd, hv⟩
      · have hne : Q' ≠ c' := fun z2 => by rw [z2, upd_same] at e; cases e
        rw [upd_ne hne, upd_ne z] at e
        obtain ⟨a1, a2⟩ := th Q' hQ qs e
        refine ⟨a1, fun p' cv hcv => ?_⟩
        obtain ⟨c0, o0, e1, e2, e3⟩ := a2 p' cv hcv
        exact ⟨c0, o0, e1, off c0 _ e2 (fun z => by rw [z, hP] at e2; cases e2), e3⟩
    · have n1 : h'.objs.size ≠ c' := Nat.ne_of_gt hlt
      have n2 : h'.objs.size ≠ P := Nat.ne_of_gt (Nat.lt_of_lt_of_le (Heap.lt_size hP') hsz)
      rw [upd_ne n1, upd_ne n2]
      exact I.hok.fresh hsz
  | some cv =>
    obtain ⟨c', oc, e, hco, vs, q, t, hd, hv⟩ := ha pos cv hc
    subst e
    refine PySem.W.kla_makeFunctionHit (mg := X.mg) (c := c) (P := P) (ps := ps) hcl I.ok.glob (I.mod.glob.keeps I.bk) hcode (TB.code.keeps I.bk) hP' ht hc bP fun ctv h' tk hx hsz => ?_
    have hoc : s.heap.get? c' = some oc := (I.hok c' _ hco).1
    have I1 : L2.Inv X pins σ H { s with heap := h'.push (PySem.W.kla_obj "<lambda>" (X.env.qual ++ "<lambda>") params body scope (cloFrom X.env.cells scope.names []) ((X.mg "__name__").getD .none) c' ctv), toks := tk } := I.kept fun b o e => Heap.get?_push_of_some _ (hx b o e)
    rw [hclo] at I1 ⊢
    exact h h'.objs.size c' q ((X.mg "__name__").getD .none) ctv H _ I1 ⟨Ex.rfl.n, fun _ o e => ⟨o, e⟩, TabsK.rfl, th, fun _ _ e => e⟩ (Heap.get?_push_size _ rfl) (I.hok.fresh hsz) (nofr _ hsz) ⟨oc, vs, t, hco, hd, hv⟩
end
end MP
namespace MP
open PySem PySem.Spec PyProof.Rows L2 PySem.W
/-! ### sorting by a key: the calls keep J -/
theorem reads_txt {h h' : Heap} {v : Value} {d : PyData} {as : List Addr} (e : ∃ z, d = .str z) (r : Reads h v d as) : Reads h' v d as := by
  obtain ⟨z, rfl⟩ := e
  cases r
  exact Reads.str _ _
section
variable {prog : Program} {w : World} {A : Around} {E : Value → Shared → Prop} {P : PySem.Fin → Shared → Prop} {s : Shared} {a kS : Addr} {vs : List Value} {kz : List PyData} {b : Bool} {e1 : Nat}
/-- J holds still where the two lists at a and kS alone were written -/
def Stays (J : Shared → Prop) (a kS : Addr) : Prop := ∀ (s : Shared) (h' : Heap) (tk : Nat), J s → (∀ c o, c ≠ a → c ≠ kS → s.heap.get? c = some o → h'.get? c = some o) → (∃ o, h'.get? a = some o) → (∃ o, h'.get? kS = some o) → J { s with heap := h', toks := tk }
/-- .. and at the end Je alone -/
def StaysE (J Je : Shared → Prop) (a kS : Addr) : Prop := ∀ (s : Shared) (h' : Heap) (tk : Nat), J s → (∀ c o, c ≠ a → c ≠ kS → s.heap.get? c = some o → h'.get? c = some o) → Je { s with heap := h', toks := tk }
theorem keyJ_rest {f : Value} {J Je : Shared → Prop} (hJ : Stays J a kS) (hE : StaysE J Je a kS) (j0 : J s) (nk : s.heap.get? kS = some (seqObj "list" #[] 0)) (na : s.heap.get? a = some (seqObj "list" #[] e1)) (hka : kS ≠ a)
    (hlen : kz.length = vs.length) (hZ : vs.length ≤ sizeLine) (hal : AllAlike kz) (hsk : Sortable kz) (hu : ∀ d, d ∈ kz → A.units + d.depth < cLine) (hst : ∀ d, d ∈ kz → ∃ z, d = .str z)
    (turn : ∀ (i : Nat) (v : Value) (k : PyData), vs[i]? = some v → kz[i]? = some k → ∀ s1, J s1 → wpAny (model prog w) A (call f [v])
      (fun u s2 => J s2 ∧ (∀ c o, (c = a ∨ c = kS) → s1.heap.get? c = some o → s2.heap.get? c = some o) ∧ Reads s2.heap u k []) (fun _ _ => False) s1)
    (h : ∀ s' out c, Je s' → s'.heap.get? a = some (seqObj "list" (List.toArray out) c) → KeyedOut b kz vs out → P (.done (.ret .none)) s') :
    wpAny (model prog w) A (ksk_rest a f b vs.toArray e1 (.ref kS)) P E s := by
  unfold ksk_rest
  refine wpAny_bind (wpAny_rule ?_)
  rw [List.forIn_toArray]
  refine wpAny_bind (ksk_fold (fun i s' => J s' ∧ ∃ kA e, s'.heap.get? kS = some (seqObj "list" kA e) ∧ s'.heap.get? a = some (seqObj "list" #[] e1) ∧ EachIs (fun v k => Reads s'.heap v k [] ∧ (alike k k = true ∧ ∃ z, k = .str z)) kA.toList (kz.take i)) vs 0 s
    ⟨j0, #[], 0, nk, na, by rw [List.take_zero]; exact EachIs.nil⟩ ?step ?done)
  case step =>
    rintro j x s' hx ⟨jj, kA, e, nk', na', hk⟩
    simp only [Nat.zero_add] at hk ⊢
    have hj : j < vs.length := (List.getElem?_eq_some_iff.mp hx).1
    obtain ⟨k, hkj⟩ : ∃ k, kz[j]? = some k := ⟨_, List.getElem?_eq_getElem (by omega)⟩
    have hkk : alike k k = true := hal k (List.mem_of_getElem? hkj) k (List.mem_of_getElem? hkj)
    have hz : kA.size ≤ vs.length := by
      have h1 := hk.length
      rw [Array.length_toList, List.length_take] at h1
      omega
    refine wpAny_bind (wpAny_attempt (wpAny_mono (turn j x k hx hkj s' jj) (fun v s2 he => ?_) fun _ _ hF => hF.elim))
    obtain ⟨j2, hg, hr⟩ := he
    obtain ⟨zk, hzk⟩ := hst k (List.mem_of_getElem? hkj)
    try dsimp only
    have nk2 := hg _ _ (.inr rfl) nk'
    have na2 := hg _ _ (.inl rfl) na'
    have s1 := Heap.SameBut.update s2.heap kS (Obj.mapSeq (·.push v))
    obtain ⟨c2, hc2⟩ : ∃ c2, (s2.heap.update kS (Obj.mapSeq (·.push v))).get? kS = some (seqObj "list" (kA.push v) c2) := ⟨_, get?_update_seq nk2 (·.push v)⟩
    have ek : kz.take (j + 1) = kz.take j ++ [k] := by rw [List.take_add_one, hkj]; simp
    have ea : (kA.push v).toList = kA.toList ++ [v] := by simp
    refine wpAny_bind (listUpdate_at nk2 rfl ?_ (Nat.le_trans hz hZ) (Nat.le_trans (Nat.le_of_eq (Array.size_push ..)) (Nat.succ_le_succ (Nat.le_trans hz hZ))))
    have keepS : ∀ (hp : Heap) (u : Value) (d : PyData), Reads hp u d [] ∧ (alike d d = true ∧ ∃ z, d = .str z) → Reads (s2.heap.update kS (Obj.mapSeq (·.push v))) u d [] ∧ (alike d d = true ∧ ∃ z, d = .str z) := fun hp u d q =>
      ⟨reads_txt q.2.2 q.1, q.2⟩
    refine wpAny_pure ⟨rfl, hJ s2 _ s2.toks j2 (fun c o _ n2 q => (s1.2 c n2).trans q) ⟨_, (s1.2 a hka.symm).trans na2⟩ ⟨_, hc2⟩, kA.push v, c2, hc2, (s1.2 a hka.symm).trans na2, ?_⟩
    rw [ea, ek]
    refine each_snoc (R := fun (u : Value) (d : PyData) => Reads (s2.heap.update kS (Obj.mapSeq (·.push v))) u d [] ∧ (alike d d = true ∧ ∃ z, d = .str z)) (keepS _ v k ⟨hr, hkk, zk, hzk⟩) ?_
    exact hk.mono fun u d q => keepS _ u d q
  case done =>
    rintro s' ⟨jj, kA, e, nk', na', hk⟩
    have hk' : EachIs (fun v k => ∃ as, Reads s'.heap v k as) kA.toList kz := by
      have e3 : kz.take (0 + vs.length) = kz := List.take_of_length_le (by omega)
      rw [e3] at hk
      exact hk.mono fun v k q => ⟨[], q.1⟩
    have hsz : kA.size = vs.length := by
      have h1 := hk'.length
      rw [Array.length_toList] at h1
      omega
    try dsimp only
    refine wpAny_bind (listItems_at nk' rfl ?_)
    exact keyH_end (κ := dataKind s'.heap kz) (h₁ := hideAll s'.heap [kS]) (fun c o _ e => of_hideAll _ e) (hideAll_none _ (by simp)) nk' na' hka (SortsAt.data (s := s') hk' hal hsk hu) hsz hZ
      fun h3 tk3 c k3 n3 => h _ _ c (hE s' h3 tk3 jj fun d o n1 n2 q => k3 d o n1 (hideAll_get _ q (by simpa using n2))) n3 ⟨s'.heap, kA.toList, hal, rfl, hk'⟩
/-- a.sort(key=f) -/
theorem keyJ_tree {f : Value} {n : Nat} {J Je : Shared → Prop} (ho : s.heap.get? a = some (seqObj "list" vs.toArray n)) (hJ : Stays J a (s.heap.objs.size + 1)) (hE : StaysE J Je a (s.heap.objs.size + 1)) (j0 : ∀ h', (∀ c o, c ≠ a → s.heap.get? c = some o → h'.get? c = some o) → (∃ o, h'.get? a = some o) → (∃ o, h'.get? (s.heap.objs.size + 1) = some o) → J { s with heap := h' })
    (hlen : kz.length = vs.length) (hZ : vs.length ≤ sizeLine) (hal : AllAlike kz) (hsk : Sortable kz) (hu : ∀ d, d ∈ kz → A.units + d.depth < cLine) (hst : ∀ d, d ∈ kz → ∃ z, d = .str z)
    (turn : ∀ (i : Nat) (v : Value) (k : PyData), vs[i]? = some v → kz[i]? = some k → ∀ s1, J s1 → wpAny (model prog w) A (call f [v])
      (fun u s2 => J s2 ∧ (∀ c o, (c = a ∨ c = s.heap.objs.size + 1) → s1.heap.get? c = some o → s2.heap.get? c = some o) ∧ Reads s2.heap u k []) (fun _ _ => False) s1)
    (h : ∀ s' out c, Je s' → s'.heap.get? a = some (seqObj "list" (List.toArray out) c) → KeyedOut b kz vs out → P (.done (.ret .none)) s') :
    wpAny (model prog w) A (ksk_tree a f b) P E s := by
  have ha : a < s.heap.objs.size := Heap.lt_size ho
  obtain ⟨e1, ho1⟩ : ∃ e1, (s.heap.update a (Obj.mapSeq fun _ => (#[] : Array Value))).get? a = some (seqObj "list" #[] e1) := ⟨_, get?_update_seq ho fun _ => #[]⟩
  have hkS : ((s.heap.update a (Obj.mapSeq fun _ => (#[] : Array Value))).push (seqObj "tuple" vs.toArray 0)).objs.size = s.heap.objs.size + 1 := by rw [size_push', Heap.size_update]
  unfold ksk_tree
  refine wpAny_bind (listItems_at ho rfl ?_)
  refine wpAny_bind (listUpdate_at ho rfl ?_ (by rw [List.size_toArray]; exact hZ) (Nat.zero_le _))
  refine wpAny_bind (seqEpoch_at ho1 rfl ?_)
  refine wpAny_bind (wpAny_newTuple ?_ (by show vs.length ≤ _; exact hZ))
  refine wpAny_bind (wpAny_newList ?_ (Nat.zero_le _))
  refine wpAny_holding ?_
  rw [hkS]
  refine keyJ_rest (s := { s with heap := ((s.heap.update a (Obj.mapSeq fun _ => (#[] : Array Value))).push (seqObj "tuple" vs.toArray 0)).push (seqObj "list" #[] 0) }) hJ hE
    (j0 _ (fun c o hc e => Heap.get?_push_of_some _ (Heap.get?_push_of_some _ ((Heap.get?_update_other _ _ (Ne.symm hc)).trans e))) ⟨_, Heap.get?_push_of_some _ (Heap.get?_push_of_some _ ho1)⟩ ⟨_, by rw [← hkS]; exact Heap.get?_push_size _ rfl⟩) ?_ (Heap.get?_push_of_some _ (Heap.get?_push_of_some _ ho1)) (Nat.ne_of_gt (Nat.lt_succ_of_lt ha)) hlen hZ hal hsk hu hst turn h
  rw [← hkS]
  exact Heap.get?_push_size _ rfl
/-- the items of l are gathered into a new list -/
def Gath (prog : Program) (w : World) (s : Shared) (l : Addr) (vs : List Value) : Prop := ∀ (B : Around) (F : Value → Shared → Prop) (T : List Value → Shared → Prop), T vs { s with heap := (s.heap.push (seqObj "list" #[] 0)).update s.heap.objs.size (Obj.mapSeq (· ++ vs.toArray)) } → wpAny (model prog w) B (collect (.ref l)) T F s
theorem gath_list {l : Addr} (hl : s.heap.IsList l vs.toArray) (hz : vs.length ≤ sizeLine) : Gath prog w s l vs := fun B F T h => collect_list hl h hz
theorem gath_tup {l : Addr} (hl : s.heap.IsTuple l vs.toArray) (hz : vs.length ≤ sizeLine) : Gath prog w s l vs := fun B F T h => by
  obtain ⟨ob, hob, hcl, nn, hdt⟩ := id hl
  have hob2 : (s.heap.push (seqObj "list" #[] 0)).get? l = some ob := Heap.get?_push_of_some _ hob
  unfold collect
  refine wpAny_bind (wpAny_runValue (codeAny_builtin entry_proto_collect' ?_))
  show wpAny _ _ (do
    again (.builtin "list.__iadd__" ⟨[← newList [], .ref l], []⟩)) _ _ s
  refine wpAny_bind (wpAny_newList (wpAny_pure ⟨Code.quiet_builtin _ (by decide +kernel), codeAny_builtin entry_list_iadd' ?_⟩))
  show wpAny _ _ (Builtin.List.listExtendWith (.ref s.heap.objs.size) (.ref l) (.ref s.heap.objs.size)) _ _ { s with heap := (s.heap.push (seqObj "list" #[] 0)) }
  unfold Builtin.List.listExtendWith
  refine wpAny_bind (wpAny_typeOf (T := "tuple") ⟨ob, hob2, hcl⟩ ?_)
  rw [if_pos (by have z : (Value.type "tuple" == Value.type "tuple") = true := rfl; rw [z, Bool.or_true])]
  refine wpAny_bind (listItems_at hob2 hdt ?_)
  refine wpAny_bind (listItems_at (n := 0) (xs := #[]) (Heap.get?_push_size _ rfl) rfl ?_)
  rw [if_neg (by simp)]
  refine wpAny_bind (listUpdate_at (n := 0) (xs := #[]) (Heap.get?_push_size _ rfl) rfl ?_ (Nat.zero_le _) (by show (#[] ++ vs.toArray).size ≤ sizeLine + 1; simp only [Array.size_append, List.size_toArray, List.length_nil]; omega))
  refine wpAny_pure ?_
  show wpAny (model prog w) B (do
      let ox ← load s.heap.objs.size
      match ox.data with
      | .seq ys _ => pure ys.toList
      | _ => unsupported "internal:collect") T F { s with heap := (s.heap.push (seqObj "list" #[] 0)).update s.heap.objs.size (Obj.mapSeq (· ++ vs.toArray)) }
  refine wpAny_bind (wpAny_load (get?_update_seq (Heap.get?_push_size _ rfl) _) ?_)
  show wpAny _ _ (pure ((#[] : Array Value) ++ vs.toArray).toList) T F _
  rw [show ((#[] : Array Value) ++ vs.toArray).toList = vs by simp]
  exact wpAny_pure h
theorem sorted_gath {l : Addr} {kw : List (Str × Value)} {Q : Value → Shared → Prop} (hl : Gath prog w s l vs) (hz : vs.length ≤ sizeLine) (ha1 : argsOk "sorted" ⟨[.ref l], kw⟩) (ha2 : ∀ x, argsOk "list.sort" ⟨[.ref x], kw⟩)
    (bd : ∀ F : Value → Shared → Prop, wpAny (model prog w) A.in1.in1 (Builtin.«list.sort» ⟨[.ref (s.heap.objs.size + 1)], kw⟩) (fun r s' => r = .done (.ret .none) ∧ Q (.ref (s.heap.objs.size + 1)) s') F { s with heap := copyHeap s.heap vs }) :
    wpAny (model prog w) A (call (.builtin "sorted") [.ref l] kw) Q E s := by
  refine call_function_entry_kw kind_sorted plain_sorted entry_sorted ha1 ?_
  unfold Builtin.«sorted»
  refine wpAny_bind (m := checkCount "sorted" 1 1 _) (wpAny_pure ?_)
  refine wpAny_bind (hl _ _ _ ?_)
  refine wpAny_bind (wpAny_newList ?_ hz)
  have size1 : ((s.heap.push (seqObj "list" #[] 0)).update s.heap.objs.size (Obj.mapSeq (· ++ vs.toArray))).objs.size = s.heap.objs.size + 1 := by rw [Heap.size_update, size_push']
  show wpAny _ _ _ _ _ { s with heap := (copyHeap s.heap vs) }
  rw [size1]
  refine wpAny_bind (wpAny_holding (wpAny_call_entry_kw slot_list_sort ⟨_, copyHeap_at s.heap vs, rfl⟩ entry_list_sort ?go (ha2 _)))
  show wpAny (model prog w) A.in1.in1 (Builtin.«list.sort» ⟨[.ref (s.heap.objs.size + 1)], kw⟩) _ _ _
  refine wpAny_mono (bd _) (fun r s' hr => ?_) fun _ _ z => z
  obtain ⟨rfl, q⟩ := hr
  exact ⟨_, rfl, wpAny_pure ⟨_, rfl, q⟩⟩
/-- sorted(xs, key=f) -/
theorem sorted_keyJ {β : Type} {l : Addr} {f : Value} {kw : List (Str × Value)} {J Je : Addr → Shared → Prop} {bs : List β} {R : Value → β → Prop} {Q : Value → Shared → Prop} (k : β → PyData) (hl : Gath prog w s l vs) (e : EachIs R vs bs) (hal : AllAlike (bs.map k)) (hk : Sortable (bs.map k)) (hL : bs.length ≤ sizeLine)
    (hu : ∀ x, x ∈ bs → A.units + 2 + (k x).depth < cLine) (hst : ∀ x, x ∈ bs → ∃ z, k x = .str z) (ha1 : argsOk "sorted" ⟨[.ref l], kw⟩) (ha2 : ∀ x, argsOk "list.sort" ⟨[.ref x], kw⟩) (ht : ∀ x, Builtin.«list.sort» ⟨[.ref x], kw⟩ = ksk_tree x f b)
    (hJ : ∀ kS, s.heap.objs.size ≤ kS → Stays (J kS) (s.heap.objs.size + 1) kS) (hE : ∀ kS, s.heap.objs.size ≤ kS → StaysE (J kS) (Je kS) (s.heap.objs.size + 1) kS) (j0 : ∀ kS h', s.heap.objs.size ≤ kS → (∀ c o, s.heap.get? c = some o → h'.get? c = some o) → (∃ o, h'.get? (s.heap.objs.size + 1) = some o) → (∃ o, h'.get? kS = some o) → J kS { s with heap := h' })
    (turn : ∀ (v : Value) (x : β), R v x → x ∈ bs → ∀ kS s1, s.heap.objs.size ≤ kS → J kS s1 → wpAny (model prog w) A.in1.in1 (call f [v])
      (fun u s2 => J kS s2 ∧ (∀ c o, (c = s.heap.objs.size + 1 ∨ c = kS) → s1.heap.get? c = some o → s2.heap.get? c = some o) ∧ Reads s2.heap u (k x) []) (fun _ _ => False) s1)
    (h : ∀ kS s' out c, s.heap.objs.size ≤ kS → Je kS s' → s'.heap.get? (s.heap.objs.size + 1) = some (seqObj "list" (List.toArray out) c) → out.length = bs.length → EachIs R out (bs.mergeSort (dataLe b k)) → Q (.ref (s.heap.objs.size + 1)) s') :
    wpAny (model prog w) A (call (.builtin "sorted") [.ref l] kw) Q E s := by
  refine sorted_gath hl (by rw [e.length]; exact hL) ha1 ha2 fun E' => ?_
  rw [ht]
  have hsz : s.heap.objs.size ≤ (copyHeap s.heap vs).objs.size + 1 := by
    exact Nat.le_trans (Nat.le_succ _) (Nat.le_trans (Nat.le_of_lt (Heap.lt_size (copyHeap_at s.heap vs))) (Nat.le_succ _))
  refine keyJ_tree (kz := bs.map k) (J := J ((copyHeap s.heap vs).objs.size + 1)) (Je := Je ((copyHeap s.heap vs).objs.size + 1)) (s := { s with heap := copyHeap s.heap vs }) (copyHeap_at s.heap vs) (hJ _ hsz) (hE _ hsz)
    (fun h' q q2 q3 => j0 _ h' hsz (fun c o z => q c o (Nat.ne_of_lt (Nat.lt_succ_of_lt (Heap.lt_size z))) (copyHeap_old z)) q2 q3) (by rw [List.length_map]; exact e.length.symm) (by rw [e.length]; exact hL) hal hk (bound_map (A := A.in1.in1) hu) (fun d hd => by obtain ⟨x, hx, rfl⟩ := List.mem_map.mp hd; exact hst x hx)
    (fun i v d hv hd s1 j1 => ?_) fun s' out c j1 hD ko => ⟨rfl, ?_⟩
  · rw [List.getElem?_map] at hd
    cases q : bs[i]? with
    | none => rw [q] at hd; simp at hd
    | some x =>
      rw [q] at hd
      have hd' : some (k x) = some d := hd
      rw [← Option.some.inj hd']
      have hz : (v, x) ∈ vs.zip bs := List.mem_of_getElem? (i := i) (by rw [List.getElem?_zip_eq_some]; exact ⟨hv, q⟩)
      exact turn v x (e.zip _ hz) (List.mem_of_getElem? q) _ s1 hsz j1
  · exact h _ s' out c hsz j1 hD ((ko.length (by rw [List.length_map]; exact e.length.symm)).trans e.length) (keyedOut_each k ko e)
end
end MP
namespace MP
open PySem PySem.Spec PyProof.Rows L2
section
variable {F : CF} {K : PySem.W.Frag} {mg : Str → Option Value} {Z : XC} {own own' : List Stt} {N : List Str} {vis : List Bool} {gl : List Str} {k : Nat} {a b c : Expr} {g h : M D} {pos : Pos} {lv : List Bool}
/-! ### xs.extend(a new list) -/
def extS (j : Nat) (g : M (List D)) : SM := sbd g fun ds ρ => match look ρ j with
  | .lst rs => if rs.length + ds.length < 16000000 then .nx (ρ.set j (.lst (rs ++ ds))) else .bad
  | _ => .bad
end
/-! ### a, b, c = e1, e2, e3 -/
section
variable {F : CF} {K : PySem.W.Frag} {mg : Str → Option Value} {Z : XC} {own own' : List Stt} {N : List Str} {vis : List Bool} {gl : List Str} {k : Nat} {a b c : Expr} {pos : Pos} {lv : List Bool}
def setPar3 (i j k : Nat) (gs : M (List D)) : SM := sbd gs fun ds ρ => match ds with
  | [x, y, z] => .nx (((ρ.set i x).set j y).set k z)
  | _ => .bad
def setPar3L (i j k : Nat) (g hs : M (List D)) : SM := sbd g fun xs => sbd hs fun ys ρ => match ys with
  | [y, z] => .nx (((ρ.set i (.lst xs)).set j y).set k z)
  | _ => .bad
end
end MP
namespace MP
open PySem PySem.Spec PyProof.Rows L2 PySem.SeqAt PySem.W
/-! ### min(xs), data that are alike -/
mutual
theorem py_inj : ∀ (a b : D), a.plain = true → b.plain = true → a.py = b.py → a = b
  | .non, b, _, h2, h => by cases b <;> simp [D.py, D.plain] at h h2 ⊢
  | .bl x, b, _, h2, h => by cases b <;> simp_all [D.py, D.plain]
  | .int x, b, _, h2, h => by cases b <;> simp_all [D.py, D.plain]
  | .str x, b, _, h2, h => by cases b <;> simp_all [D.py, D.plain]
  | .tup xs, b, h1, h2, h => by
    cases b with
    | tup ys => simp [D.py, D.plain] at h h1 h2; rw [pys_inj xs ys h1 h2 h]
    | _ => simp [D.py, D.plain] at h h2
  | .lst xs, b, h1, h2, h => by
    cases b with
    | lst ys => simp [D.py, D.plain] at h h1 h2; rw [pys_inj xs ys h1 h2 h]
    | _ => simp [D.py, D.plain] at h h2
  | .dct _, _, h1, _, _ => by simp [D.plain] at h1
  | .ins _ _, _, h1, _, _ => by simp [D.plain] at h1
theorem pys_inj : ∀ (a b : List D), plains a = true → plains b = true → pys a = pys b → a = b
  | [], [], _, _, _ => rfl
  | [], _ :: _, _, _, h => by simp [pys] at h
  | _ :: _, [], _, _, h => by simp [pys] at h
  | x :: xs, y :: ys, h1, h2, h => by
    simp [plains, pys] at h1 h2 h
    rw [py_inj x y h1.1 h2.1 h.1, pys_inj xs ys h1.2 h2.2 h.2]
end
def minDD (d : D) (ds : List D) : D := ds.foldl (fun a y => if dataLt y.py a.py then y else a) d
def alikeB (xs : List PyData) : Bool := (xs.all fun x => xs.all fun y => alike x y) && xs.all fun x => match x with
  | .none => false
  | _ => true
theorem alikeB_ok {xs : List PyData} (h : alikeB xs = true) : AlikeAll xs := by
  unfold alikeB at h
  simp only [Bool.and_eq_true, List.all_eq_true] at h
  exact ⟨fun x hx y hy => h.1 x hx y hy, fun x hx z => by have := h.2 x hx; rw [z] at this; cases this⟩
def minO : D → Option D
  | .lst (d :: ds) => if plains (d :: ds) && decide (PyData.depthAll (pys (d :: ds)) ≤ 64) && alikeB (pys (d :: ds)) then some (minDD d ds) else none
  | _ => none
theorem vals_back : ∀ {vs : List V} {us : List Value} {i : Nat} {u : Value}, Vals vs us → us[i]? = some u → ∃ v, vs[i]? = some v ∧ RelV v u
  | _, _, _, _, .nil, e => by simp at e
  | _, _, 0, _, .cons r _, e => by simp at e; subst e; exact ⟨_, rfl, r⟩
  | _, _, i + 1, _, .cons _ t, e => by
    obtain ⟨v, h1, h2⟩ := vals_back (i := i) t (by simpa using e)
    exact ⟨v, by simpa using h1, h2⟩
theorem pys_get : ∀ {ds : List D} {i : Nat} {x : PyData}, (pys ds)[i]? = some x → ∃ d, ds[i]? = some d ∧ d.py = x
  | [], _, _, h => by simp [pys] at h
  | d :: ds, 0, x, h => by simp [pys] at h; exact ⟨d, rfl, h⟩
  | d :: ds, i + 1, x, h => by
    simp [pys] at h
    obtain ⟨e, h1, h2⟩ := pys_get h
    exact ⟨e, by simpa using h1, h2⟩
theorem plains_mem : ∀ {ds : List D} {d : D}, plains ds = true → d ∈ ds → d.plain = true
  | [], _, _, h => by cases h
  | x :: ds, d, h, hm => by
    simp [plains] at h
    rcases List.mem_cons.mp hm with rfl | hm
    · exact h.1
    · exact plains_mem h.2 hm
theorem pys_mem : ∀ {ds : List D} {x : PyData}, x ∈ pys ds → ∃ d ∈ ds, d.py = x
  | [], _, h => by simp [pys] at h
  | d :: ds, x, h => by
    simp [pys] at h
    rcases h with rfl | h
    · exact ⟨d, by simp, rfl⟩
    · obtain ⟨e, h1, h2⟩ := pys_mem h
      exact ⟨e, by simp [h1], h2⟩
section
variable {F : CF} {K : PySem.W.Frag} {mg : Str → Option Value} {Z : XC} {own own' : List Stt} {N : List Str} {vis : List Bool} {gl : List Str} {k : Nat} {a : Expr} {g : M D} {pos : Pos}
def minM (g : M D) : M D := bnd g fun d => ofO (minO d)
end
end MP
namespace MP
open PySem PySem.Spec PyProof.Rows L2 PySem.SeqAt PySem.W
/-! ### max(xs), data that are alike -/
def maxDD (d : D) (ds : List D) : D := ds.foldl (fun a y => if dataLt a.py y.py then y else a) d
theorem maxDD_py : ∀ (d : D) (ds : List D), (maxDD d ds).py = maxD d.py (pys ds)
  | d, [] => rfl
  | d, y :: ds => by
    have e1 : maxDD d (y :: ds) = maxDD (if dataLt d.py y.py then y else d) ds := rfl
    have e2 : maxD d.py (pys (y :: ds)) = maxD (if dataLt d.py y.py then y.py else d.py) (pys ds) := by rw [pys]; rfl
    rw [e1, e2, maxDD_py]
    congr 1
    split <;> rfl
theorem maxDD_plain : ∀ (d : D) (ds : List D), d.plain = true → plains ds = true → (maxDD d ds).plain = true
  | d, [], h, _ => h
  | d, y :: ds, h, h2 => by
    simp [plains] at h2
    have e1 : maxDD d (y :: ds) = maxDD (if dataLt d.py y.py then y else d) ds := rfl
    rw [e1]
    exact maxDD_plain _ ds (by split <;> simp [*]) h2.2
def maxO : D → Option D
  | .lst (d :: ds) => if plains (d :: ds) && decide (PyData.depthAll (pys (d :: ds)) ≤ 64) && alikeB (pys (d :: ds)) then some (maxDD d ds) else none
  | _ => none
def rMax (K : PySem.W.Frag) : List V → Hp → VK → Prop := fun xs H Q => ∃ (a : Addr) (vs : List V) (x : PyData) (ds : List PyData), xs = [.ref a] ∧ SqL K H a vs ∧ DpAll K H vs (x :: ds) ∧ AlikeAll (x :: ds) ∧ (∀ d ∈ x :: ds, d.plain = true) ∧ PyData.depthAll (x :: ds) ≤ 64 ∧
  ∀ (i : Nat) (v : V), vs[i]? = some v → (x :: ds)[i]? = some (maxD x ds) → Q v H
theorem cr_max {X : Cx} (hc : X.calm = true) (hu : X.A.units + 65 < cLine) : CallR X (.builtin "max") (rMax X.K) := by
  intro pins s σ H xs us Q I r h
  obtain ⟨a, vs, x, ds, rfl, hl, hd, al, pl, hdep, q⟩ := h
  rw [Vals.ref1 r]
  obtain ⟨its, rv, li, hz⟩ := I.list hl
  obtain ⟨as, hr⟩ := Dp.readsAll I _ _ _ hd rv
  have hr' : ReadsAll s.heap its.toArray.toList (x :: ds) as := by simpa using hr
  refine max_list_data (I.ok.hd hc) li.isList hr' al (by omega) fun i v h' tk bs hv hm kp => ?_
  have hv' : its[i]? = some v := by simpa using hv
  obtain ⟨v0, e0, r0⟩ := vals_back rv hv'
  obtain ⟨bs2, hr2, hlt, hmem, _⟩ := readsAll_at hr i v hv'
  have e1 : (x :: ds).getD i .none = maxD x ds := plain_unique _ _ v _ _ (pl _ hmem) (reads_keeps kp hr2) hm
  refine ⟨v0, H, I.kept (t' := tk) kp, r0, q i v0 e0 ?_⟩
  rw [List.getD_eq_getElem?_getD, List.getElem?_eq_getElem hlt] at e1
  rw [List.getElem?_eq_getElem hlt]
  exact congrArg some e1
def maxC : List D → Option D
  | [d] => maxO d
  | _ => none
theorem cd_max {K : PySem.W.Frag} : CallD K (rMax K) maxC := fun vs ds H B bh r => by
  match ds, r with
  | [d], .cons rd .nil =>
    show Prim K (RV K) (maxO d) H B _
    cases rd with
    | lst hs rs hz =>
      rename_i a us es
      cases es with
      | nil => trivial
      | cons e es =>
        show Prim K (RV K) (if plains (e :: es) && decide (PyData.depthAll (pys (e :: es)) ≤ 64) && alikeB (pys (e :: es)) then some (maxDD e es) else none) H B _
        split
        · rename_i hc
          simp only [Bool.and_eq_true, decide_eq_true_eq] at hc
          obtain ⟨⟨h1, h2⟩, h3⟩ := hc
          obtain ⟨dp, lay⟩ := rs.dp bh h1
          intro Q q
          refine ⟨a, us, e.py, pys es, rfl, bh.seq hs, by rw [pys] at dp; exact dp, by rw [pys] at h3; exact alikeB_ok h3, fun d hd => ?_, by rw [pys] at h2; exact h2, fun i v hv hm => ?_⟩
          · have : d ∈ pys (e :: es) := by rw [pys]; exact hd
            obtain ⟨d0, hd0, rfl⟩ := pys_mem this
            obtain ⟨i, hi⟩ := List.getElem?_of_mem hd0
            obtain ⟨v0, _, rp⟩ := rs.get hi
            exact PyData.plain_of_canLay0 _ (rp.dp bh (plains_mem h1 hd0)).2
          · have hm' : (pys (e :: es))[i]? = some (maxD e.py (pys es)) := by rw [pys]; exact hm
            obtain ⟨d0, hd0, ed⟩ := pys_get hm'
            obtain ⟨v1, hv1, rp⟩ := rs.get hd0
            rw [hv] at hv1
            cases hv1
            rw [← maxDD_py] at ed
            simp [plains] at h1
            have hp0 : d0.plain = true := plains_mem (ds := e :: es) (by simp [plains, h1]) (List.mem_of_getElem? hd0)
            have := py_inj d0 _ hp0 (maxDD_plain e es h1.1 h1.2) ed
            subst this
            exact q v H B (New.refl bh) rp
        · trivial
    | _ => trivial
  | [], .nil => trivial
  | _ :: _ :: _, .cons _ (.cons _ _) => trivial
section
variable {F : CF} {K : PySem.W.Frag} {mg : Str → Option Value} {Z : XC} {own own' : List Stt} {N : List Str} {vis : List Bool} {gl : List Str} {k : Nat} {a : Expr} {g : M D} {pos : Pos}
theorem ex_max (S : Sx F K mg N vis gl k) (i : Nat) {p : Pos} (hm : mg "max" = none) (ha : EX F K Z own a g) (hg : gl[i]? = some ("max" : Str) := by rfl) (hs : ∀ X, F X → starEach [a] X.env = (false, eval a X.env) :: starEach [] X.env := by intro _ _; rfl) :
    EX F K Z own (.Call (.Name "max" p) [a] [] pos) (callD maxC (consD g nilD)) :=
  ex_callB S i (fun X hX => atK (S.hK X hX) (fun K => CallR X _ (rMax K)) (cr_max (S.calm X hX) (by have := (S.room X hX).un; omega))) cd_max hm (by decide +kernel) (es_cons ha es_nil hs) hg hs
end
end MP
namespace MP
open PySem PySem.Spec PyProof.Rows L2
/-! ### what the head tells: defs, methods, getters of properties, classes with slots -/
/-- a property's getter: the class, the property, its name's place, parameters, body, scope -/
structure PrD where
  c : Str
  m : Str
  name : Str
  qual : Str
  params : Arguments
  body : List Stmt
  scope : Scope
def pOb (K : PySem.W.Frag) (c m : Str) : Addr := He.ma K (He.ga K c) m
def pAd (K : PySem.W.Frag) (c m : Str) : Addr := match PySem.W.recIn K (pOb K c m) "property" with
  | some (.ref f :: _) => f
  | _ => 0
def fnA (K : PySem.W.Frag) (a : Addr) : He.FnW := match K.lookup a with
  | some ⟨_, _, .func r, _⟩ => some (r.name, r.qualname, r.params, r.body, r.scope, r.globals, r.closure, r.builtins)
  | _ => none
def PrD.val (d : PrD) : He.FnW := some (d.name, d.qual, d.params, .stmts d.body, d.scope, mainGlobals, [], builtinsNs)
def cdB (K : PySem.W.Frag) (a : Addr) (q : Str) : Bool := match K.lookup a with
  | some ⟨_, _, .func r, _⟩ => PySem.W.codeIn K r.code q && He.dflB K r.defaults []
  | _ => false
def rcB (K : PySem.W.Frag) (p f : Addr) : Bool := match PySem.W.recIn K p "property" with
  | some (.ref a :: _) => decide (a = f)
  | _ => false
def PrD.ok (K : PySem.W.Frag) (d : PrD) : Bool :=
  PySem.W.keepIn K (.ref (pAd K d.c d.m)) && cdB K (pAd K d.c d.m) d.qual && He.eqO (PySem.W.findIn K (.ref (He.ga K d.c)) d.m) (some (some (.ref (pOb K d.c d.m)))) &&
  He.eqO (PySem.W.specialIn K (.ref (pOb K d.c d.m)) "__get__") (some (some (.builtin "property.__get__"))) && decide (PySem.W.takesIn K (.ref (pOb K d.c d.m)) = some true) && rcB K (pOb K d.c d.m) (pAd K d.c d.m)
/-- what is known of a property -/
structure PrF (K : PySem.W.Frag) (d : PrD) : Prop where
  fn : ∃ fd, FunD K d.name d.qual d.params d.body d.scope [] [] (pAd K d.c d.m) fd
  at_ : PySem.W.findIn K (.ref (He.ga K d.c)) d.m = some (some (.ref (pOb K d.c d.m)))
  get : PySem.W.specialIn K (.ref (pOb K d.c d.m)) "__get__" = some (some (.builtin "property.__get__"))
  tk : PySem.W.takesIn K (.ref (pOb K d.c d.m)) = some true
  rc : ∃ rest, PySem.W.recIn K (pOb K d.c d.m) "property" = some (.ref (pAd K d.c d.m) :: rest)
theorem PrD.funD {K : PySem.W.Frag} {d : PrD} (e : fnA K (pAd K d.c d.m) = d.val) (c : d.ok K = true) : PrF K d := by
  unfold PrD.ok at c
  simp only [Bool.and_eq_true, decide_eq_true_eq] at c
  obtain ⟨⟨⟨⟨⟨c1, c2⟩, c3⟩, c4⟩, c5⟩, c6⟩ := c
  refine ⟨?_, He.eqO_ok c3, He.eqO_ok c4, c5, ?_⟩
  · unfold fnA at e
    unfold cdB at c2
    cases q : K.lookup (pAd K d.c d.m) with
    | none => rw [q] at c2; cases c2
    | some o =>
      obtain ⟨oc, od, dt, sl⟩ := o
      rw [q] at c2 e
      cases dt with
      | func r =>
        obtain ⟨n1, n2, n3, n4, n5, n6, n7, n8, n9, n10, n11, n12, n13, n14, n15⟩ := r
        have e' : (some (n1, n2, n3, n4, n5, n6, n7, n15) : He.FnW) = d.val := e
        unfold PrD.val at e'
        simp only [Option.some.injEq, Prod.mk.injEq] at e'
        obtain ⟨g1, g2, g3, g4, g5, g6, g7, g8⟩ := e'
        subst g1 g2 g3 g4 g5 g6 g7 g8
        have c2' : (PySem.W.codeIn K n13 d.qual && He.dflB K n8 []) = true := c2
        rw [Bool.and_eq_true] at c2'
        exact ⟨_, ⟨oc, od, n8, n9, n10, n11, n12, n13, n14, sl, rfl, q, c2'.1, He.dflB_ok c2'.2, .inl rfl⟩, c1⟩
      | _ => cases c2
  · unfold rcB at c6
    split at c6
    · rename_i a rest h
      have : a = pAd K d.c d.m := of_decide_eq_true c6
      rw [← this]
      exact ⟨rest, h⟩
    · cases c6
/-- a class with slots -/
def slB (K : PySem.W.Frag) (C : Addr) : Nat → List Str → Bool
  | _, [] => true
  | i, f :: r => He.eqO (PySem.W.findIn K (.ref C) f) (some (some (.ref (He.ma K C f)))) && He.eqO (PySem.W.specialIn K (.ref (He.ma K C f)) "__get__") (some (some (.builtin "member_descriptor.__get__"))) &&
    decide (PySem.W.takesIn K (.ref (He.ma K C f)) = some true) && decide (PySem.W.typeIn K (.ref (He.ma K C f)) = some (.type "member_descriptor")) && decide (PySem.W.slotIn K (He.ma K C f) C = some i) && decide (i < 1000) && slB K C (i + 1) r
def clB (K : PySem.W.Frag) (c : Str) (sl : List Str) : Bool := PySem.W.plainGet K (He.ga K c) Str.empty && PySem.W.isClsIn K (He.ga K c) && PySem.W.plainOver K (He.ga K c) &&
  He.eqO (PySem.W.findIn K (.ref (He.ga K c)) "__setattr__") (some (some (.builtin "object.__setattr__"))) && (slB K (He.ga K c) 0 sl && (flds c).isEmpty)
theorem slB_at {K : PySem.W.Frag} {C : Addr} : ∀ {sl : List Str} {j i : Nat} {f : Str}, slB K C j sl = true → sl[i]? = some f → ∃ p, SlX.Slot1 K C f p (j + i)
  | [], _, _, _, _, h => by simp at h
  | g :: r, j, 0, f, h, e => by
    simp at e; subst e
    unfold slB at h
    simp only [Bool.and_eq_true, decide_eq_true_eq] at h
    exact ⟨_, He.eqO_ok h.1.1.1.1.1.1, He.eqO_ok h.1.1.1.1.1.2, h.1.1.1.1.2, h.1.1.1.2, h.1.1.2, h.1.2⟩
  | g :: r, j, i + 1, f, h, e => by
    unfold slB at h
    simp only [Bool.and_eq_true, decide_eq_true_eq] at h
    have := slB_at (i := i) h.2 (by simpa using e)
    rw [show j + (i + 1) = j + 1 + i by omega]
    exact this
theorem clB_ok {K : PySem.W.Frag} {c : Str} {sl : List Str} (h : clB K c sl = true) : Cl K c sl := by
  unfold clB at h
  simp only [Bool.and_eq_true] at h
  refine ⟨⟨h.1.1.1.1, h.1.1.1.2, h.1.1.2, He.eqO_ok h.1.2⟩, fun i f e => ?_, h.2.2⟩
  obtain ⟨p, q⟩ := slB_at h.2.1 e
  exact ⟨p, by rw [Nat.zero_add] at q; exact q⟩
/-- a tuple of texts of the module -/
theorem strsRep {K : PySem.W.Frag} {x : Str} {zs : List Str} (h : He.tupB K x (zs.map He.Dv.str) = true) (hz : (zs.all fun z => PyData.strOk z) = true) (hl : 0 < zs.length ∧ zs.length ≤ 1000) (B : Hp) : Rep K B (.ref (He.ga K x)) (.tup (zs.map D.str)) := by
  have e : (zs.map He.Dv.str).map (He.Dv.v K) = zs.map V.str := by rw [List.map_map]; rfl
  have q := He.tupB_ok h B
  rw [e] at q
  refine .tup ⟨q, fun z => ?_⟩ (.ofStrs zs fun n hn => List.all_eq_true.mp hz n hn) (by rw [List.length_map, sizeLine_eq]; omega)
  cases zs with
  | nil => exact absurd hl.1 (by simp)
  | cons x xs => simp [allI] at z
/-! ### the hook -/
abbrev AlY : Type := He.AlX × List He.FnW
def exY (prs : List PrD) (ex : PySem.W.Frag → Bool) : PySem.W.Frag → Bool := fun K => ex K && prs.all fun d => d.ok K
structure SaysY (fa : List He.Fa) (fn : List He.DefD) (prs : List PrD) (tf : List He.Defn) (ex : PySem.W.Frag → Bool) (w : World) (h : Heap) (K : PySem.W.Frag) : Prop where
  x : He.SaysX fa fn [] tf (exY prs ex) w h K
  p : (prs.map fun d => fnA K (pAd K d.c d.m)) = prs.map PrD.val
section
variable {fa : List He.Fa} {fn : List He.DefD} {prs : List PrD} {tf : List He.Defn} {ex : PySem.W.Frag → Bool} {w : World} {h : Heap} {K : PySem.W.Frag}
theorem SaysY.more (c : SaysY fa fn prs tf ex w h K) : ex K = true := (Bool.and_eq_true_iff.mp c.x.more).1
theorem SaysY.fact (c : SaysY fa fn prs tf ex w h K) (i : Nat) {f : He.Fa} (hf : fa[i]? = some f := by rfl) : f.ok K = true := c.x.t.d.fact i hf
theorem SaysY.def_ (c : SaysY fa fn prs tf ex w h K) (i : Nat) {d : He.DefD} (hf : fn[i]? = some d := by rfl) : ∃ fd, FunD K d.name d.qual d.params d.body d.scope (d.dvs K) (d.kws K) (He.fAd K d.at_) fd := c.x.t.d.def_ i hf
theorem SaysY.prop (c : SaysY fa fn prs tf ex w h K) (i : Nat) {d : PrD} (hf : prs[i]? = some d := by rfl) : PrF K d := by
  have h1 : (prs.map fun d => fnA K (pAd K d.c d.m))[i]? = (prs.map PrD.val)[i]? := by rw [c.p]
  rw [List.getElem?_map, List.getElem?_map, hf] at h1
  have h2 := List.all_eq_true.mp (Bool.and_eq_true_iff.mp c.x.more).2 d (List.mem_of_getElem? hf)
  exact PrD.funD (Option.some.inj h1) h2
end
/-! ### a class called with one value and three keywords -/
section
variable {F : CF} {K : PySem.W.Frag} {mg : Str → Option Value} {Z : XC} {own own1 own' : List Stt} {N : List Str} {vis : List Bool} {gl : List Str} {k : Nat} {a : Expr} {g : M D} {pos : Pos} {P : Program} {w : World} {base : Heap} {ps : List Str} {f : Addr} {fd : FuncData}
def ek3 (g1 g2 g3 : M D) : M (List D) := consD g1 (consD g2 (consD g3 nilD))
end
end MP
namespace MP
open PySem L2
/-! ### __init__ leaves something in the slots -/
def NeI (g : SM) : Prop := ∀ ρ fs, endI (g ρ) = some fs → fs ≠ []
theorem ne_seq {g h : SM} (H : NeI h) : NeI (seqS g h) := by
  intro ρ fs e
  unfold seqS at e
  cases hg : g ρ with
  | nx ρ1 => rw [hg] at e; exact H ρ1 fs e
  | rt d ρ1 => rw [hg] at e; cases e
  | bk ρ1 => rw [hg] at e; cases e
  | ct ρ1 => rw [hg] at e; cases e
  | ex c fs ρ1 => rw [hg] at e; cases e
  | bad => rw [hg] at e; cases e
theorem ne_slot {c : Str} {i : Nat} {g : M D} : NeI (seqS (slotS c i g) nxS) := by
  intro ρ fs e
  unfold seqS slotS sbd at e
  cases hg : g ρ with
  | bad => rw [hg] at e; cases e
  | ex c' fs' ρ1 => rw [hg] at e; cases e
  | ok d ρ1 =>
    rw [hg] at e
    simp only [Res.sb] at e
    cases hl : look ρ1 0 with
    | ins c' gs =>
      rw [hl] at e
      simp only at e
      by_cases hc : c' = c ∧ gs.length = i
      · rw [if_pos hc] at e
        simp only [nxS, endI] at e
        have hρ : 0 < ρ1.length := by
          cases ρ1 with
          | nil => cases hl
          | cons _ _ => simp
        rw [look_set hρ, if_pos rfl] at e
        simp only [Option.some.injEq] at e
        rw [← e]
        simp
      · rw [if_neg hc] at e; cases e
    | _ => rw [hl] at e; cases e
theorem ne_run {c : Str} {n m : Nat} {g : SM} (H : NeI g) {ds fs : List D} (h : runI c n m g ds = some fs) : fs ≠ [] := by
  unfold runI at h
  split at h
  · exact H _ _ h
  · cases h
end MP
namespace MP
open PySem PySem.Spec PyProof.Rows L2 PySem.W
/-! ### sorted(xs, key=lambda v: ..) -/
theorem ExN.sqL {K : PySem.W.Frag} {H H' : Hp} {a : Addr} {xs : List V} (e : ExN H H') (h : SqL K H a xs) : SqL K H' a xs := by
  rcases h with (h | ⟨o, h⟩) | h
  · exact .inl (.inl (e _ _ h rfl))
  · exact .inl (.inr ⟨o, e _ _ h rfl⟩)
  · exact .inr h
theorem ExN.sqT {K : PySem.W.Frag} {H H' : Hp} {a : Addr} {xs : List V} (e : ExN H H') (h : SqT K H a xs) : SqT K H' a xs := by
  rcases h with (h | ⟨o, h⟩) | h
  · exact .inl (.inl (e _ _ h rfl))
  · exact .inl (.inr ⟨o, e _ _ h rfl⟩)
  · exact .inr h
section
variable {X : Cx} {pins : List (Addr × Obj)} {σ : L2.St}
/-- between two key calls: a, kS the sort's own lists, f the lambda -/
structure KJ (X : Cx) (pins : List (Addr × Obj)) (σ : L2.St) (Rh : Hp → Prop) (fo : Obj) (f c : Addr) (q : Str) (a kS : Addr) (s : Shared) (H : Hp) : Prop where
  inv : L2.Inv X pins σ H s
  rh : Rh H
  fa : FpOk X pins H a
  fk : FpOk X pins H kS
  fo : s.heap.get? f = some fo
  fn : H f = none
  ff : f ∉ frs X.stack
  cd : CodAt H c q
  ne : f ≠ a ∧ f ≠ kS
  ea : ∃ o, s.heap.get? a = some o
  ek : ∃ o, s.heap.get? kS = some o
  na : a ∉ frs X.stack ∧ kS ∉ frs X.stack
def KJs (X : Cx) (pins : List (Addr × Obj)) (σ : L2.St) (Rh : Hp → Prop) (fo : Obj) (f c : Addr) (q : Str) (a kS : Addr) (s : Shared) : Prop := ∃ H, KJ X pins σ Rh fo f c q a kS s H
def KE (X : Cx) (pins : List (Addr × Obj)) (σ : L2.St) (Rh : Hp → Prop) (a : Addr) (s : Shared) : Prop := ∃ H, L2.Inv X pins σ H s ∧ Rh H ∧ FpOk X pins H a
theorem KJ.turned {Rh : Hp → Prop} {fo : Obj} {f c : Addr} {q : Str} {a kS : Addr} {s : Shared} {H : Hp} (j : KJ X pins σ Rh fo f c q a kS s H) {h' : Heap} {tk : Nat} (k : ∀ c o, c ≠ a → c ≠ kS → s.heap.get? c = some o → h'.get? c = some o) : L2.Inv X pins σ H { s with heap := h', toks := tk } :=
  j.inv.turnedL (ch := [a, kS]) (fun b o hb e => k b o (fun z => hb (by simp [z])) (fun z => hb (by simp [z])) e) fun b hb => by
    rcases (show b = a ∨ b = kS by simpa using hb) with z | z
    · rw [z]; exact j.fa
    · rw [z]; exact j.fk
theorem KJs.stays {Rh : Hp → Prop} {fo : Obj} {f c : Addr} {q : Str} {a kS : Addr} : Stays (KJs X pins σ Rh fo f c q a kS) a kS := by
  intro s h' tk ⟨H, j⟩ k e1 e2
  exact ⟨H, j.turned k, j.rh, j.fa, j.fk, k f _ j.ne.1 j.ne.2 j.fo, j.fn, j.ff, j.cd, j.ne, e1, e2, j.na⟩
theorem KJs.staysE {Rh : Hp → Prop} {fo : Obj} {f c : Addr} {q : Str} {a kS : Addr} : StaysE (KJs X pins σ Rh fo f c q a kS) (KE X pins σ Rh a) a kS := by
  intro s h' tk ⟨H, j⟩ k
  exact ⟨H, j.turned k, j.rh, j.fa⟩
end
/-- the contexts of a lambda's body -/
def lamF (P : Program) (w : World) (K : PySem.W.Frag) (mg : Str → Option Value) (base : Heap) (N : List Str) (scope : Scope) (k : Nat) : CF := fun X => ∃ qual f, bodyG (fun _ => True) P w K mg base N qual scope f k X
section
variable {P : Program} {w : World} {K : PySem.W.Frag} {mg : Str → Option Value} {base : Heap} {N : List Str} {sc : Scope} {k : Nat} {vis : List Bool} {gl : List Str}
theorem sx_lam (hv : visB sc N vis = true) (hg : glB sc gl = true) : Sx (lamF P w K mg base N sc k) K mg N vis gl k where
  hK := fun X ⟨_, _, h⟩ => (sx_body (gl := gl) hv hg).hK X h
  hmg := fun X ⟨_, _, h⟩ => (sx_body (gl := gl) hv hg).hmg X h
  hN := fun X ⟨_, _, h⟩ => (sx_body (gl := gl) hv hg).hN X h
  vis := fun X ⟨_, _, h⟩ => (sx_body (gl := gl) hv hg).vis X h
  gl := fun X ⟨_, _, h⟩ => (sx_body (gl := gl) hv hg).gl X h
  calm := fun X ⟨_, _, h⟩ => (sx_body (gl := gl) hv hg).calm X h
  room := fun X ⟨_, _, h⟩ => (sx_body (gl := gl) hv hg).room X h
theorem fam_lam : Fam (lamF P w K mg base N sc k) P w base where
  hP := fun X ⟨_, _, h⟩ => fam_body.hP X h
  hw := fun X ⟨_, _, h⟩ => fam_body.hw X h
  hb := fun X ⟨_, _, h⟩ => fam_body.hb X h
end
/-! ### the denotation: the keys are texts -/
def keyH (h : M D) (d : D) : Option Str := match h [d] with
  | .ok (.str z) _ => some z
  | _ => none
def keysH (h : M D) : List D → Option (List Str)
  | [] => some []
  | d :: ds => (keyH h d).bind fun z => (keysH h ds).map (z :: ·)
def sortBy (ds : List D) (ks : List Str) : List D := ((ds.zip ks).mergeSort fun x y => leS x.2 y.2).map (·.1)
def sortLO (h : M D) (d : D) : Option (List D) := (itemsOf d).bind fun ds => if ds.length ≤ 16000000 then (keysH h ds).map (sortBy ds) else none
def sortLM (h g : M D) : M (List D) := bnd g fun d => ofO (sortLO h d)
theorem keysH_len {h : M D} : ∀ {ds : List D} {ks : List Str}, keysH h ds = some ks → ks.length = ds.length
  | [], ks, e => by cases e; rfl
  | d :: ds, ks, e => by
    obtain ⟨z, e1, e2⟩ := Option.bind_eq_some_iff.mp (show (keyH h d).bind (fun z => (keysH h ds).map (z :: ·)) = some ks from e)
    obtain ⟨js, e3, rfl⟩ := Option.map_eq_some_iff.mp e2
    simp [keysH_len e3]
theorem keysH_mem {h : M D} : ∀ {ds : List D} {ks : List Str} {d : D} {z : Str}, keysH h ds = some ks → (d, z) ∈ ds.zip ks → keyH h d = some z
  | [], ks, d, z, _, hm => by simp at hm
  | d0 :: ds, ks, d, z, e, hm => by
    obtain ⟨z0, e1, e2⟩ := Option.bind_eq_some_iff.mp (show (keyH h d0).bind (fun z => (keysH h ds).map (z :: ·)) = some ks from e)
    obtain ⟨js, e3, rfl⟩ := Option.map_eq_some_iff.mp e2
    rw [List.zip_cons_cons] at hm
    rcases List.mem_cons.mp hm with hm | hm
    · cases hm; exact e1
    · exact keysH_mem e3 hm
theorem keyH_ok {h : M D} {d : D} {z : Str} (e : keyH h d = some z) : ∃ ρ, h [d] = .ok (.str z) ρ := by
  unfold keyH at e
  split at e
  · rename_i z' ρ hh; cases e; exact ⟨ρ, hh⟩
  · cases e
theorem dataLe_str {β : Type} (k : β → Str) : dataLe false (fun b => PyData.str (k b)) = fun x y => leS (k x) (k y) := by
  funext x y
  show (!dataLt (.str (k y)) (.str (k x))) = leS (k x) (k y)
  rw [dataLt_str]
  rfl
/-- xs that is walked, its items, what is wanted behind the sort -/
def rSL (K : PySem.W.Frag) (h : M D) : V → Hp → VK → Prop := fun x H1 Q => ∃ (l : Addr) (us : List V) (B : Hp) (ds : List D) (ks : List Str), x = .ref l ∧ (SqL K H1 l us ∨ SqT K H1 l us) ∧ Ex B H1 ∧ TabK K H1 B ∧ Reps K B us ds ∧ ds.length ≤ sizeLine ∧ keysH h ds = some ks ∧
  ∀ us' p H' B', New K B H1 B' H' → H' p = none → Reps K B' us' (sortBy ds ks) → Q (.ref p) (upd H' p (.lst us'))
theorem each_of {K : PySem.W.Frag} {B : Hp} : ∀ {us : List V} {vs : List Value} {ds : List D} {ks : List Str}, Vals us vs → Reps K B us ds → ks.length = ds.length → EachIs (fun (v : Value) (b : D × Str) => ∃ x, RelV x v ∧ Rep K B x b.1) vs (ds.zip ks)
  | _, _, _, [], .nil, .nil, _ => .nil
  | _, _, _, z :: ks, .cons r1 t1, .cons r2 t2, e => .cons ⟨_, r1, r2⟩ (each_of t1 t2 (by simpa using e))
  | _, _, _, [], .cons _ _, .cons _ _, e => by simp at e
  | _, _, _, _ :: _, .nil, .nil, e => by simp at e
theorem vals_of {K : PySem.W.Frag} {B : Hp} : ∀ {vs : List Value} {bs : List (D × Str)}, EachIs (fun (v : Value) (b : D × Str) => ∃ x, RelV x v ∧ Rep K B x b.1) vs bs → ∃ us, Vals us vs ∧ Reps K B us (bs.map (·.1))
  | _, _, .nil => ⟨[], .nil, .nil⟩
  | _, _, .cons ⟨x, r1, r2⟩ t => let ⟨us, h1, h2⟩ := vals_of t; ⟨x :: us, .cons r1 h1, .cons r2 h2⟩
theorem New.lam {K : PySem.W.Frag} {B H H1 : Hp} (e : Ex B H) (t : TabK K H B) (m : Lmd (lamT K) H H1) : New K B H B H1 := by
  refine ⟨Ex.rfl, m.h, m.dm, fun a o q => m.h a o (e a o q) ?_, fun _ _ _ => rfl, m.tk, fun _ => m.th, fun n => ⟨n.nt, fun b vs z => n.tp b vs (m.tp b vs z)⟩⟩
  cases o with
  | tbl ps => exact absurd q (t.nb.nt a ps)
  | _ => rfl
section
variable {P : Program} {w : World} {K : PySem.W.Frag} {mg : Str → Option Value} {base : Heap}
/-- the table of the def that makes the lambda -/
structure LamT (F : CF) (K : PySem.W.Frag) : Prop where
  at_ : ∀ X, F X → ∃ c Pt, LamX.TabB X.base X.mg c Pt ∧ X.env.code = .ref c ∧ Pt ∈ lamT K
theorem room2 {k : Nat} {A : Around} (r : Room (k + 2) A) : Room k A.in1.in1 := (r.in1).in1
theorem sort_lam {X : Cx} {pins : List (Addr × Obj)} {s : Shared} {σ : L2.St} {H2 : Hp} {Q : VK} {f c : Addr} {q : Str} {pm ctv : Value} {params : Arguments} {body : Expr} {scope : Scope} {v : Str} {k' : Nat} {h : M D} {l : Addr} {us : List V} {H1 B : Hp} {ds : List D} {ks : List Str}
    (hb : EX (lamF X.prog X.w X.K X.mg X.base [v] scope k') X.K (Z0 [.U]) [.V] body h) (hfs : FnScope [v] [v] scope) (hc : X.calm = true) (hr : Room (k' + 3) X.A)
    (hbind : ∀ (qual : Str) (pm cv ctv : Value) (s : Shared) (u : Value), BindsTo s (PySem.W.kla_fn "<lambda>" qual params body scope [] pm cv ctv) ⟨[u], []⟩ [(v, u)])
    (I : L2.Inv X pins σ H2 s) (ho : s.heap.get? f = some (PySem.W.kla_obj "<lambda>" (X.env.qual ++ "<lambda>") params body scope [] pm c ctv)) (hn : H2 f = none) (hff : f ∉ frs X.stack) (cd : CodAt H2 c q)
    (n12 : New X.K B H1 B H2) (tb : TabK X.K H1 B) (hs : SqL X.K H2 l us ∨ SqT X.K H2 l us) (rs : Reps X.K B us ds) (hz : ds.length ≤ sizeLine) (hk : keysH h ds = some ks)
    (hq : ∀ us' p H' B', New X.K B H1 B' H' → H' p = none → Reps X.K B' us' (sortBy ds ks) → Q (.ref p) (upd H' p (.lst us'))) :
    wpAny (model X.prog X.w) X.A (call (.builtin "sorted") [.ref l] [(Str.ofString "key", .ref f)]) (EP X pins σ Q) X.xe s := by
  obtain ⟨t, pt, hbd⟩ := hb
  have fnew : f < s.heap.objs.size := Heap.lt_size ho
  have kl := keysH_len hk
  have gth : ∃ vs, Vals us vs ∧ Gath X.prog X.w s l vs := by
    rcases hs with hs | hs
    · obtain ⟨its, rv, pl, hz2⟩ := I.list hs
      exact ⟨its, rv, gath_list pl.isList (by rw [← rv.length]; exact hz2)⟩
    · obtain ⟨its, rv, pl, hz2⟩ := I.tuple hs
      exact ⟨its, rv, gath_tup pl (by rw [← rv.length]; exact hz2)⟩
  obtain ⟨vs, rv, gth⟩ := gth
  have nofr : ∀ b, s.heap.objs.size ≤ b → b ∉ frs X.stack := fun b hb z => by
    rcases List.mem_cons.mp (I.stkSub _ z) with e | e
    · have h1 := I.lt
      rw [← e] at h1
      exact Nat.lt_irrefl _ (Nat.lt_of_lt_of_le h1 hb)
    · exact I.nofs hb e
  have hfr : ∀ b, s.heap.objs.size ≤ b → H2 b = none := fun b hb => I.hok.fresh hb
  refine sorted_keyJ (k := fun (b : D × Str) => PyData.str b.2) (b := false) (bs := ds.zip ks) (f := .ref f) (R := fun v b => ∃ x, RelV x v ∧ Rep X.K B x b.1)
    (J := fun kS => KJs X pins σ (fun H => ∃ B', New X.K B H1 B' H) (PySem.W.kla_obj "<lambda>" (X.env.qual ++ "<lambda>") params body scope [] pm c ctv) f c q (s.heap.objs.size + 1) kS) (Je := fun _ => KE X pins σ (fun H => ∃ B', New X.K B H1 B' H) (s.heap.objs.size + 1)) gth (each_of rv rs kl)
    (fun d hd d' hd' => ?al) (.inr fun d hd => ?so) (by rw [List.length_zip, kl, Nat.min_self]; exact hz) (fun x _ => ?un) (fun x _ => ⟨x.2, rfl⟩) ?a1 ?a2 ?tr
    (fun kS _ => KJs.stays) (fun kS _ => KJs.staysE) (fun kS h' hkS kp e1 e2 => ?j0) ?turn ?fin
  case al =>
    obtain ⟨x, _, rfl⟩ := List.mem_map.mp hd
    obtain ⟨y, _, rfl⟩ := List.mem_map.mp hd'
    simp [alike]
  case so =>
    obtain ⟨x, _, rfl⟩ := List.mem_map.mp hd
    exact ⟨fun z => (nomatch z), fun xs z => (nomatch z)⟩
  case un => have := hr.un; simp [PyData.depth]; omega
  case a1 => exact ksk_s1 _ _
  case a2 => exact fun _ => ksk_l1 _ _
  case tr => exact fun x => ksk_t1 f x
  case j0 =>
    exact ⟨H2, I.kept (t' := s.toks) kp, ⟨B, n12⟩, I.fpOk (Nat.le_succ _) (hfr _ (Nat.le_succ _)), I.fpOk hkS (hfr _ hkS), kp f _ ho, hn, hff, cd, ⟨Nat.ne_of_lt (Nat.lt_succ_of_lt fnew), Nat.ne_of_lt (Nat.lt_of_lt_of_le fnew hkS)⟩, e1, e2, nofr _ (Nat.le_succ _), nofr _ hkS⟩
  case turn =>
    rintro u ⟨d, z⟩ ⟨x, rx, rp⟩ hm kS s1 hkS ⟨H3, j⟩
    obtain ⟨B3, n3⟩ := j.rh
    obtain ⟨ρ, hh⟩ := keyH_ok (keysH_mem hk hm)
    have rp3 : Rep X.K B3 x d := rp.mono n3.b
    have tb3 : TabK X.K H3 B3 := tb.new n3
    have run := lam_run (CX := CX0) (P := X.prog) (w := X.w) (K := X.K) (mg := X.mg) (base := X.base) (k := k') (A := X.A.in1.in1) (outer := X.stack) (s := s1) (H := H3) (args := ⟨[u], []⟩) (us := [u]) (vs := [x]) (Q := fun y H4 => y = .str z ∧ ∃ B4, New X.K B3 H3 B4 H4) (E := E0) (t := t) hfs rfl j.fo (j.cd.rec j.inv) (room2 hr) j.inv.env0.in1.in1 (hbind _ _ _ _ _ _) (.cons rx .nil)
      (PE.nox (pt _ ⟨q, f, .ref c, _, _, _, _, _, ⟨(room2 hr).deeper _, trivial⟩, rfl⟩)) (by
        have rel := rel_startV (K := X.K) (N := [v]) n3.bh tb3 (.one rp3) (by simp) rfl
        have go := hbd _ _ _ H3 B3 rel
        have e0 : startD [v].length [d] = [d] := rfl
        rw [e0, hh] at go
        refine go _ fun y H4 B4 e4 R4 r4 => ⟨?_, B4, ⟨e4, fun a o q n => R4.keep.fr a o q (by simp) n, R4.keep.dom, R4.keep.bh, fun a o q => R4.keep.old a o q, R4.keep.tk, fun _ => R4.keep.tab.th, fun _ => R4.keep.tab.nb⟩⟩
        cases r4
        rfl)
    refine wpAny_call (codeAny_mono run fun r s3 hr3 => ?_)
    cases r with
    | error e => exact False.elim hr3
    | ok fl =>
      cases fl with
      | ret y =>
        obtain ⟨v0, H4, os, bare, un, hok, rv0, rfl, B4, n4⟩ := hr3
        obtain ⟨t0, rfl⟩ := rv0
        have kpt : ∀ b o, s1.heap.get? b = some o → H3 b = none → b ∉ frs X.stack → s3.heap.get? b = some o ∧ H4 b = none := fun b o e1 e2 e3 => ⟨un.keep b o e1 e2 e3 (by simp), un.free b o e1 e2 (by simp)⟩
        obtain ⟨oa, ea⟩ := j.ea
        obtain ⟨ok, ek⟩ := j.ek
        have ka := kpt _ oa ea j.fa.1 j.na.1
        have kk := kpt _ ok ek j.fk.1 j.na.2
        have kf := kpt _ _ j.fo j.fn j.ff
        have I4 : L2.Inv X pins σ H4 s3 := j.inv.call' os un hok bare fun b hb => absurd hb (by simp)
        refine ⟨⟨H4, I4, ⟨B4, n3.trans n4⟩, ⟨ka.2, j.fa.2⟩, ⟨kk.2, j.fk.2⟩, kf.1, kf.2, j.ff, ?_, j.ne, ⟨_, ka.1⟩, ⟨_, kk.1⟩, j.na⟩, fun b o hb e => ?_, Reads.str _ _⟩
        · obtain ⟨oc, vs0, tq, h1, h2, h3⟩ := j.cd
          exact ⟨oc, vs0, tq, n4.h _ _ h1 rfl, h2, h3⟩
        · rcases hb with rfl | rfl
          · exact (kpt _ o e j.fa.1 j.na.1).1
          · exact (kpt _ o e j.fk.1 j.na.2).1
      | next => exact False.elim hr3
      | brk => exact False.elim hr3
      | cont => exact False.elim hr3
  case fin =>
    rintro kS s' out cc hkS ⟨H3, I3, ⟨B3, n3⟩, fp⟩ ho' hlen each
    rw [dataLe_str] at each
    obtain ⟨us', rv', rs'⟩ := vals_of each
    have hl : us'.length ≤ sizeLine := by rw [rv'.length, hlen, List.length_zip, kl, Nat.min_self]; exact hz
    refine ⟨.ref (s.heap.objs.size + 1), upd H3 (s.heap.objs.size + 1) (.lst us'), ?_, rfl, hq us' _ H3 B3 n3 fp.1 (rs'.mono n3.b)⟩
    exact I3.take (t' := s'.toks) (h' := s'.heap) (o := .lst us') (fun b ob _ e => e) fp ⟨hl, out, cc, rv', ho'⟩
theorem clo_nil (cells : List (Str × Addr)) : ∀ names : List (Str × NameKind), (∀ y ∈ names, y.2 ≠ .free) → cloFrom cells names [] = []
  | [], _ => rfl
  | (x, kd) :: r, h => by
    have h1 : kd ≠ .free := h (x, kd) (by simp)
    have := clo_nil cells r fun y hy => h y (by simp [hy])
    unfold cloFrom
    cases kd <;> first | exact absurd rfl h1 | simpa using this
section
variable {F : CF} {Z : XC} {own : List Stt} {N : List Str} {vis : List Bool} {gl : List Str} {k : Nat} {a : Expr} {g : M D} {pos : Pos}
theorem el_sortLam (S : Sx F K mg N vis gl k) (Fm : Fam F P w base) (LT : LamT F K) (i : Nat) {p kpos lpos : Pos} {params : Arguments} {body : Expr} {scope : Scope} {v : Str} {k' : Nat} {h : M D} (hm : mg "sorted" = none) (ha : EX F K Z own a g)
    (hb : EX (lamF P w K mg base [v] scope k') K (Z0 [.U]) [.V] body h) (hfs : FnScope [v] [v] scope) (hbind : ∀ (qual : Str) (pm cv ctv : Value) (s : Shared) (u : Value), BindsTo s (PySem.W.kla_fn "<lambda>" qual params body scope [] pm cv ctv) ⟨[u], []⟩ [(v, u)])
    (hk : k' + 3 ≤ k := by decide) (hg : gl[i]? = some ("sorted" : Str) := by rfl) (hdef : ∀ X, F X → defaultsOf params X.env = ([], []) := by intro _ _; rfl) (hfree : ∀ y ∈ scope.names, y.2 ≠ .free := by decide +kernel)
    (hs : ∀ X, F X → starEach [a] X.env = (false, eval a X.env) :: starEach [] X.env := by intro _ _; rfl)
    (he : ∀ X, F X → backTo pos (starEach [a] X.env) = (false, eval a X.env) :: backTo pos (starEach [] X.env) := by intro _ _; rfl) (hpl : ∀ X, F X → (backTo pos (starEach [a] X.env)).any (·.1) = false := by intro _ _; rfl)
    (hkw : ∀ X, F X → backToKw pos (keywordEach [⟨some "key", .Lambda params body scope lpos, kpos⟩] X.env) = [(some ("key" : Str), do let r ← eval (.Lambda params body scope lpos) X.env; standAt pos; pure r)] := by intro _ _; rfl) :
    EL F K Z own (.Call (.Name "sorted" p) [a] [⟨some "key", .Lambda params body scope lpos, kpos⟩] pos) (sortLM h g) := by
  obtain ⟨ta, pa, ha⟩ := ha
  refine ⟨fun σ H Q => tCons ta tNil σ H fun xs H1 => ∃ x, xs = [x] ∧ rSL K h x H1 Q, fun X hX => ?_, fun G ρ σ H B R => ?_⟩
  · obtain ⟨c, Pt, TB, hcode, hmem⟩ := LT.at_ X hX
    obtain ⟨g1, g2, g3⟩ := S.gl X hX i _ hg
    have hc := S.calm X hX
    have hr := (S.room X hX).mono hk
    have em := S.hmg X hX
    have eK := S.hK X hX
    have eP := Fm.hP X hX
    have ew := Fm.hw X hX
    have eb := Fm.hb X hX
    have ap := pa X hX
    have h1 := hdef X hX
    have h2 := hs X hX
    have h3 := he X hX
    have h4 := hpl X hX
    have h5 := hkw X hX
    clear S Fm LT ha pa hdef hs he hpl hkw
    subst eP ew eb em eK
    refine ⟨fun pins s σ H Q I hq => ?_⟩
    refine wpAny_Call_Name_kw (ld_blt I g1 hm boot_sorted ?_ (by decide) (by decide))
    refine PyProof.Rows.callWith_kw (thn ((pa_cons ap pa_nil h2).run pos pins s σ H _ I hq) fun us s1 ⟨vs, H1, I1, r1, q1⟩ => ?_) h3 h4 (by rw [h5]; rfl) (by rw [h5]; rfl)
    obtain ⟨x, rfl, l, us0, B, ds, ks, rfl, hsq, bh, tb, rs, hz, hks, q⟩ := q1
    rw [Vals.ref1 r1, h5]
    obtain ⟨ps, hP⟩ := tb.on Pt hmem
    show wpAny _ _ (evalAll [do let r ← eval (.Lambda params body scope lpos) X.env; standAt pos; pure r]) _ _ s1
    refine wpAny_evalAll_cons (wpAny_bind (lam_mk I1 TB hcode tb.th hmem hP h1 hfree (clo_nil _ _ hfree) fun f c' qn pm ctv H2 s2 I2 lmd hf hnf hff cda => wpAny_bind (wpAny_standAt (wpAny_pure (wpAny_evalAll_nil ?_)))))
    have n12 := New.lam bh tb lmd
    exact sort_lam hb hfs hc hr hbind I2 hf hnf hff cda n12 tb (hsq.elim (fun z => .inl (lmd.h.sqL z)) fun z => .inr (lmd.h.sqT z)) rs hz hks q
  · refine Run.thn (p2 := fun x H1 Q => ∃ y, [x] = [y] ∧ rSL K h y H1 Q) (ha G ρ σ H B R) (fun d ρ1 x H1 B1 _ e R1 rp => ?_) fun Q q => q
    · cases hd : sortLO h d with
      | none => simp only [hd, ofO]; trivial
      | some out =>
        obtain ⟨ds, e1, e2⟩ := Option.bind_eq_some_iff.mp (show (itemsOf d).bind _ = some out from hd)
        split at e2
        · obtain ⟨ks, e3, rfl⟩ := Option.map_eq_some_iff.mp e2
          obtain ⟨l, us, rfl, hsq, rs, hz⟩ := rep_items rp e1
          have kl := keysH_len e3
          intro Q q
          refine ⟨_, rfl, l, us, B1, ds, ks, rfl, ?_, R1.keep.bh, R1.keep.tab, rs, hz, e3, fun us' pp H' B' n hpn rs' => ?_⟩
          · exact hsq.elim (fun z => .inr (seqT R1.keep.bh z)) fun z => .inl (R1.keep.bh.seq z)
          · have R2 := R1.new n
            have hzl : (sortBy ds ks).length ≤ sizeLine := by unfold sortBy; rw [List.length_map, List.length_mergeSort, List.length_zip, kl, Nat.min_self]; exact hz
            obtain ⟨R3, f3⟩ := R2.fresh hpn rs' hzl
            exact q _ _ B' n.b R3 f3
        · cases e2
end
end
end MP
namespace MP
open PySem PySem.Spec PyProof.Rows L2
/-! ### the end of a law with lambdas -/
section
variable {P : Program} {w : World} {K : PySem.W.Frag} {mg : Str → Option Value} {base : Heap} {N : List Str} {qual : Str} {sc : Scope} {k : Nat}
/-- the tables of the defs that make lambdas, in base -/
def TbB (K : PySem.W.Frag) (mg : Str → Option Value) (base : Heap) (tf : List He.Defn) : Prop := ∀ p ∈ tf, p ∈ LAMS ∧ lamOn K p = true ∧ LamX.TabB base mg (He.cT K p).1 (He.cT K p).2
theorem lamT_body {tf : List He.Defn} (T : TbB K mg base tf) {p : He.Defn} (hp : p ∈ tf) : LamT (bodyF P w K mg base N qual sc (He.fAd K p) k) K where
  at_ := by
    rintro X ⟨cdv, A, outer, s, H, E, ⟨_, oc, od, fd, osl, lk, hc, c, e⟩, rfl⟩
    obtain ⟨h1, h2, h3⟩ := T p hp
    have hco : He.codeOf K p = c := He.codeOf_eq lk (hc.trans e)
    refine ⟨(He.cT K p).1, (He.cT K p).2, h3, ?_, ?_⟩
    · show cdv = _
      rw [e, ← hco]
      rfl
    · unfold lamT
      exact List.mem_map.mpr ⟨p, List.mem_filter.mpr ⟨h1, h2⟩, rfl⟩
end
section
variable {P : Program} {w : World} {K : PySem.W.Frag} {mg : Str → Option Value} {base : Heap} {F : CF} {Z : XC} {own : List Stt} {N : List Str} {vis : List Bool} {gl : List Str} {k : Nat} {a : Expr} {g : M D} {pos : Pos}
/-- sorted(a, key=lambda v: body), as the generator prints it -/
theorem el_sortLamB (v : Str) (k' : Nat) (gl1 : List Str) (i : Nat) (S : Sx F K mg N vis gl k) (Fm : Fam F P w base) (LT : LamT F K) {p kpos lpos : Pos} {params : Arguments} {body : Expr} {scope : Scope} {h : M D} (hm : mg "sorted" = none) (ha : EX F K Z own a g)
    (hb : Sx (lamF P w K mg base [v] scope k') K mg [v] [true] gl1 k' → Fam (lamF P w K mg base [v] scope k') P w base → EX (lamF P w K mg base [v] scope k') K (Z0 [.U]) [.V] body h)
    (hv : visB scope [v] [true] = true := by decide +kernel) (hg1 : glB scope gl1 = true := by decide +kernel) (hfs : FnScope [v] [v] scope := by exact ⟨rfl, rfl, rfl, by decide +kernel, rfl, by decide +kernel, by decide +kernel⟩)
    (hbind : ∀ (qual : Str) (pm cv ctv : Value) (s : Shared) (u : Value), BindsTo s (PySem.W.kla_fn "<lambda>" qual params body scope [] pm cv ctv) ⟨[u], []⟩ [(v, u)] := by intros; exact .of_eq rfl)
    (hk : k' + 3 ≤ k := by decide) (hg : gl[i]? = some ("sorted" : Str) := by rfl) (hdef : ∀ X, F X → defaultsOf params X.env = ([], []) := by intro _ _; rfl) (hfree : ∀ y ∈ scope.names, y.2 ≠ .free := by decide +kernel)
    (hs : ∀ X, F X → starEach [a] X.env = (false, eval a X.env) :: starEach [] X.env := by intro _ _; rfl)
    (he : ∀ X, F X → backTo pos (starEach [a] X.env) = (false, eval a X.env) :: backTo pos (starEach [] X.env) := by intro _ _; rfl) (hpl : ∀ X, F X → (backTo pos (starEach [a] X.env)).any (·.1) = false := by intro _ _; rfl)
    (hkw : ∀ X, F X → backToKw pos (keywordEach [⟨some "key", .Lambda params body scope lpos, kpos⟩] X.env) = [(some ("key" : Str), do let r ← eval (.Lambda params body scope lpos) X.env; standAt pos; pure r)] := by intro _ _; rfl) :
    EL F K Z own (.Call (.Name "sorted" p) [a] [⟨some "key", .Lambda params body scope lpos, kpos⟩] pos) (sortLM h g) :=
  el_sortLam S Fm LT i hm ha (hb (sx_lam hv hg1) fam_lam) hfs hbind hk hg hdef hfree hs he hpl hkw
end
/-- the defs that make lambdas are those of tf -/
def tfB (tf : List He.Defn) (K : PySem.W.Frag) : Bool := LAMS.all fun p => !lamOn K p || tf.contains p
def noT (H : Hp) : Hp := fun a => match H a with
  | some (.tbl _) => none
  | o => o
theorem noT_ex (H : Hp) : Ex (noT H) H := fun a o e => by
  unfold noT at e
  split at e
  · cases e
  · exact e
theorem noT_nb (H : Hp) (a : Addr) (ps : Array Value) : noT H a ≠ some (.tbl ps) := fun e => by
  unfold noT at e
  split at e
  · cases e
  · rename_i h
    exact h _ e
theorem noT_at {H : Hp} {a : Addr} {o : HO} (e : H a = some o) (n : isTb o = false) : noT H a = some o := by
  unfold noT
  rw [e]
  cases o <;> first | rfl | cases n
theorem tabK1 {tf : List He.Defn} {K : PySem.W.Frag} {H : Hp} (h : tfB tf K = true) (hT : ∀ p ∈ tf.map (He.cT K), H p.2 = some (.tbl #[])) : TabK K H (noT H) := by
  have key : ∀ P ∈ lamT K, H P = some (.tbl #[]) := fun P hP => by
    unfold lamT at hP
    obtain ⟨p, hp, rfl⟩ := List.mem_map.mp hP
    obtain ⟨h1, h2⟩ := List.mem_filter.mp hp
    have := List.all_eq_true.mp h p h1
    rw [h2] at this
    have hm : p ∈ tf := by simpa using this
    exact hT _ (List.mem_map.mpr ⟨p, hm, rfl⟩)
  refine ⟨fun P hP ps e => ?_, fun P hP => ⟨_, key P hP⟩, ⟨noT_nb H, fun b vs z => by unfold noT; rw [z]⟩⟩
  rw [key P hP] at e
  cases e
  exact ⟨by simp [TriplesOk], fun pos cv hc => by simp [codeAmong] at hc⟩
/-- the law's own promise, where it answers True -/
theorem law_spT {K : PySem.W.Frag} {H : Hp} {a : Addr} {ns : List Int} {F : FV} {tf : List He.Defn} (hn : tfB tf K = true) (hT : ∀ p ∈ tf.map (He.cT K), H p.2 = some (.tbl #[])) (hS : SqL K H a (ns.map V.int)) (hl : ns.length ≤ 63) (hF : F [.lst (ns.map D.int)] = some (.bl true)) : spV K 1 F [.ref a] H (fun v _ => v = .bl true) fun _ _ _ => False := by
  have hS' : SqL K (noT H) a (ns.map V.int) := by
    rcases hS with (h | ⟨o, h⟩) | h
    · exact .inl (.inl (noT_at h rfl))
    · exact .inl (.inr ⟨o, noT_at h rfl⟩)
    · exact .inr h
  refine ⟨noT H, [.lst (ns.map D.int)], .bl true, rfl, ⟨noT_ex H, tabK1 hn hT⟩, .one (.lst hS' (.ofInts ns) (by rw [List.length_map, sizeLine_eq]; omega)), hF, fun v H' B' _ r => ?_⟩
  cases r
  rfl
end MP
namespace MP
open PySem PySem.Spec PyProof.Rows L2 PySem.SeqAt PySem.W
open AutoSeq1 (wpAny_loadPart')
open MeetsSeq MeetsSeq2 MeetsSeq3 SeqRoads2
/-! ### == by an own __eq__, both answers -/
/-- == of two values, inside a builtin; as a rich comparison -/
def EqD (X : Cx) (n : Nat) (f : D → D → Option Bool) : Prop := ∀ (A : Around) (pins : List (Addr × Obj)) (s : Shared) (σ : L2.St) (H B : Hp) (x y : V) (d e : D) (b : Bool) (u v : Value), Sub X n A → L2.Inv X pins σ H s → Ex B H → TabK X.K H B → RelV x u → RelV y v → Rep X.K B x d → Rep X.K B y e → f d e = some b →
  wpAny (model X.prog X.w) A (eqBool u v) (fun r s' => r = b ∧ ∃ H' B', L2.Inv X pins σ H' s' ∧ New X.K B H B' H') X.xe s
end MP
namespace MP
open PySem PySem.Spec PyProof.Rows L2 PySem.SeqAt PySem.W
/-! ### isinstance(x, C), x of the class C itself -/
end MP
namespace MP
open PySem PySem.Spec PyProof.Rows L2 PySem.SeqAt PySem.W
/-! ### sorted(xs), xs a list of data that are alike -/
def allB (xs : List PyData) : Bool := xs.all fun x => xs.all fun y => alike x y
theorem allB_ok {xs : List PyData} (h : allB xs = true) : AllAlike xs := fun x hx y hy => List.all_eq_true.mp (List.all_eq_true.mp h x hx) y hy
def tup1 : PyData → Bool
  | .tuple (_ :: _) => true
  | _ => false
def noTup : PyData → Bool
  | .none => false
  | .tuple _ => false
  | _ => true
def srtB (xs : List PyData) : Bool := xs.all tup1 || xs.all noTup
theorem srtB_ok {xs : List PyData} (h : srtB xs = true) : Sortable xs := by
  unfold srtB at h
  rcases Bool.or_eq_true_iff.mp h with h | h
  · refine .inl fun d hd => ?_
    have := List.all_eq_true.mp h d hd
    cases d with
    | tuple ys => cases ys with
      | nil => cases this
      | cons y ys => exact ⟨y, ys, rfl⟩
    | _ => cases this
  · refine .inr fun d hd => ⟨fun z => ?_, fun ys z => ?_⟩ <;> · have := List.all_eq_true.mp h d hd; rw [z] at this; cases this
def sortO : D → Option (List D)
  | .lst ds => if plains ds && decide (PyData.depthAll (pys ds) ≤ 64) && allB (pys ds) && srtB (pys ds) then some (ds.mergeSort (dataLe false D.py)) else if ds.length ≤ 1 then some ds else none
  | _ => none
def sortM (g : M D) : M (List D) := bnd g fun d => ofO (sortO d)
theorem pys_map : ∀ ds : List D, pys ds = ds.map D.py
  | [] => by rw [pys]; rfl
  | d :: ds => by rw [pys, pys_map ds]; rfl
theorem depth_mem : ∀ {ds : List PyData} {d : PyData}, d ∈ ds → d.depth ≤ PyData.depthAll ds
  | [], _, h => by cases h
  | x :: xs, d, h => by
    rw [PyData.depthAll]
    rcases List.mem_cons.mp h with rfl | h
    · omega
    · have := depth_mem h; omega
theorem each_rep {K : PySem.W.Frag} {B : Hp} : ∀ {us : List V} {vs : List Value} {ds : List D}, Vals us vs → Reps K B us ds → EachIs (fun (v : Value) (d : D) => ∃ x, RelV x v ∧ Rep K B x d) vs ds
  | _, _, _, .nil, .nil => .nil
  | _, _, _, .cons r1 t1, .cons r2 t2 => .cons ⟨_, r1, r2⟩ (each_rep t1 t2)
theorem vals_rep {K : PySem.W.Frag} {B : Hp} : ∀ {vs : List Value} {ds : List D}, EachIs (fun (v : Value) (d : D) => ∃ x, RelV x v ∧ Rep K B x d) vs ds → ∃ us, Vals us vs ∧ Reps K B us ds
  | _, _, .nil => ⟨[], .nil, .nil⟩
  | _, _, .cons ⟨x, r1, r2⟩ t => let ⟨us, h1, h2⟩ := vals_rep t; ⟨x :: us, .cons r1 h1, .cons r2 h2⟩
theorem each_reads {h : Heap} : ∀ {vs : List Value} {ds : List D} {as : List Addr}, ReadsAll h vs (ds.map D.py) as → EachIs (fun v d => ∃ as, Reads h v (D.py d) as) vs ds
  | _, [], _, r => by cases r; exact .nil
  | _, d :: ds, _, r => by
    cases r with
    | cons h1 h2 => exact .cons ⟨_, h1⟩ (each_reads h2)
def rSort1 (K : PySem.W.Frag) : List V → Hp → VK → Prop := fun xs H Q => ∃ (a : Addr) (us : List V) (B : Hp) (ds : List D), xs = [.ref a] ∧ SqL K H a us ∧ Ex B H ∧ Reps K B us ds ∧ ds.length ≤ sizeLine ∧ plains ds = true ∧ PyData.depthAll (pys ds) ≤ 64 ∧ AllAlike (pys ds) ∧ Sortable (pys ds) ∧
  ∀ us' p, H p = none → Reps K B us' (ds.mergeSort (dataLe false D.py)) → Q (.ref p) (upd H p (.lst us'))
def rSortS (K : PySem.W.Frag) : List V → Hp → VK → Prop := fun xs H Q => ∃ (a : Addr) (us : List V), xs = [.ref a] ∧ SqL K H a us ∧ us.length ≤ 1 ∧ ∀ p, H p = none → Q (.ref p) (upd H p (.lst us))
theorem perm1 {α : Type} : ∀ {a b : List α}, b.length ≤ 1 → a.Perm b → a = b
  | a, [], _, p => p.eq_nil
  | a, [x], _, p => p.eq_singleton
  | _, _ :: _ :: _, h, _ => absurd h (by simp)
theorem cr_sortS {X : Cx} : CallR X (.builtin "sorted") (rSortS X.K) := by
  intro pins s σ H xs us Q I r h
  obtain ⟨a, ws, rfl, hl, h1, q⟩ := h
  rw [Vals.ref1 r]
  obtain ⟨its, rv, li, hz⟩ := I.list hl
  have hn : its.length ≤ 1 := by rw [← rv.length]; exact h1
  have sw : SrtO.Swo (fun (_ _ : Value) => false) := ⟨fun _ _ z => (Bool.false_ne_true z).elim, fun _ _ _ _ _ => rfl⟩
  have hs1 : (1 : Nat) ≤ sizeLine := by rw [sizeLine_eq]; omega
  refine SrtO.sorted_ord sw li.isList (Nat.le_trans hn hs1) (fun z => absurd z (by omega)) ?_
  intro out _ st
  have e : out = its := perm1 hn st.perm
  rw [e]
  obtain ⟨c, hc⟩ := sortedAll_at s.heap its its.toArray
  refine ⟨.ref (s.heap.objs.size + 1), upd H (s.heap.objs.size + 1) (.lst ws), ?_, rfl, q _ (I.hok.fresh (Nat.le_succ _))⟩
  exact I.laid (t' := s.toks) (fun b o e => sortedAll_old e) (Nat.le_succ _) ⟨Nat.le_trans h1 hs1, its, c, rv, hc⟩
theorem cr_sort1 {X : Cx} (hu : X.A.units + 66 < cLine) : CallR X (.builtin "sorted") (rSort1 X.K) := by
  intro pins s σ H xs us Q I r h
  obtain ⟨a, ws, B, ds, rfl, hl, bh, rs, hz, hp, hd, al, so, q⟩ := h
  rw [Vals.ref1 r]
  obtain ⟨its, rv, li, _⟩ := I.list hl
  obtain ⟨dp, _⟩ := rs.dp bh hp
  obtain ⟨as, hr⟩ := Dp.readsAll I _ _ _ dp rv
  rw [pys_map] at hr al so
  refine sorted_data (enc := D.py) (bs := ds) (R := fun v d => ∃ x, RelV x v ∧ Rep X.K B x d) li.isList (each_rep rv rs) (each_reads hr) al so hz (fun d hdm => ?_) fun out ho eo => ?_
  · have : d.py.depth ≤ PyData.depthAll (pys ds) := depth_mem (by rw [pys_map]; exact List.mem_map.mpr ⟨d, hdm, rfl⟩)
    omega
  · obtain ⟨us', rv', rs'⟩ := vals_rep eo
    obtain ⟨c, hc⟩ := sortedAll_at s.heap its out.toArray
    refine ⟨.ref (s.heap.objs.size + 1), upd H (s.heap.objs.size + 1) (.lst us'), ?_, rfl, q us' _ (I.hok.fresh (Nat.le_succ _)) rs'⟩
    have hlen : us'.length ≤ sizeLine := by rw [rv'.length, ho]; exact hz
    exact I.laid (t' := s.toks) (fun b o e => sortedAll_old e) (Nat.le_succ _) ⟨hlen, out, c, rv', hc⟩
section
variable {F : CF} {K : PySem.W.Frag} {mg : Str → Option Value} {Z : XC} {own own' : List Stt} {N : List Str} {vis : List Bool} {gl : List Str} {k : Nat} {a : Expr} {g : M D} {pos : Pos}
theorem el_sort1 (S : Sx F K mg N vis gl k) (i : Nat) {p : Pos} (hm : mg "sorted" = none) (ha : EX F K Z own a g) (hg : gl[i]? = some ("sorted" : Str) := by rfl) (hs : ∀ X, F X → starEach [a] X.env = (false, eval a X.env) :: starEach [] X.env := by intro _ _; rfl) :
    EL F K Z own (.Call (.Name "sorted" p) [a] [] pos) (sortM g) := by
  obtain ⟨ta, pa, ha⟩ := ha
  refine ⟨tCB (fun xs H Q => rSort1 K xs H Q ∨ rSortS K xs H Q) (tCons ta tNil), fun X hX => let ⟨g1, g2, g3⟩ := S.gl X hX i _ hg;
    pe_callB (atK (S.hK X hX) (fun K => CallR X _ (fun xs H Q => rSort1 K xs H Q ∨ rSortS K xs H Q)) (fun pins s σ H xs us Q I r h => h.elim (cr_sort1 (by have := (S.room X hX).un; omega) pins s σ H xs us Q I r) (cr_sortS pins s σ H xs us Q I r))) g1 (by rw [S.hmg X hX]; exact hm) PyProof.Rows.boot_sorted (pa_cons (pa X hX) pa_nil (hs X hX)) g3 g2 (hs X hX) rfl, fun G ρ σ H B R => ?_⟩
  refine Run.thn (p2 := fun x H1 Q => rSort1 K [x] H1 Q ∨ rSortS K [x] H1 Q) (ha G ρ σ H B R) fun d ρ1 v H1 B1 _ e R1 l => ?_
  cases hd : sortO d with
  | none => simp only [ofO]; trivial
  | some out =>
    cases d with
    | lst ds =>
      have hd : (if plains ds && decide (PyData.depthAll (pys ds) ≤ 64) && allB (pys ds) && srtB (pys ds) then some (ds.mergeSort (dataLe false D.py)) else if ds.length ≤ 1 then some ds else none) = some out := hd
      split at hd
      · rename_i hc
        simp only [Bool.and_eq_true, decide_eq_true_eq] at hc
        cases hd
        cases l with
        | lst hq rs hz =>
          intro Q q
          refine .inl ⟨_, _, B1, ds, rfl, R1.keep.bh.seq hq, R1.keep.bh, rs, hz, hc.1.1.1, hc.1.1.2, allB_ok hc.1.2, srtB_ok hc.2, fun us' p hp rs' => ?_⟩
          obtain ⟨R2, f2⟩ := R1.fresh hp rs' (by rw [List.length_mergeSort]; exact hz)
          exact q _ _ B1 Ex.rfl R2 f2
      · split at hd
        · rename_i h1
          cases hd
          cases l with
          | lst hq rs hz =>
            intro Q q
            refine .inr ⟨_, _, rfl, R1.keep.bh.seq hq, by rw [rs.len]; exact h1, fun p hp => ?_⟩
            obtain ⟨R2, f2⟩ := R1.fresh hp rs hz
            exact q _ _ B1 Ex.rfl R2 f2
        · cases hd
    | _ => cases hd
end
end MP
namespace MP
open PySem PySem.Spec PyProof.Rows L2 PySem.SeqAt PySem.W
/-! ### len(x), x[i] by the class's own __len__, __getitem__ -/
end MP
namespace MP
open PySem PySem.Spec PyProof.Rows L2 PySem.SeqAt PySem.W
end MP
namespace MP
open PySem PySem.Spec PyProof.Rows L2 PySem.SeqAt PySem.W
/-! ### x in d, d a dict whose keys are None or ints -/
end MP
namespace MP
open PySem PySem.Spec PyProof.Rows L2
/-! ### {k: v for ..}, the keys None or ints -/
end MP
namespace MP
open PySem L2
/-! ### {k: v for ..} over the slots; no instance is being made -/
end MP
namespace MP
open PySem L2
/-! ### instances with a dict -/
/-- what of the text such a class has -/
structure DCl (K : PySem.W.Frag) (c : Str) : Prop where
  cls : Cls K (He.ga K c)
  no : ∀ f ∈ flds c, NoAttr K (He.ga K c) f
  ne : (flds c).isEmpty = false
  nd : (flds c).Nodup
theorem zip_lookup : ∀ {ns : List Str} {us : List V} {i : Nat} {f : Str} {v : V}, ns.Nodup → ns[i]? = some f → us[i]? = some v → (ns.zip us).lookup f = some v
  | [], _, _, _, _, _, h, _ => by simp at h
  | _ :: _, [], _, _, _, _, _, h => by simp at h
  | n :: ns, u :: us, 0, f, v, _, h1, h2 => by simp at h1 h2; subst h1 h2; simp
  | n :: ns, u :: us, i + 1, f, v, nd, h1, h2 => by
    have hf : f ∈ ns := List.mem_of_getElem? (show ns[i]? = some f by simpa using h1)
    have ne : (f == n) = false := beq_eq_false_iff_ne.mpr fun z => (List.nodup_cons.mp nd).1 (z ▸ hf)
    rw [List.zip_cons_cons, List.lookup_cons, ne]
    exact zip_lookup (List.nodup_cons.mp nd).2 (by simpa using h1) (by simpa using h2)
theorem zip_none : ∀ {ns : List Str} {us : List V} {f : Str}, f ∉ ns → (ns.zip us).lookup f = none
  | [], _, _, _ => by simp
  | _ :: _, [], _, _ => by simp
  | n :: ns, u :: us, f, h => by
    have ne : (f == n) = false := beq_eq_false_iff_ne.mpr fun z => h (by simp [z])
    rw [List.zip_cons_cons, List.lookup_cons, ne]
    exact zip_none fun z => h (by simp [z])
theorem put_set : ∀ {ns : List Str} {us : List V} {i : Nat} {f : Str} {v : V}, ns.Nodup → ns[i]? = some f → i < us.length → putF f v (ns.zip us) = ns.zip (us.set i v)
  | [], _, _, _, _, _, h, _ => by simp at h
  | _ :: _, [], _, _, _, _, _, h => by simp at h
  | n :: ns, u :: us, 0, f, v, _, h1, _ => by simp at h1; subst h1; simp [putF]
  | n :: ns, u :: us, i + 1, f, v, nd, h1, h2 => by
    have hf : f ∈ ns := List.mem_of_getElem? (show ns[i]? = some f by simpa using h1)
    have ne : ¬ n = f := fun z => (List.nodup_cons.mp nd).1 (z ▸ hf)
    rw [List.zip_cons_cons, putF, if_neg ne, List.set_cons_succ, List.zip_cons_cons, put_set (List.nodup_cons.mp nd).2 (by simpa using h1) (by simpa using h2)]
theorem put_new : ∀ {ns : List Str} {us : List V} {f : Str} {v : V}, ns.Nodup → ns[us.length]? = some f → putF f v (ns.zip us) = ns.zip (us ++ [v])
  | [], _, _, _, _, h => by simp at h
  | n :: ns, [], f, v, _, h => by simp at h; subst h; simp [putF]
  | n :: ns, u :: us, f, v, nd, h => by
    have hf : f ∈ ns := List.mem_of_getElem? (show ns[us.length]? = some f by simpa using h)
    have ne : ¬ n = f := fun z => (List.nodup_cons.mp nd).1 (z ▸ hf)
    rw [List.zip_cons_cons, putF, if_neg ne, List.cons_append, List.zip_cons_cons, put_new (List.nodup_cons.mp nd).2 (by simpa using h)]
def putI {α : Type} (i : Nat) (d : α) (fs : List α) : List α := if i < fs.length then fs.set i d else fs ++ [d]
theorem put_I {ns : List Str} {us : List V} {i : Nat} {f : Str} {v : V} (nd : ns.Nodup) (h : ns[i]? = some f) (hi : i ≤ us.length) : putF f v (ns.zip us) = ns.zip (putI i v us) := by
  unfold putI
  split
  · rename_i q; exact put_set nd h q
  · rename_i q
    have : i = us.length := by omega
    subst this
    exact put_new nd h
theorem putI_get {α : Type} {i j : Nat} {d : α} {fs : List α} (h : i ≤ fs.length) : (putI i d fs)[j]? = if j = i then some d else fs[j]? := by
  unfold putI
  split
  · rename_i q
    by_cases e : j = i
    · subst e; rw [List.getElem?_set_self q, if_pos rfl]
    · rw [if_neg e, List.getElem?_set_ne (fun z => e z.symm)]
  · rename_i q
    have : i = fs.length := by omega
    subst this
    by_cases e : j = fs.length
    · subst e; simp
    · rw [if_neg e]
      by_cases l : j < fs.length
      · rw [List.getElem?_append_left l]
      · rw [List.getElem?_eq_none (by simp; omega), List.getElem?_eq_none (by omega)]
/-- one field -/
def F1 (K : PySem.W.Frag) (H B : Hp) (n : Str) (v : V) (d : D) : Prop := if boxF n = true then ∃ a, v = .ref a ∧ CellOk K H B a d ∧ boxK n d = true else Rep K B v d
theorem FOk.iff {K : PySem.W.Frag} {H B : Hp} : ∀ {ns : List Str} {us : List V} {fs : List D}, FOk K H B ns us fs ↔ (us.length = fs.length ∧ fs.length ≤ ns.length) ∧ ∀ (i : Nat) (n : Str) (v : V) (d : D), ns[i]? = some n → us[i]? = some v → fs[i]? = some d → F1 K H B n v d
  | _, [], [] => by
    refine ⟨fun _ => ⟨⟨rfl, by simp⟩, fun i n v d _ h => by simp at h⟩, fun _ => by unfold FOk; trivial⟩
  | n :: ns, u :: us, d :: ds => by
    have ih := FOk.iff (K := K) (H := H) (B := B) (ns := ns) (us := us) (fs := ds)
    constructor
    · rintro ⟨h1, h2⟩
      obtain ⟨⟨a, b⟩, c⟩ := ih.mp h2
      refine ⟨⟨by simp [a], by simp [b]⟩, fun i m v e q1 q2 q3 => ?_⟩
      cases i with
      | zero => simp at q1 q2 q3; subst q1 q2 q3; exact h1
      | succ i => exact c i m v e (by simpa using q1) (by simpa using q2) (by simpa using q3)
    · rintro ⟨⟨a, b⟩, c⟩
      exact ⟨c 0 n u d rfl rfl rfl, ih.mpr ⟨⟨by simpa using a, by simpa using b⟩, fun i m v e q1 q2 q3 => c (i + 1) m v e (by simpa using q1) (by simpa using q2) (by simpa using q3)⟩⟩
  | _ :: _, _ :: _, [] => ⟨fun h => h.elim, fun ⟨⟨a, _⟩, _⟩ => by simp at a⟩
  | [], _ :: _, [] => ⟨fun h => h.elim, fun ⟨⟨a, _⟩, _⟩ => by simp at a⟩
  | [], _ :: _, _ :: _ => ⟨fun h => h.elim, fun ⟨⟨_, a⟩, _⟩ => by simp at a⟩
  | [], [], _ :: _ => ⟨fun h => h.elim, fun ⟨⟨a, _⟩, _⟩ => by simp at a⟩
  | _ :: _, [], _ :: _ => ⟨fun h => h.elim, fun ⟨⟨a, _⟩, _⟩ => by simp at a⟩
section
variable {F : CF} {K : PySem.W.Frag} {mg : Str → Option Value} {Z : XC} {own own1 own' : List Stt} {N : List Str} {vis : List Bool} {gl : List Str} {k : Nat} {a b : Expr} {g h : M D} {pos : Pos} {P : Program} {w : World} {base : Heap} {ps : List Str} {f : Addr} {fd : FuncData}
theorem InOk.at {H B : Hp} {x dx : Addr} {c : Str} {us : List V} {fs : List D} (o : InOk K H B x dx c us fs) {i : Nat} {n : Str} {d : D} (h1 : (flds c)[i]? = some n) (h2 : fs[i]? = some d) : ∃ v, us[i]? = some v ∧ F1 K H B n v d := by
  obtain ⟨⟨a, b⟩, q⟩ := FOk.iff.mp o.fo
  have hl : i < fs.length := (List.getElem?_eq_some_iff.mp h2).1
  have e : us[i]? = some us[i] := List.getElem?_eq_getElem (by omega)
  exact ⟨_, e, q i n _ d h1 e h2⟩
/-- the instance of slot j -/
theorem Rel.insAt {G : Gam} {ρ : Env} {σ : L2.St} {H B : Hp} (R : Rel K G own ρ σ H B) {j : Nat} {st : Stt} (hj : own[j]? = some st) (hs : st.isO = true) : ∃ x dx c us fs, (σ[j]?).join = some (.ref x) ∧ look ρ j = .ins c fs ∧ InOk K H B x dx c us fs := by
  obtain ⟨a, e, m, _⟩ := (R.slot j st hj).mok (Stt.isO_own hs)
  obtain ⟨c, fs, er⟩ : ∃ c fs, look ρ j = .ins c fs := by
    have := (R.slot j st hj).knd (Stt.isO_own hs)
    cases st with
    | O => exact this
    | M => exact this
    | _ => cases hs
  rw [er] at m
  obtain ⟨dx, us, o⟩ := m
  exact ⟨a, dx, c, us, fs, e, er, o⟩
theorem kind_ins {st : Stt} (h : st.isO = true) (c : Str) (fs : List D) : st.kind (.ins c fs) := by
  cases st with
  | O => exact ⟨c, fs, rfl⟩
  | M => exact ⟨c, fs, rfl⟩
  | _ => cases h
/-- x.f, x an instance of the frame's own, f a field with a value -/
def fldO (c : Str) (i j : Nat) : M D := fun ρ => ofO (fldD c i (look ρ j)) ρ
theorem ex_fldO (S : Sx F K mg N vis gl k) {c : Str} (C : DCl K c) (i j : Nat) {st : Stt} {x n : Str} {px : Pos} (hi : (flds c)[i]? = some n := by decide +kernel) (hn : boxF n = false := by decide +kernel) (hN : N[j]? = some x := by rfl) (hv : vis[j]? = some true := by rfl) (ho : own[j]? = some st := by rfl) (hst : st.isO = true := by rfl)
    (hb : ∀ X, F X → attributeBase (.Name x px) n X.env (eval (.Name x px) X.env) = eval (.Name x px) X.env := by intro _ _; rfl) : EX F K Z own (.Attribute (.Name x px) n pos) (fldO c i j) := by
  refine ⟨tFld K (tVar j) n, fun X hX => let ⟨v1, v2, v3⟩ := S.vis X hX j x hv hN; atK (S.hK X hX) (fun K => PE X _ (tFld K (tVar j) n)) (pe_fld (pe_var (by rw [S.hN X hX]; exact hN) v1 v2 v3) (hb X hX)), fun G ρ σ H B R => ?_⟩
  obtain ⟨a, dx, c', us, fs, ea, er, o⟩ := R.insAt ho hst
  refine Run.imp (p := fun Q => ∃ v, us[i]? = some v ∧ c' = c ∧ Q v H) (Run.prim R ?_) fun Q ⟨v, hv, hc, q⟩ => ?_
  · rw [er]
    show Prim K (RV K) (if c' = c then fs[i]? else none) H B _
    split
    · rename_i hc
      subst hc
      cases hd : fs[i]? with
      | none => trivial
      | some d =>
        obtain ⟨v, e1, e2⟩ := o.at hi hd
        unfold F1 at e2
        rw [if_neg (by rw [hn]; decide)] at e2
        exact Prim.now R.keep.bh e2 fun Q q => ⟨v, e1, rfl, q⟩
    · trivial
  · subst hc
    exact ⟨.ref a, join_some ea, a, _, dx, _, v, rfl, o.hx, C.cls, C.no n (List.mem_of_getElem? hi), zip_lookup C.nd hi hv, q⟩
/-- a.f, a a plain instance with a dict -/
theorem ex_fldV (S : Sx F K mg N vis gl k) {c : Str} (C : DCl K c) (i : Nat) {n : Str} (ha : EX F K Z own a g) (hi : (flds c)[i]? = some n := by decide +kernel) (hb : ∀ X, F X → attributeBase a n X.env (eval a X.env) = eval a X.env := by intro _ _; rfl) : EX F K Z own (.Attribute a n pos) (op1 (fldD c i) g) := by
  obtain ⟨ta, pa, ha⟩ := ha
  refine ⟨tFld K ta n, fun X hX => atK (S.hK X hX) (fun K => PE X _ (tFld K ta n)) (pe_fld (pa X hX) (hb X hX)), fun G ρ σ H B R => ?_⟩
  refine Run.thn (p2 := fun y H1 Q => ∃ a C dx fs v, y = .ref a ∧ H1 a = some (.ins C dx fs) ∧ Cls K C ∧ NoAttr K C n ∧ fs.lookup n = some v ∧ Q v H1) (ha G ρ σ H B R) fun d ρ1 v H1 B1 _ e R1 l => Run.prim R1 ?_
  cases d with
  | ins c' ds =>
    show Prim K _ (if c' = c then ds[i]? else none) H1 B1 _
    split
    · rename_i ec
      subst ec
      cases hd : ds[i]? with
      | none => trivial
      | some d =>
        cases l with
        | sl n _ _ => rw [C.ne] at n; cases n
        | di _ _ h1 h2 rs =>
          obtain ⟨v, hv, r⟩ := rs.get hd
          exact Prim.now R1.keep.bh r fun Q q => ⟨_, _, _, _, v, rfl, R1.keep.bh _ _ h1, C.cls, C.no n (List.mem_of_getElem? hi), zip_lookup C.nd hi hv, q⟩
    · trivial
  | _ => trivial
/-! ### a field is set -/
theorem mem_get {α : Type} {l : List α} {x : α} (h : x ∈ l) : ∃ i : Nat, l[i]? = some x := by
  obtain ⟨i, hi, e⟩ := List.mem_iff_getElem.mp h
  exact ⟨i, by rw [List.getElem?_eq_getElem hi, e]⟩
theorem zip_get {ns : List Str} {us : List V} {i : Nat} {f : Str} {v : V} : (ns.zip us)[i]? = some (f, v) ↔ ns[i]? = some f ∧ us[i]? = some v := by
  rw [List.getElem?_zip_eq_some]
/-- the object with one field set: the value v, told as d -/
theorem InOk.put {H B : Hp} {x dx : Addr} {c : Str} {us : List V} {fs : List D} (o : InOk K H B x dx c us fs) (C : DCl K c) {i : Nat} {n : Str} {v : V} {d : D} (hi : (flds c)[i]? = some n) (hl : i ≤ fs.length) (hv : F1 K H B n v d) (hne : ∀ a, v = .ref a → boxF n = true → a ≠ x ∧ a ≠ dx ∧ ∀ (m : Str), boxF m = true → (m, V.ref a) ∉ (flds c).zip us) :
    InOk K (upd H x (.ins (He.ga K c) dx ((flds c).zip (putI i v us)))) B x dx c (putI i v us) (putI i d fs) := by
  obtain ⟨⟨l1, l2⟩, q⟩ := FOk.iff.mp o.fo
  have hne0 : dx ≠ x := fun z => by have := o.hd; rw [z, o.hx] at this; cases this
  have hil : i < (flds c).length := (List.getElem?_eq_some_iff.mp hi).1
  have stay : ∀ {m : Str} {u : V} {e : D}, F1 K H B m u e → F1 K (upd H x (.ins (He.ga K c) dx ((flds c).zip (putI i v us)))) B m u e := fun {m u e} h => by
    unfold F1 at h ⊢
    split at h
    · rename_i hb
      rw [if_pos hb]
      obtain ⟨p, rfl, cl, kd⟩ := h
      refine ⟨p, rfl, cl.stay (fun o' e' => ?_) Ex.rfl cl.has.2, kd⟩
      have : p ≠ x := fun z => by
        obtain ⟨⟨o2, e2, _, n2⟩, _⟩ := cl.has
        rw [z, o.hx] at e2; cases e2; exact n2 _ _ _ rfl
      rw [upd_ne this]; exact e'
    · rename_i hb
      rw [if_neg hb]; exact h
  have lp : ∀ {α : Type} {d : α} {l : List α}, i ≤ l.length → (putI i d l).length = max l.length (i + 1) := fun {α d l} h => by
    unfold putI
    split
    · simp; omega
    · simp; omega
  refine ⟨upd_same, by rw [upd_ne hne0]; exact o.hd, FOk.iff.mpr ⟨⟨by rw [lp (by omega), lp hl, l1], by rw [lp hl]; omega⟩, fun j m u e h1 h2 h3 => ?_⟩, o.bx, o.bd, o.ne, fun j j' m m' p bm bm' h1 h2 => ?_⟩
  · rw [putI_get (by omega)] at h2
    rw [putI_get hl] at h3
    by_cases z : j = i
    · subst z
      rw [if_pos rfl] at h2 h3
      rw [hi] at h1
      cases h1; cases h2; cases h3
      exact stay hv
    · rw [if_neg z] at h2 h3
      exact stay (q j m u e h1 h2 h3)
  · obtain ⟨a1, a2⟩ := zip_get.mp h1
    obtain ⟨b1, b2⟩ := zip_get.mp h2
    rw [putI_get (by omega)] at a2 b2
    by_cases z : j = i
    · by_cases z' : j' = i
      · exact z.trans z'.symm
      · rw [if_pos z] at a2
        rw [if_neg z'] at b2
        cases a2
        rw [z, hi] at a1
        cases a1
        exact ((hne p rfl bm).2.2 m' bm' (List.mem_of_getElem? (zip_get.mpr ⟨b1, b2⟩))).elim
    · rw [if_neg z] at a2
      by_cases z' : j' = i
      · rw [if_pos z'] at b2
        cases b2
        rw [z', hi] at b1
        cases b1
        exact ((hne p rfl bm').2.2 m bm (List.mem_of_getElem? (zip_get.mpr ⟨a1, a2⟩))).elim
      · rw [if_neg z'] at b2
        exact o.un j j' m m' p bm bm' (zip_get.mpr ⟨a1, a2⟩) (zip_get.mpr ⟨b1, b2⟩)
/-- the slots behind it -/
theorem Rel.putFld {G : Gam} {ρ : Env} {σ : L2.St} {H B : Hp} (R : Rel K G own ρ σ H B) {j : Nat} {st : Stt} (hj : own[j]? = some st) (hs : st.isO = true) {x dx : Addr} {c : Str} {us : List V} {fs : List D} (ex : (σ[j]?).join = some (.ref x)) (el : look ρ j = .ins c fs) (o : InOk K H B x dx c us fs) (C : DCl K c) {i : Nat} {n : Str} {v : V} {d : D} (hi : (flds c)[i]? = some n) (hl : i ≤ fs.length) (hv : F1 K H B n v d)
    (hf : ∀ a, v = .ref a → boxF n = true → ((G.pr a = none ∧ G.H a = none) ∧ NoRt own σ H a)) (nI : noI own) :
    putF n v ((flds c).zip us) = (flds c).zip (putI i v us) ∧ Rel K G own (ρ.set j (.ins c (putI i d fs))) σ (upd H x (.ins (He.ga K c) dx ((flds c).zip (putI i v us)))) B := by
  obtain ⟨⟨l1, l2⟩, _⟩ := FOk.iff.mp o.fo
  have hil : i < (flds c).length := (List.getElem?_eq_some_iff.mp hi).1
  have rx : ∀ p, Root H x p → p = x ∨ p = dx ∨ ∃ f, boxF f = true ∧ (f, V.ref p) ∈ (flds c).zip us := fun p r => by
    rcases r with r | ⟨_, _, _, e, r⟩
    · exact .inl r
    · rw [o.hx] at e; cases e; exact .inr r
  have o2 := o.put C hi hl hv fun p ep bp => by
    obtain ⟨_, nr⟩ := hf p ep bp
    have no : ∀ p', Root H x p' → p' = p → False := fun p' r z => nr j st hj (Stt.isO_own hs) ⟨x, ex, by rw [← z]; exact r⟩
    exact ⟨fun z => no x .self z.symm, fun z => no dx (.inr ⟨_, _, _, o.hx, .inl rfl⟩) z.symm, fun m bm z => no p (.inr ⟨_, _, _, o.hx, .inr ⟨m, bm, z⟩⟩) rfl⟩
  refine ⟨put_I C.nd hi (by omega), ?_⟩
  refine R.changedG hj (Stt.isO_own hs) ex Ex.rfl (fun p u e => ?_) (fun p u e nr _ => ?_) (fun p u e => ?_) (TabsK.put o.hx ⟨rfl, rfl⟩) (fun p r => ?_) (R.keep.tab.put o.hx ⟨rfl, rfl⟩ rfl) (fun _ _ _ => rfl) ⟨dx, _, o2⟩ (fun hfs => ?_) (kind_ins hs _ _) (.inr nI)
  · rw [upd_ne (ne_of_none e o.bx)]; exact R.keep.bh p u e
  · rw [upd_ne (fun z => nr (.inl z))]; exact e
  · by_cases z : p = x
    · subst z; exact ⟨_, upd_same⟩
    · exact ⟨u, by rw [upd_ne z]; exact e⟩
  · rcases r with r | ⟨_, _, _, e, r⟩
    · exact .inl (.inl r)
    · rw [upd_same] at e
      cases e
      rcases r with r | ⟨m, bm, r⟩
      · exact .inl (.inr ⟨_, _, _, o.hx, .inl r⟩)
      · obtain ⟨q, hq⟩ := mem_get r
        obtain ⟨q1, q2⟩ := zip_get.mp hq
        rw [putI_get (by omega)] at q2
        by_cases z : q = i
        · rw [if_pos z] at q2
          cases q2
          rw [z, hi] at q1
          cases q1
          exact .inr (hf p rfl bm)
        · rw [if_neg z] at q2
          exact .inl (.inr ⟨_, _, _, o.hx, .inr ⟨m, bm, List.mem_of_getElem? (zip_get.mpr ⟨q1, q2⟩)⟩⟩)
  · have x0 := ((SlotOk.split (Stt.isO_own hs)).mp (R.slot j st hj)).1
    rw [if_pos hfs] at x0
    obtain ⟨_, _, ⟨_, fu⟩, _⟩ := x0
    rw [el] at fu
    have fu : fs.length = (flds c).length := fu
    show (putI i d fs).length = _
    unfold putI
    rw [if_pos (by omega), List.length_set, fu]
def setF (c : Str) (i j : Nat) (g : M D) : SM := sbd g fun d ρ => match look ρ j with
  | .ins c' fs => if c' = c ∧ i ≤ fs.length then .nx (ρ.set j (.ins c' (putI i d fs))) else .bad
  | _ => .bad
theorem st_setF {C : Ctl} (S : Sx F K mg N vis gl k) {c : Str} (Cc : DCl K c) (i j : Nat) {st : Stt} {x n : Str} {e : Expr} {px pn pos' : Pos} (h : EX F K C.Z own e g) (hi : (flds c)[i]? = some n := by decide +kernel) (hn : boxF n = false := by decide +kernel) (hN : N[j]? = some x := by rfl) (hv : vis[j]? = some true := by rfl) (ho : own[j]? = some st := by rfl) (hst : st.isO = true := by rfl) (hI : noIB own = true := by rfl) (hfl : (flds c).length ≤ 900 := by decide +kernel)
    (hs : ∀ X, F X → swapsWith e (some (.Attribute (.Name x px) n pn)) pos'.line X.env = pure false := by intro _ _; rfl) : ST F K C own (.Assign [.Attribute (.Name x px) n pn] e pos') (setF c i j g) own := by
  obtain ⟨t, p, h⟩ := h
  refine ⟨sFld K (tVar j) t n, fun X hX => let ⟨v1, v2, v3⟩ := S.vis X hX j x hv hN; atK (S.hK X hX) (fun K => PS X _ (sFld K (tVar j) t n)) (ps_fld (pe_var (by rw [S.hN X hX]; exact hN) v1 v2 v3) (p X hX) (hs X hX)), fun G ρ σ H B R => ?_⟩
  refine SRun.ofE (p2 := fun v H1 E => ∃ z, σ[j]? = some (some z) ∧ ∃ a C dx fs, z = .ref a ∧ H1 a = some (.ins C dx fs) ∧ Cls K C ∧ NoAttr K C n ∧ fs.length < 1000 ∧ E.nx σ (upd H1 a (.ins C dx (putF n v fs)))) (h G ρ σ H B R) fun d ρ1 v H1 B1 _ e R1 l E hE => ?_
  obtain ⟨a, dx, c', us, fs, ea, er, o⟩ := R1.insAt ho hst
  rw [er] at hE
  change SPost K C G own (if c' = c ∧ i ≤ fs.length then .nx (ρ1.set j (.ins c' (putI i d fs))) else .bad) B1 E at hE
  by_cases hc : c' = c ∧ i ≤ fs.length
  · rw [if_pos hc] at hE
    obtain ⟨rfl, hlen⟩ := hc
    have f1 : F1 K H1 B1 n v d := by unfold F1; rw [if_neg (by rw [hn]; decide)]; exact l
    obtain ⟨e1, R2⟩ := R1.putFld ho hst ea er o Cc hi hlen f1 (fun _ _ z => by rw [hn] at z; cases z) (noI_of hI)
    refine ⟨_, join_some ea, a, _, dx, _, rfl, o.hx, Cc.cls, Cc.no n (List.mem_of_getElem? hi), ?_, ?_⟩
    · rw [List.length_zip]; omega
    · rw [e1]; exact hE σ _ B1 Ex.rfl R2
  · rw [if_neg hc] at hE; exact hE.elim
/-- x.f = a new list -/
def setFL (c : Str) (i j : Nat) (g : M (List D)) : SM := sbd g fun ds ρ => match look ρ j with
  | .ins c' fs => if c' = c ∧ i ≤ fs.length then .nx (ρ.set j (.ins c' (putI i (.lst ds) fs))) else .bad
  | _ => .bad
theorem st_setFL {C : Ctl} (S : Sx F K mg N vis gl k) {c : Str} (Cc : DCl K c) (i j : Nat) {st : Stt} {x n : Str} {e : Expr} {g : M (List D)} {px pn pos' : Pos} (h : EL F K C.Z own e g) (hi : (flds c)[i]? = some n := by decide +kernel) (hn : LBOX.elem n = true := by decide +kernel) (hN : N[j]? = some x := by rfl) (hv : vis[j]? = some true := by rfl) (ho : own[j]? = some st := by rfl) (hst : st.isO = true := by rfl) (hI : noIB own = true := by rfl) (hfl : (flds c).length ≤ 900 := by decide +kernel)
    (hs : ∀ X, F X → swapsWith e (some (.Attribute (.Name x px) n pn)) pos'.line X.env = pure false := by intro _ _; rfl) : ST F K C own (.Assign [.Attribute (.Name x px) n pn] e pos') (setFL c i j g) own := by
  obtain ⟨t, p, h⟩ := h
  refine ⟨sFld K (tVar j) t n, fun X hX => let ⟨v1, v2, v3⟩ := S.vis X hX j x hv hN; atK (S.hK X hX) (fun K => PS X _ (sFld K (tVar j) t n)) (ps_fld (pe_var (by rw [S.hN X hX]; exact hN) v1 v2 v3) (p X hX) (hs X hX)), fun G ρ σ H B R => ?_⟩
  refine SRun.ofE (p2 := fun v H1 E => ∃ z, σ[j]? = some (some z) ∧ ∃ a C dx fs, z = .ref a ∧ H1 a = some (.ins C dx fs) ∧ Cls K C ∧ NoAttr K C n ∧ fs.length < 1000 ∧ E.nx σ (upd H1 a (.ins C dx (putF n v fs)))) (h G ρ σ H B R) fun ds ρ1 v H1 B1 _ e R1 l E hE => ?_
  obtain ⟨a, dx, c', us, fs, ea, er, o⟩ := R1.insAt ho hst
  rw [er] at hE
  change SPost K C G own (if c' = c ∧ i ≤ fs.length then .nx (ρ1.set j (.ins c' (putI i (.lst ds) fs))) else .bad) B1 E at hE
  by_cases hc : c' = c ∧ i ≤ fs.length
  · rw [if_pos hc] at hE
    obtain ⟨rfl, hlen⟩ := hc
    obtain ⟨p, rfl, lp, gp, np⟩ := l
    have hb : boxF n = true := by unfold boxF; rw [hn]; rfl
    have f1 : F1 K H1 B1 n (.ref p) (.lst ds) := by unfold F1; rw [if_pos hb]; exact ⟨p, rfl, lp, hn⟩
    obtain ⟨e1, R2⟩ := R1.putFld ho hst ea er o Cc hi hlen f1 (fun q z _ => by cases z; exact ⟨gp, np⟩) (noI_of hI)
    refine ⟨_, join_some ea, a, _, dx, _, rfl, o.hx, Cc.cls, Cc.no n (List.mem_of_getElem? hi), ?_, ?_⟩
    · rw [List.length_zip]; omega
    · rw [e1]; exact hE σ _ B1 Ex.rfl R2
  · rw [if_neg hc] at hE; exact hE.elim
end
end MP
namespace MP
open PySem L2
/-! ### lists of an instance's own, where they are read at once -/
/-- e is a list of the frame's own: l tells its items -/
def OL (F : CF) (K : PySem.W.Frag) (own : List Stt) (e : Expr) (l : Env → Option (List D)) : Prop :=
  ∃ t : TE, (∀ X, F X → PE X e t) ∧ ∀ G ρ σ H B, Rel K G own ρ σ H B → ∀ rs, l ρ = some rs → ∃ a us, (H a = some (.lst us) ∧ Reps K B us rs ∧ rs.length ≤ sizeLine ∧ B a = none) ∧ ∀ Q : VK, Q (.ref a) H → t σ H Q
/-- e is pure: nothing but growth -/
def PX (F : CF) (K : PySem.W.Frag) (own : List Stt) (e : Expr) (g : Env → Option D) : Prop :=
  ∃ t : TE, (∀ X, F X → PE X e t) ∧ ∀ G ρ σ H B, Rel K G own ρ σ H B → Prim K (RV K) (g ρ) H B (t σ H)
def lstO : Option D → Option (List D)
  | some (.lst rs) => some rs
  | _ => none
theorem lstO_some {o : Option D} {rs : List D} (h : lstO o = some rs) : o = some (.lst rs) := by
  unfold lstO at h
  split at h
  · cases h; rfl
  · cases h
def boxL (c : Str) (i j : Nat) : Env → Option (List D) := fun ρ => lstO (fldD c i (look ρ j))
section
variable {F : CF} {K : PySem.W.Frag} {mg : Str → Option Value} {Z : XC} {own own1 own' : List Stt} {N : List Str} {vis : List Bool} {gl : List Str} {k : Nat} {a b : Expr} {g h : M D} {pos : Pos} {P : Program} {w : World} {base : Heap} {ps : List Str} {f : Addr} {fd : FuncData}
theorem fld_lst {H B : Hp} {x dx : Addr} {c : Str} {us : List V} {fs : List D} (o : InOk K H B x dx c us fs) {i : Nat} {n : Str} {rs : List D} (hi : (flds c)[i]? = some n) (hn : LBOX.elem n = true) (hd : fs[i]? = some (.lst rs)) : ∃ p, us[i]? = some (.ref p) ∧ LstOk K H B p rs := by
  obtain ⟨v, e1, e2⟩ := o.at hi hd
  have hb : boxF n = true := by unfold boxF; rw [hn]; rfl
  unfold F1 at e2
  rw [if_pos hb] at e2
  obtain ⟨p, rfl, cl, _⟩ := e2
  exact ⟨p, e1, cl⟩
theorem boxL_inv {c : Str} {i j : Nat} {ρ : Env} {c' : Str} {fs rs : List D} (hl : look ρ j = .ins c' fs) (h : boxL c i j ρ = some rs) : c' = c ∧ fs[i]? = some (.lst rs) := by
  unfold boxL at h
  have := lstO_some h
  rw [hl] at this
  have this : (if c' = c then fs[i]? else none) = some (.lst rs) := this
  split at this
  · exact ⟨‹_›, this⟩
  · cases this
theorem ol_fld (S : Sx F K mg N vis gl k) {c : Str} (C : DCl K c) (i j : Nat) {st : Stt} {x n : Str} {px : Pos} (hi : (flds c)[i]? = some n := by decide +kernel) (hn : LBOX.elem n = true := by decide +kernel) (hN : N[j]? = some x := by rfl) (hv : vis[j]? = some true := by rfl) (ho : own[j]? = some st := by rfl) (hst : st.isO = true := by rfl)
    (hb : ∀ X, F X → attributeBase (.Name x px) n X.env (eval (.Name x px) X.env) = eval (.Name x px) X.env := by intro _ _; rfl) : OL F K own (.Attribute (.Name x px) n pos) (boxL c i j) := by
  refine ⟨tFld K (tVar j) n, fun X hX => let ⟨v1, v2, v3⟩ := S.vis X hX j x hv hN; atK (S.hK X hX) (fun K => PE X _ (tFld K (tVar j) n)) (pe_fld (pe_var (by rw [S.hN X hX]; exact hN) v1 v2 v3) (hb X hX)), fun G ρ σ H B R rs hrs => ?_⟩
  obtain ⟨a, dx, c', us, fs, ea, er, o⟩ := R.insAt ho hst
  obtain ⟨rfl, hd⟩ := boxL_inv er hrs
  obtain ⟨p, e1, us', hu, ru, hz, hb⟩ := fld_lst o hi hn hd
  exact ⟨p, us', ⟨hu, ru, hz, hb⟩, fun Q q => ⟨.ref a, join_some ea, a, _, dx, _, .ref p, rfl, o.hx, C.cls, C.no n (List.mem_of_getElem? hi), zip_lookup C.nd hi e1, q⟩⟩
def blO : Option D → Option D
  | some (.bl b) => some (.bl b)
  | _ => none
/-- x in l -/
def inOL (neg : Bool) (g : M D) (l : Env → Option (List D)) : M D := bnd g fun x ρ => ofO (blO ((l ρ).bind fun rs => inD neg x (.lst rs))) ρ
/-- l[i] -/
def ixOL (l : Env → Option (List D)) (p : Env → Option D) : M D := fun ρ => ofO ((l ρ).bind fun rs => (p ρ).bind fun i => ixD (.lst rs) i) ρ
/-- len(l) -/
def lenOL (l : Env → Option (List D)) : M D := fun ρ => ofO ((l ρ).map fun rs => .int rs.length) ρ
/-- *l in a display -/
def starOL (l : Env → Option (List D)) (h : M (List D)) : M (List D) := fun ρ => (ofO (l ρ) ρ).bnd fun as => bnd h fun xs => ret (as ++ xs)
/-- l == [], l != [] -/
def nilOL (ne : Bool) (l : Env → Option (List D)) : M D := fun ρ => ofO ((l ρ).bind fun rs => if okD (.lst rs) then some (.bl (xor ne rs.isEmpty)) else none) ρ
theorem eqv_nil0 (ds : List D) : PyData.eqv (D.lst ds).py (D.lst []).py = ds.isEmpty := by
  rw [D.py, D.py, pys]
  cases ds with
  | nil => simp [pys, PyData.eqv, PyData.eqvAll]
  | cons d ds => simp [pys, PyData.eqv, PyData.eqvAll]
end
end MP
namespace MP
open PySem L2
section
variable {F : CF} {K : PySem.W.Frag} {mg : Str → Option Value} {Z : XC} {own own1 own' : List Stt} {N : List Str} {vis : List Bool} {gl : List Str} {k : Nat} {a b : Expr} {g h : M D} {pos : Pos} {P : Program} {w : World} {base : Heap} {ps : List Str} {f : Addr} {fd : FuncData}
/-! ### a list in a field is changed -/
/-- a cell of the instance takes another form -/
theorem InOk.cell {H B : Hp} {x dx : Addr} {c : Str} {us : List V} {fs : List D} (o : InOk K H B x dx c us fs) {i : Nat} {n : Str} {p : Addr} {u : HO} {d d' : D} (hi : (flds c)[i]? = some n) (hn : boxF n = true) (hu : us[i]? = some (.ref p)) (hp : CellOk K H B p d) (hd : CellOk K (upd H p u) B p d') (hk : boxK n d' = true) : InOk K (upd H p u) B x dx c us (fs.set i d') := by
  obtain ⟨⟨l1, l2⟩, q⟩ := FOk.iff.mp o.fo
  obtain ⟨⟨o0, e0, _, n0⟩, b0⟩ := hp.has
  have hx : x ≠ p := fun z => by have := o.hx; rw [z, e0] at this; cases this; exact n0 _ _ _ rfl
  have hdx : dx ≠ p := fun z => by
    have := o.hd
    rw [z] at this
    cases d with
    | lst ds => obtain ⟨_, e, _⟩ := hp; rw [e] at this; cases this
    | dk lk ks ds => obtain ⟨_, _, e, _⟩ := hp; rw [e] at this; cases this
    | dt lk ks ds => obtain ⟨_, _, e, _⟩ := hp; rw [e] at this; cases this
    | _ => exact hp
  refine ⟨by rw [upd_ne hx]; exact o.hx, by rw [upd_ne hdx]; exact o.hd, FOk.iff.mpr ⟨⟨by simpa using l1, by simpa using l2⟩, fun j m v e h1 h2 h3 => ?_⟩, o.bx, o.bd, o.ne, o.un⟩
  by_cases z : j = i
  · subst z
    have hl : j < fs.length := by rw [← l1]; exact (List.getElem?_eq_some_iff.mp h2).1
    rw [List.getElem?_set_self hl] at h3
    rw [hi] at h1
    rw [hu] at h2
    cases h1; cases h2; cases h3
    unfold F1
    rw [if_pos hn]
    exact ⟨p, rfl, hd, hk⟩
  · rw [List.getElem?_set_ne (fun w => z w.symm)] at h3
    have := q j m v e h1 h2 h3
    unfold F1 at this ⊢
    split at this
    · rename_i hm
      rw [if_pos hm]
      obtain ⟨p', rfl, cl, kd⟩ := this
      refine ⟨p', rfl, cl.stay (fun o' e' => ?_) Ex.rfl cl.has.2, kd⟩
      have : p' ≠ p := fun w => z (o.un j i m n p hm hn (zip_get.mpr ⟨h1, by rw [← w]; exact h2⟩) (zip_get.mpr ⟨hi, hu⟩))
      rw [upd_ne this]; exact e'
    · rename_i hm
      rw [if_neg hm]; exact this
theorem Rel.putCell {G : Gam} {ρ : Env} {σ : L2.St} {H B : Hp} (R : Rel K G own ρ σ H B) {j : Nat} {st : Stt} (hj : own[j]? = some st) (hs : st.isO = true) {x dx : Addr} {c : Str} {us : List V} {fs : List D} (ex : (σ[j]?).join = some (.ref x)) (el : look ρ j = .ins c fs) (o : InOk K H B x dx c us fs) {i : Nat} {n : Str} {p : Addr} {u : HO} {d d' : D} (hi : (flds c)[i]? = some n) (hn : boxF n = true) (hu : us[i]? = some (.ref p)) (hp : CellOk K H B p d) (hd : CellOk K (upd H p u) B p d') (hk : boxK n d' = true) (nI : noI own) :
    Rel K G own (ρ.set j (.ins c (fs.set i d'))) σ (upd H p u) B := by
  obtain ⟨⟨o0, e0, po, n0⟩, b0⟩ := hp.has
  obtain ⟨⟨u0, eu, pu, _⟩, _⟩ := hd.has
  rw [upd_same] at eu
  cases eu
  have hx : x ≠ p := fun z => by have := o.hx; rw [z, e0] at this; cases this; exact n0 _ _ _ rfl
  have rp : Root H x p := .inr ⟨_, _, _, o.hx, .inr ⟨n, hn, List.mem_of_getElem? (zip_get.mpr ⟨hi, hu⟩)⟩⟩
  refine R.changedG hj (Stt.isO_own hs) ex Ex.rfl (fun b q e => ?_) (fun b q e nr _ => ?_) (fun b q e => ?_) (TabsK.put e0 po) (fun b r => ?_) (R.keep.tab.put e0 po pu.1 (hd.ntp upd_same)) (fun _ _ _ => rfl) ⟨dx, us, o.cell hi hn hu hp hd hk⟩ (fun hfs => ?_) (kind_ins hs _ _) (.inr nI)
  · rw [upd_ne (ne_of_none e b0)]; exact R.keep.bh b q e
  · rw [upd_ne (fun z => nr (by rw [z]; exact rp))]; exact e
  · by_cases z : b = p
    · subst z; exact ⟨_, upd_same⟩
    · exact ⟨q, by rw [upd_ne z]; exact e⟩
  · exact .inl ((Root.congr (upd_ne hx)).mp r)
  · have x0 := ((SlotOk.split (Stt.isO_own hs)).mp (R.slot j st hj)).1
    rw [if_pos hfs] at x0
    obtain ⟨_, _, ⟨_, fu⟩, _⟩ := x0
    rw [el] at fu
    have fu : fs.length = (flds c).length := fu
    show (fs.set i d').length = _
    rw [List.length_set, fu]
theorem setBox_ins {i j : Nat} {d : D} {ρ : Env} {c : Str} {fs : List D} (h : look ρ j = .ins c fs) : (match look ρ j with
  | .ins c fs => ρ.set j (.ins c (fs.set i d))
  | _ => ρ) = ρ.set j (.ins c (fs.set i d)) := by rw [h]
def setBox (i j : Nat) (d : D) (ρ : Env) : Env := match look ρ j with
  | .ins c fs => ρ.set j (.ins c (fs.set i d))
  | _ => ρ
/-- x.f.append(e) -/
def appF (c : Str) (i j : Nat) (p : Env → Option D) : SM := fun ρ => match boxL c i j ρ with
  | some rs => (match p ρ with
    | some d => if rs.length < 16000000 then .nx (setBox i j (.lst (rs ++ [d])) ρ) else .bad
    | none => .bad)
  | none => .bad
/-- x.f.pop(i) -/
def popF (c : Str) (i j : Nat) (z : Int) : M D := fun ρ => match boxL c i j ρ with
  | some rs => (match seqIndex? z rs.length with
    | some m => (match rs[m]? with
      | some y => .ok y (setBox i j (.lst (rs.eraseIdx m)) ρ)
      | none => .bad)
    | none => .bad)
  | none => .bad
end
end MP
namespace MP
open PySem L2
section
variable {F : CF} {K : PySem.W.Frag} {mg : Str → Option Value} {Z : XC} {own own1 own' : List Stt} {N : List Str} {vis : List Bool} {gl : List Str} {k : Nat} {a b : Expr} {g h : M D} {pos : Pos} {P : Program} {w : World} {base : Heap} {ps : List Str} {f : Addr} {fd : FuncData}
/-! ### x.f += e, numbers -/
def augF (c : Str) (i j : Nat) (g : M D) : SM := sbd (fldO c i j) fun x => sbd g fun y ρ => match x, y with
  | .int p, .int q => (match look ρ j with
    | .ins c' fs => if c' = c ∧ i ≤ fs.length then .nx (ρ.set j (.ins c' (putI i (.int (p + q)) fs))) else .bad
    | _ => .bad)
  | _, _ => .bad
/-! ### methods that change their instance -/
structure MtM (P : Program) (w : World) (K : PySem.W.Frag) (mg : Str → Option Value) (base : Heap) (c m : Str) (f : Addr) (fd : FuncData) (ps : List Str) (j : Nat) (ff : FMf) : Prop where
  ok : FnOk P w K mg base CX0 j f fd ps (spM K ps.length ff)
  ar : ∀ d0 ds r, ff d0 ds = some r → ds.length + 1 = ps.length
  mt : Meth K (He.ga K c) m f
  bd : Binds K fd ps []
def ofC (c : Str) (j : Nat) : M Unit := fun ρ => match look ρ j with
  | .ins c' _ => if c' = c then .ok () ρ else .bad
  | _ => .bad
def callM (c : Str) (fl : Bool) (ff : FMf) (j : Nat) (g : M (List D)) : M D := bnd (ofC c j) fun _ => bnd g fun ds ρ => match ff (look ρ j) ds with
  | some (d, d1) => if (!fl || fullB d1) = true then .ok d (ρ.set j d1) else .bad
  | none => .bad
theorem run_methM {c m : Str} {j : Nat} {ff : FMf} {gs : M (List D)} {tb : TA} (C : DCl K c) (G : MtM P w K mg base c m f fd ps j ff) (fl : Bool) (i : Nat) {st : Stt} (hb : ∀ G ρ σ H B, Rel K G own ρ σ H B → Run K Z G own (RVs K) (gs ρ) σ B (tb σ H)) (hm : m ∉ flds c) (ho : own[i]? = some st) (hst : st.isO = true) (hfl : st.fsh = fl) (hI : noIB own = true) {G' : Gam} {ρ : Env} {σ : L2.St} {H B : Hp} (R : Rel K G' own ρ σ H B) :
    Run K Z G' own (RV K) (callM c fl ff i gs ρ) σ B (tMeth (He.ga K c) m (spM K ps.length ff) [] E0 (tVar i) tb σ H) := by
  obtain ⟨a, dx, c', us, fs, ea, er, o⟩ := R.insAt ho hst
  unfold callM bnd ofC
  rw [er]
  dsimp only
  by_cases hc : c' = c
  · subst hc
    rw [if_pos rfl]
    show Run K Z G' own (RV K) ((gs ρ).bnd _) σ B _
    refine Run.imp (Run.thn (Rl2 := RV K) (p2 := fun vs H2 Q => spM K ps.length ff (.ref a :: (vs ++ [])) H2 Q E0) (hb G' ρ σ H B R) fun ds ρ1 vs H1 B1 _ e R1 l => ?_) fun Q q => ⟨.ref a, join_some ea, a, dx, _, rfl, o.hx, zip_none hm, q⟩
    obtain ⟨a', dx', c2, us', fs', ea', er', o'⟩ := R1.insAt ho hst
    rw [ea] at ea'
    cases ea'
    cases hf : ff (look ρ1 i) ds with
    | none => trivial
    | some q =>
      obtain ⟨d, d1⟩ := q
      dsimp only
      by_cases hq : (!fl || fullB d1) = true
      · rw [if_pos hq]
        intro Q q
        have la : MOk K H1 B1 a (look ρ1 i) := by rw [er']; exact ⟨dx', us', o'⟩
        refine ⟨B1, a, vs, look ρ1 i, ds, d, d1, by simp [l.len, G.ar _ _ _ hf], by simp, ⟨R1.keep.bh, R1.keep.tab⟩, la, l, hf, fun v H' B' e1 e2 e3 tb e4 l' sk r' => q v H' B' e1 (R1.changed ho (Stt.isO_own hst) ea e1 e2 e3 tb e4 l' (fun hs => ?_) ?_ (.inr (noI_of hI))) r'⟩
        · rw [hs] at hfl; subst hfl
          exact fullB_ok (by simpa using hq)
        · obtain ⟨c3, fs3, e5⟩ := sk.2 ⟨_, _, er'⟩
          rw [e5]; exact kind_ins hst _ _
      · rw [if_neg hq]; trivial
  · rw [if_neg hc]; trivial
theorem ex_methM (A : Fam F P w base) (S : Sx F K mg N vis gl k) {c m : Str} {j : Nat} {ff : FMf} {x : Str} {e : Expr} {es : List Expr} {px apos : Pos} {gs : M (List D)} (C : DCl K c) (G : MtM P w K mg base c m f fd ps j ff) (fl : Bool) (i : Nat) {st : Stt} (he : EXs F K Z own (e :: es) gs) (hj : j ≤ k := by decide) (hm : m ∉ flds c := by decide +kernel)
    (hN : N[i]? = some x := by rfl) (hv : vis[i]? = some true := by rfl) (ho : own[i]? = some st := by rfl) (hst : st.isO = true := by rfl) (hfl : st.fsh = fl := by rfl) (hI : noIB own = true := by rfl)
    (h1 : ∀ X, F X → starEach (e :: es) X.env = (false, eval e X.env) :: starEach es X.env := by intro _ _; rfl) (h2 : ∀ X, F X → ((backTo pos (starEach es X.env)).any fun q => q.1) = false := by intro _ _; rfl)
    (h3 : ∀ X, F X → ∃ pl : Sem Bool, eval (.Call (.Attribute (.Name x px) m apos) (e :: es) [] pos) X.env = (do
      let ov ← eval (.Name x px) X.env
      standAt apos.atName
      let (f, first) ← holding [ov] (getMethod ov m pl)
      callWith pos f first (backTo pos (starEach (e :: es) X.env)) (backToKw pos (keywordEach [] X.env))) := by intro _ _; exact ⟨_, rfl⟩) : EX F K Z own (.Call (.Attribute (.Name x px) m apos) (e :: es) [] pos) (callM c fl ff i gs) := by
  obtain ⟨tb, pb, hb⟩ := he
  refine ⟨tMeth (He.ga K c) m (spM K ps.length ff) [] E0 (tVar i) tb, fun X hX => let ⟨v1, v2, v3⟩ := S.vis X hX i x hv hN; (h3 X hX).elim fun pl e3 => pe_meth (pl := pl) (pe_var (by rw [S.hN X hX]; exact hN) v1 v2 v3) (by rw [S.hK X hX]; exact C.cls) (by rw [S.hK X hX]; exact G.mt) (fnAt A S hX G.ok) ((S.room X hX).mono hj) (by rw [S.hK X hX]; exact G.bd) (ds := []) (dvs := []) .nil (pass0 (X := X)) (pb X hX) (h1 X hX) (h2 X hX) e3, fun G' ρ σ H B R => run_methM C G fl i hb hm ho hst hfl hI R⟩
theorem ex_methM0 (A : Fam F P w base) (S : Sx F K mg N vis gl k) {c m : Str} {j : Nat} {ff : FMf} {x : Str} {px apos : Pos} (C : DCl K c) (G : MtM P w K mg base c m f fd ps j ff) (fl : Bool) (i : Nat) {st : Stt} (hj : j ≤ k := by decide) (hm : m ∉ flds c := by decide +kernel)
    (hN : N[i]? = some x := by rfl) (hv : vis[i]? = some true := by rfl) (ho : own[i]? = some st := by rfl) (hst : st.isO = true := by rfl) (hfl : st.fsh = fl := by rfl) (hI : noIB own = true := by rfl)
    (h3 : ∀ X, F X → ∃ pl : Sem Bool, eval (.Call (.Attribute (.Name x px) m apos) [] [] pos) X.env = (do
      let ov ← eval (.Name x px) X.env
      standAt apos.atName
      let (f, first) ← holding [ov] (getMethod ov m pl)
      callWith pos f first (backTo pos (starEach [] X.env)) (backToKw pos (keywordEach [] X.env))) := by intro _ _; exact ⟨_, rfl⟩) : EX F K Z own (.Call (.Attribute (.Name x px) m apos) [] [] pos) (callM c fl ff i nilD) := by
  refine ⟨tMeth (He.ga K c) m (spM K ps.length ff) [] E0 (tVar i) tNil, fun X hX => let ⟨v1, v2, v3⟩ := S.vis X hX i x hv hN; (h3 X hX).elim fun pl e3 => pe_meth0 (pl := pl) (pe_var (by rw [S.hN X hX]; exact hN) v1 v2 v3) (by rw [S.hK X hX]; exact C.cls) (by rw [S.hK X hX]; exact G.mt) (fnAt A S hX G.ok) ((S.room X hX).mono hj) (by rw [S.hK X hX]; exact G.bd) (ds := []) (dvs := []) .nil (pass0 (X := X)) e3, fun G' ρ σ H B R => run_methM C G fl i (fun G ρ σ H B R => Run.now R .nil fun Q q => q) hm ho hst hfl hI R⟩
/-! ### methods of plain instances with a dict -/
/-! ### making an instance with a dict -/
/-- an expression that gives a new thing -/
def EM (F : CF) (K : PySem.W.Frag) (Z : XC) (own : List Stt) (e : Expr) (g : M D) : Prop :=
  ∃ t, (∀ X, F X → PE X e t) ∧ ∀ G ρ σ H B, Rel K G own ρ σ H B → Run K Z G own (FreshM K G own σ) (g ρ) σ B (t σ H)
theorem EM.ex {e : Expr} {g : M D} (h : EM F K Z own e g) (hI : noIB own = true := by rfl) : EX F K Z own e g := by
  obtain ⟨t, pe, h⟩ := h
  refine ⟨t, pe, fun G ρ σ H B R => ?_⟩
  have := h G ρ σ H B R
  cases hg : g ρ with
  | ok d ρ1 =>
    rw [hg] at this
    intro Q q
    refine this Q fun v H' B' e R' fm => ?_
    obtain ⟨B2, e2, R2, r2⟩ := R'.freshMV fm (noI_of hI)
    exact q v H' B2 (e.trans e2) R2 r2
  | ex c fs ρ1 => rw [hg] at this; exact this
  | bad => trivial
structure ClM (P : Program) (w : World) (K : PySem.W.Frag) (mg : Str → Option Value) (base : Heap) (c : Str) (f : Addr) (fd : FuncData) (ps : List Str) (j : Nat) (fm : FMf) : Prop where
  ok : FnOk P w K mg base CX0 j f fd ps (spM K ps.length fm)
  ar : ∀ d0 ds r, fm d0 ds = some r → ds.length + 1 = ps.length
  mkr : Mk K (He.ga K c) f
  mg : mg c = some (.ref (He.ga K c))
  bd : Binds K fd ps []
def makeM (c : Str) (fm : FMf) : List D → Option D := fun ds => match fm (.ins c []) ds with
  | some (.non, .ins c' fs) => if c' = c ∧ fs.length = (flds c).length then some (.ins c fs) else none
  | _ => none
theorem makeM_some {c : Str} {fm : FMf} {ds : List D} {d : D} (h : makeM c fm ds = some d) : ∃ fs, fm (.ins c []) ds = some (.non, .ins c fs) ∧ fs.length = (flds c).length ∧ d = .ins c fs := by
  unfold makeM at h
  split at h
  · rename_i c' fs e
    split at h
    · rename_i q
      cases h
      obtain ⟨rfl, hl⟩ := q
      exact ⟨fs, e, hl, rfl⟩
    · cases h
  · cases h
theorem em_make (A : Fam F P w base) (S : Sx F K mg N vis gl k) (i : Nat) {j : Nat} {fm : FMf} {c : Str} {p pos : Pos} {e : Expr} {es : List Expr} {gs : M (List D)} (C : DCl K c) (G : ClM P w K mg base c f fd ps j fm) (ha : EXs F K Z own (e :: es) gs) (hj : j + 1 ≤ k := by decide)
    (hg : gl[i]? = some c := by rfl) (hs : ∀ X, F X → starEach (e :: es) X.env = (false, eval e X.env) :: starEach es X.env := by intro _ _; rfl) (hs2 : ∀ X, F X → ((backTo pos (starEach es X.env)).any fun q => q.1) = false := by intro _ _; rfl) :
    EM F K Z own (.Call (.Name c p) (e :: es) [] pos) (callD (makeM c fm) gs) := by
  obtain ⟨ta, pa, ha⟩ := ha
  refine ⟨tMake (He.ga K c) (spM K ps.length fm) [] E0 ta, fun X hX => let ⟨g1, g2, g3⟩ := S.gl X hX i c hg; pe_make (by rw [S.hK X hX]; exact G.mkr) (fnAt A S hX G.ok) ((S.room X hX).mono hj) g1 (by rw [S.hmg X hX]; exact G.mg) (by rw [S.hK X hX]; exact G.bd) (ds := []) (dvs := []) .nil (pass0 (X := X)) (pa X hX) g2 (hs X hX) (hs2 X hX), fun G' ρ σ H B R => ?_⟩
  refine Run.thn (p2 := fun vs H1 Q => ∀ x dx, H1 x = none → H1 dx = none → dx ≠ x → spM K ps.length fm (.ref x :: (vs ++ [])) (upd (upd H1 dx (.own x)) x (.ins (He.ga K c) dx [])) (fun v H2 => v = .non ∧ Q (.ref x) H2) E0) (ha G' ρ σ H B R) fun es ρ1 vs H1 B1 _ e R1 l => ?_
  show Run K Z G' own (FreshM K G' own σ) (ofO (makeM c fm es) ρ1) σ B1 _
  cases hf : makeM c fm es with
  | none => trivial
  | some d =>
    obtain ⟨fs, hf1, hl, rfl⟩ := makeM_some hf
    intro Q q x dx hx hdx hne
    let Hs : Hp := upd (upd H1 dx (.own x)) x (.ins (He.ga K c) dx [])
    have hsx : Hs x = some (.ins (He.ga K c) dx []) := upd_same
    have hold : ∀ b o, H1 b = some o → Hs b = some o := fun b o e => by
      show upd (upd H1 dx (.own x)) x _ b = _
      rw [upd_ne (ne_of_none e hx), upd_ne (ne_of_none e hdx)]; exact e
    have hz : (flds c).zip ([] : List V) = [] := by cases flds c <;> rfl
    have m0 : MOk K Hs B1 x (.ins c []) := ⟨dx, [], by rw [hz]; exact hsx, by show upd (upd H1 dx (.own x)) x _ dx = _; rw [upd_ne hne, upd_same], by unfold FOk; cases flds c <;> trivial, R1.keep.bh.free hx, R1.keep.bh.free hdx, C.ne, fun i j f g a _ _ h => by rw [hz] at h; simp at h⟩
    have rt0 : ∀ b, Root Hs x b → b = x ∨ b = dx := fun b r => by
      rcases r with r | ⟨_, _, _, e, r⟩
      · exact .inl r
      · rw [hsx] at e; cases e
        rcases r with r | ⟨_, _, r⟩
        · exact .inr r
        · cases r
    refine ⟨B1, x, vs, .ins c [], es, .non, .ins c fs, by simp [l.len, G.ar _ _ _ hf1], by simp, ⟨fun b o e => hold b o (R1.keep.bh b o e), tab2 R1.keep.bh R1.keep.tab hx hdx hne⟩, m0, l, hf1, fun v H' B' e1 e2 e3 tb e4 l' _ r' => ⟨by cases r'; rfl, ?_⟩⟩
    have fr : ∀ b, Root H' x b → H1 b = none := fun b r => by
      rcases e3.rt b r with r | r
      · rcases rt0 b r with rfl | rfl
        · exact hx
        · exact hdx
      · cases q : H1 b with
        | none => rfl
        | some o => exact nomatch (hold b o q).symm.trans r
    have nt : ∀ b o, H1 b = some o → isTb o = false → H' b = some o := fun b o e n => e3.h b o (hold b o e) (fun r => by
      rcases rt0 b r with rfl | rfl
      · rw [hx] at e; cases e
      · rw [hdx] at e; cases e) n
    have nw : New K B1 H1 B' H' := ⟨e1, nt, fun b o e => e3.dm b o (hold b o e), e2, fun b o e => e4 b o (hold b o e), fun Q ps e => e3.tk Q ps (hold Q _ e), fun _ => tb.th, fun _ => tb.nb⟩
    refine q _ H' B' e1 (R1.new nw) ⟨x, rfl, ⟨l', hl⟩, fun b r => ?_⟩
    obtain ⟨f1, f2⟩ := R1.free (fr b r)
    exact ⟨f1, R1.noRt (fun y o e p => nt y o e p.1) f2⟩
end
end MP
namespace MP
open PySem L2
/-! ### several expressions at once, each a plain value or a new thing; they are given to names -/
open Classical in
noncomputable def Gam.lockS (G : Gam) (S : Addr → Prop) (H0 : Hp) : Gam := { G with pr := fun b => if S b then H0 b else G.pr b }
section
variable {F : CF} {K : PySem.W.Frag} {mg : Str → Option Value} {Z : XC} {own own1 own' : List Stt} {N : List Str} {vis : List Bool} {gl : List Str} {k : Nat} {a b : Expr} {g h : M D} {pos : Pos} {G : Gam} {ρ : Env} {σ : L2.St} {H B H0 : Hp} {S : Addr → Prop}
theorem lockS_in {x : Addr} (h : S x) : (G.lockS S H0).pr x = H0 x := if_pos h
theorem lockS_out {x : Addr} (h : ¬ S x) : (G.lockS S H0).pr x = G.pr x := if_neg h
theorem Rel.lockS (R : Rel K G own ρ σ H B) (hS : ∀ b, S b → (∃ o, H b = some o ∧ plainO o) ∧ B b = none ∧ NoRt own σ H b) (hI : noI own) : Rel K (G.lockS S H) own ρ σ H B := by
  have gl : ∀ {a u}, (G.lockS S H).pr a = some u → (S a ∧ H a = some u) ∨ (¬ S a ∧ G.pr a = some u) := fun {a u} e => by
    by_cases z : S a
    · rw [lockS_in z] at e; exact .inl ⟨z, e⟩
    · rw [lockS_out z] at e; exact .inr ⟨z, e⟩
  refine ⟨⟨R.keep.bh, fun a u e => ?_, fun a u e => ?_, R.keep.b0, R.keep.fr, R.keep.dom, R.keep.old, fun a u e => ?_, R.keep.tk, R.keep.tab⟩, R.lr, R.ls, fun j st hj => ?_, R.sep⟩
  · rcases gl e with ⟨_, e⟩ | ⟨_, e⟩
    · exact e
    · exact R.keep.pr a u e
  · rcases gl e with ⟨s, _⟩ | ⟨_, e⟩
    · exact (hS a s).2.1
    · exact R.keep.prb a u e
  · rcases gl e with ⟨s, e⟩ | ⟨_, e⟩
    · obtain ⟨⟨o, q, po⟩, _⟩ := hS a s
      rw [e] at q; cases q; exact po.1
    · exact R.keep.prn a u e
  · have := R.slot j st hj
    have own1 : st.own = true → SlotOk K (G.lockS S H) H B st (σ[j]?).join (look ρ j) := fun os => by
      obtain ⟨a, e, m, _⟩ := this.mok os
      refine SlotOk.keep this os e m id id (fun b q => .inl q) fun b r g => ?_
      have z : ¬ S b := fun z => (hS b z).2.2 j st hj os ⟨a, e, r⟩
      rw [lockS_out z]; exact g
    cases st with
    | U => trivial
    | V => exact this
    | L => exact own1 rfl
    | R => exact own1 rfl
    | O => exact own1 rfl
    | M => exact own1 rfl
    | K => exact own1 rfl
    | T => exact own1 rfl
    | I => exact absurd hj (hI j)
theorem Rel.unlockS (R : Rel K (G.lockS S H0) own ρ σ H B) (hS : ∀ b, S b → G.pr b = none ∧ ∃ o, H0 b = some o) : Rel K G own ρ σ H B ∧ ∀ b, S b → H b = H0 b ∧ B b = none ∧ NoRt own σ H b := by
  have ge : ∀ a u, G.pr a = some u → (G.lockS S H0).pr a = some u := fun a u e => by
    have z : ¬ S a := fun z => by rw [(hS a z).1] at e; cases e
    rw [lockS_out z]; exact e
  have key : ∀ a, (G.lockS S H0).pr a = none → G.pr a = none := fun a e => by
    cases q : G.pr a with
    | none => rfl
    | some u => rw [ge a u q] at e; cases e
  refine ⟨⟨⟨R.keep.bh, fun a u e => R.keep.pr a u (ge a u e), fun a u e => R.keep.prb a u (ge a u e), R.keep.b0, R.keep.fr, R.keep.dom, R.keep.old, fun a u e => R.keep.prn a u (ge a u e), R.keep.tk, R.keep.tab⟩, R.lr, R.ls, fun j st hj => ?_, R.sep⟩, fun b s => ?_⟩
  · have := R.slot j st hj
    have own1 : st.own = true → SlotOk K G H B st (σ[j]?).join (look ρ j) := fun os => by
      obtain ⟨a, e, m, _⟩ := this.mok os
      exact SlotOk.keep this os e m id id (fun b q => .inl q) fun b r g => key b g
    cases st with
    | U => trivial
    | V => exact this
    | L => exact own1 rfl
    | R => exact own1 rfl
    | O => exact own1 rfl
    | M => exact own1 rfl
    | K => exact own1 rfl
    | T => exact own1 rfl
    | I => obtain ⟨y, dx, c, us, fs, q1, q2, q3, ⟨g1, g2⟩, q5⟩ := this; exact ⟨y, dx, c, us, fs, q1, q2, q3, ⟨key y g1, key dx g2⟩, q5⟩
  · obtain ⟨g1, o, e⟩ := hS b s
    have hp : (G.lockS S H0).pr b = some o := (lockS_in s).trans e
    refine ⟨(R.keep.pr b o hp).trans e.symm, R.keep.prb b o hp, fun j sj hj oj ej => ?_⟩
    obtain ⟨a, e, m, g⟩ := (R.slot j sj hj).mok oj
    rw [e] at ej
    have := (g b ej.of).1
    rw [hp] at this; cases this
/-- items: plain values and new things, apart from one another and from T -/
def Mx (K : PySem.W.Frag) (G : Gam) (own : List Stt) (σ : L2.St) (H B : Hp) : (Addr → Prop) → List Stt → List V → List D → Prop
  | _, [], [], [] => True
  | T, s :: ss, v :: vs, d :: ds => (s = .V ∧ Rep K B v d ∧ Mx K G own σ H B T ss vs ds) ∨
    ((s.fsh = true ∧ s.kind d) ∧ ∃ a, v = .ref a ∧ (MOk K H B a d ∧ Full d) ∧ (∀ b, Root H a b → ((G.pr b = none ∧ G.H b = none) ∧ NoRt own σ H b) ∧ ¬ T b) ∧ Mx K G own σ H B (fun b => T b ∨ Root H a b) ss vs ds)
  | _, _, _, _ => False
theorem Mx.len : ∀ {T : Addr → Prop} {ss : List Stt} {vs : List V} {ds : List D}, Mx K G own σ H B T ss vs ds → vs.length = ss.length ∧ ds.length = ss.length
  | _, [], [], [], _ => ⟨rfl, rfl⟩
  | T, s :: ss, v :: vs, d :: ds, h => by
    rcases h with ⟨_, _, h⟩ | ⟨_, _, _, _, _, h⟩
    · obtain ⟨a, b⟩ := Mx.len h; simp [a, b]
    · obtain ⟨a, b⟩ := Mx.len h; simp [a, b]
  | _, [], [], _ :: _, h => h.elim
  | _, [], _ :: _, _, h => h.elim
  | _, _ :: _, [], _, h => h.elim
  | _, _ :: _, _ :: _, [], h => h.elim
theorem Mx.weak {G' : Gam} (gH : G'.H = G.H) : ∀ {T T' : Addr → Prop} {ss : List Stt} {vs : List V} {ds : List D}, Mx K G own σ H B T ss vs ds → (∀ b, G.pr b = none → ¬ T b → G'.pr b = none ∧ ¬ T' b) → Mx K G' own σ H B T' ss vs ds
  | _, _, [], [], [], _, _ => trivial
  | T, T', s :: ss, v :: vs, d :: ds, h, k => by
    rcases h with ⟨e, r, h⟩ | ⟨sk, a, e, m, r, h⟩
    · exact .inl ⟨e, r, Mx.weak gH h k⟩
    · refine .inr ⟨sk, a, e, m, fun b rt => ?_, Mx.weak gH h fun b p n => ?_⟩
      · obtain ⟨⟨⟨g1, g2⟩, nr⟩, nt⟩ := r b rt
        obtain ⟨k1, k2⟩ := k b g1 nt
        exact ⟨⟨⟨k1, by rw [gH]; exact g2⟩, nr⟩, k2⟩
      · obtain ⟨k1, k2⟩ := k b p fun z => n (.inl z)
        exact ⟨k1, fun z => z.elim k2 fun z => n (.inr z)⟩
  | _, _, [], [], _ :: _, h, _ => h.elim
  | _, _, [], _ :: _, _, h, _ => h.elim
  | _, _, _ :: _, [], _, h, _ => h.elim
  | _, _, _ :: _, _ :: _, [], h, _ => h.elim
theorem Mx.set {i : Nat} {s0 : Stt} {v0 : V} : ∀ {T : Addr → Prop} {ss : List Stt} {vs : List V} {ds : List D}, Mx K G own σ H B T ss vs ds → (∀ b, s0.own = true → Rt H (some v0) b → T b) → own.length = σ.length → Mx K G (own.set i s0) (σ.set i (some v0)) H B T ss vs ds
  | _, [], [], [], _, _, _ => trivial
  | T, s :: ss, v :: vs, d :: ds, h, k, hl => by
    rcases h with ⟨e, r, h⟩ | ⟨sk, a, e, m, r, h⟩
    · exact .inl ⟨e, r, Mx.set h k hl⟩
    · refine .inr ⟨sk, a, e, m, fun b rt => ?_, Mx.set h (fun b o q => .inl (k b o q)) hl⟩
      obtain ⟨⟨g1, nr⟩, nt⟩ := r b rt
      refine ⟨⟨g1, fun j sj hj oj ej => ?_⟩, nt⟩
      rcases own_set hj with ⟨rfl, rfl, hl2⟩ | ⟨hne, hj⟩
      · rw [join_set (by rw [← hl]; exact hl2), if_pos rfl] at ej
        exact nt (k b oj ej)
      · by_cases hl2 : i < σ.length
        · rw [join_set hl2, if_neg hne] at ej; exact nr j sj hj oj ej
        · rw [List.set_eq_of_length_le (by omega)] at ej; exact nr j sj hj oj ej
  | _, [], [], _ :: _, h, _, _ => h.elim
  | _, [], _ :: _, _, h, _, _ => h.elim
  | _, _ :: _, [], _, h, _, _ => h.elim
  | _, _ :: _, _ :: _, [], h, _, _ => h.elim
theorem Mx.new {H' B' : Hp} (R : Rel K G own ρ σ H B) (n : New K B H B' H') : ∀ {T : Addr → Prop} {ss : List Stt} {vs : List V} {ds : List D}, Mx K G own σ H B T ss vs ds → Mx K G own σ H' B' T ss vs ds
  | _, [], [], [], _ => trivial
  | T, s :: ss, v :: vs, d :: ds, h => by
    rcases h with ⟨e, r, h⟩ | ⟨sk, a, e, ⟨m, f⟩, r, h⟩
    · exact .inl ⟨e, r.mono n.b, Mx.new R n h⟩
    · obtain ⟨m1, m2⟩ := m.new n
      refine .inr ⟨sk, a, e, ⟨m1, f⟩, fun b rt => ?_, Mx.weak rfl (Mx.new R n h) fun b p q => ⟨p, fun z => q (z.imp id fun z => (m2 b).mp z)⟩⟩
      obtain ⟨⟨g1, nr⟩, nt⟩ := r b ((m2 b).mp rt)
      exact ⟨⟨g1, R.noRt (fun x o e p => n.h x o e p.1) nr⟩, nt⟩
  | _, [], [], _ :: _, h => h.elim
  | _, [], _ :: _, _, h => h.elim
  | _, _ :: _, [], _, h => h.elim
  | _, _ :: _, _ :: _, [], h => h.elim
def setAll {α : Type} : List α → List Nat → List α → List α
  | l, i :: is, x :: xs => setAll (l.set i x) is xs
  | l, _, _ => l
theorem Rel.setMx : ∀ {T : Addr → Prop} {is : List Nat} {ss : List Stt} {vs : List V} {ds : List D} {own : List Stt} {ρ : Env} {σ : L2.St}, Rel K G own ρ σ H B → Mx K G own σ H B T ss vs ds → Rel K G (setAll own is ss) (setAll ρ is ds) (setAll σ is (vs.map some)) H B
  | _, is, [], [], [], own, ρ, σ, R, _ => by cases is <;> exact R
  | T, [], s :: ss, v :: vs, d :: ds, own, ρ, σ, R, h => R
  | T, i :: is, s :: ss, v :: vs, d :: ds, own, ρ, σ, R, h => by
    show Rel K G (setAll (own.set i s) is ss) (setAll (ρ.set i d) is ds) (setAll (σ.set i (some v)) is (vs.map some)) H B
    rcases h with ⟨e, r, h⟩ | ⟨⟨sk, kd⟩, a, e, m, r, h⟩
    · subst e
      exact (R.setV r).setMx (h.set (fun _ o => nomatch o) R.ls.symm)
    · subst e
      have f : FreshM K G own σ H B (.ref a) d := ⟨a, rfl, m, fun b rt => (r b rt).1⟩
      refine (R.setM f sk kd).setMx (h.set (fun b _ rt => .inr rt.of) R.ls.symm)
  | _, _, [], [], _ :: _, _, _, _, _, h => h.elim
  | _, _, [], _ :: _, _, _, _, _, _, h => h.elim
  | _, _, _ :: _, [], _, _, _, _, _, h => h.elim
  | _, _, _ :: _, _ :: _, [], _, _, _, _, h => h.elim
def EQs (F : CF) (K : PySem.W.Frag) (Z : XC) (own : List Stt) (ss : List Stt) (es : List Expr) (g : M (List D)) : Prop :=
  ∃ t, (∀ X, F X → PA X es t) ∧ ∀ G ρ σ H B, Rel K G own ρ σ H B → Run K Z G own (fun H B vs ds => Mx K G own σ H B (fun _ => False) ss vs ds) (g ρ) σ B (t σ H)
theorem eq_nil : EQs F K Z own [] [] nilD := ⟨_, fun _ _ => pa_nil, fun G ρ σ H B R => Run.now (v := ([] : List V)) R trivial fun Q q => q⟩
theorem eq_new {e : Expr} {es : List Expr} {ss : List Stt} {hs : M (List D)} (s : Stt) (ha : EM F K Z own e g) (hb : EQs F K Z own ss es hs) (kd : ∀ ρ d ρ', g ρ = .ok d ρ' → s.kind d) (hf : s.fsh = true := by rfl) (hI : noIB own = true := by rfl) (hs1 : ∀ X, F X → starEach (e :: es) X.env = (false, eval e X.env) :: starEach es X.env := by intro _ _; rfl) : EQs F K Z own (s :: ss) (e :: es) (consD g hs) := by
  obtain ⟨ta, pa, ha⟩ := ha
  obtain ⟨tb, pb, hb⟩ := hb
  refine ⟨_, fun X hX => pa_cons (pa X hX) (pb X hX) (hs1 X hX), fun G ρ σ H B R => ?_⟩
  refine Run.thn (ha G ρ σ H B R) (p2 := fun v H1 Q => tb σ H1 fun xs H2 => Q (v :: xs) H2) fun d ρ1 v H1 B1 hr e R1 f => ?_
  obtain ⟨a, rfl, ⟨m, fu⟩, rt⟩ := f
  have hS : ∀ b, Root H1 a b → (∃ o, H1 b = some o ∧ plainO o) ∧ B1 b = none ∧ NoRt own σ H1 b := fun b r => ⟨(m.has r).1, (m.has r).2, (rt b r).2⟩
  have hS2 : ∀ b, Root H1 a b → G.pr b = none ∧ ∃ o, H1 b = some o := fun b r => ⟨(rt b r).1.1, let ⟨⟨o, q, _⟩, _⟩ := m.has r; ⟨o, q⟩⟩
  have R2 := R1.lockS hS (noI_of hI)
  have run := hb _ ρ1 σ H1 B1 R2
  show Run K Z G own _ ((hs ρ1).bnd _) σ B1 _
  cases hh : hs ρ1 with
  | bad => trivial
  | ex c fs ρ2 =>
    rw [hh] at run
    exact fun hW Q => run (fun Cv dd H' B' e' R' x' => hW Cv dd H' B' e' (R'.unlockS hS2).1 x') _
  | ok ds ρ2 =>
    rw [hh] at run
    intro Q q
    refine run _ fun vs H2 B2 e2 R3 mx => ?_
    obtain ⟨R4, st⟩ := R3.unlockS hS2
    have keep : ∀ b o, Root H1 a b → H1 b = some o → H2 b = some o := fun b o r eo => (st b r).1.trans eo
    have same : ∀ b, Root H2 a b ↔ Root H1 a b := fun b => m.same (keep a · .self)
    refine q _ H2 B2 e2 R4 (.inr ⟨⟨hf, kd _ _ _ hr⟩, a, rfl, ⟨m.stay keep e2 fun b r => (st b r).2.1, fu⟩, fun b r => ?_, Mx.weak (G := G.lockS (Root H1 a) H1) (G' := G) rfl mx fun b p _ => ?_⟩)
    · have r1 := (same b).mp r
      exact ⟨⟨(rt b r1).1, (st b r1).2.2⟩, id⟩
    · by_cases z : Root H1 a b
      · rw [lockS_in z] at p
        obtain ⟨_, o, eo⟩ := hS2 b z
        rw [p] at eo; cases eo
      · rw [lockS_out z] at p
        exact ⟨p, fun w => w.elim id fun w => z ((same b).mp w)⟩
theorem EL.em {e : Expr} {g : M (List D)} (h : EL F K Z own e g) : EM F K Z own e (lstM g) := by
  obtain ⟨t, pe, h⟩ := h
  refine ⟨t, pe, fun G ρ σ H B R => ?_⟩
  exact Run.seq (Rl2 := FreshM K G own σ) (f := fun ds => ret (D.lst ds)) (p2 := fun v H1 Q => Q v H1) (h G ρ σ H B R) fun ds ρ1 v H1 B1 _ e R1 f => Run.now R1 f.m fun Q q => q
theorem kd_lst {g : M (List D)} {ρ ρ' : Env} {d : D} (h : lstM g ρ = .ok d ρ') : Stt.L.kind d := by
  unfold lstM bnd at h
  cases hg : g ρ with
  | ok ds ρ1 => rw [hg] at h; cases h; exact ⟨ds, rfl⟩
  | ex c fs ρ1 => rw [hg] at h; cases h
  | bad => rw [hg] at h; cases h
theorem eq_newL {e : Expr} {es : List Expr} {ss : List Stt} {g : M (List D)} {hs : M (List D)} (ha : EL F K Z own e g) (hb : EQs F K Z own ss es hs) (hI : noIB own = true := by rfl) (hs1 : ∀ X, F X → starEach (e :: es) X.env = (false, eval e X.env) :: starEach es X.env := by intro _ _; rfl) : EQs F K Z own (.L :: ss) (e :: es) (consD (lstM g) hs) :=
  eq_new .L ha.em hb (fun _ _ _ h => kd_lst h) rfl hI hs1
/-! ### names on the left -/
def parS (is : List Nat) (g : M (List D)) : SM := sbd g fun ds ρ => .nx (setAll ρ is ds)
/-- x, y = a, b by slots -/
theorem st_parQ {C : Ctl} {lv : List Bool} {c d : Expr} {ss : List Stt} {hs : M (List D)} (S : Sx F K mg N vis gl k) (L : Lx F N lv) (i j : Nat) {x y : Str} {px py pt pt2 : Pos} {kt k2 : Nat} (ha : EQs F K C.Z own ss [c, d] hs) (hx : ∀ X, F X → X.env.scope.names.lookup x = some .local) (hy : ∀ X, F X → X.env.scope.names.lookup y = some .local)
    (hNi : N[i]? = some x := by rfl) (hNj : N[j]? = some y := by rfl) (hij : i ≠ j := by decide) (hl : ss.length = 2 := by rfl) (ho : setAll own [i, j] ss = own' := by rfl)
    (hw : ∀ X, F X → swappedStores [.Tuple [.Name x px, .Name y py] kt pt] (.Tuple [c, d] k2 pt2) X.env = pure (some [x, y]) := by intro _ _; rfl) (hw2 : ∀ X, F X → swapsWithSole [.Tuple [.Name x px, .Name y py] kt pt] (.Tuple [c, d] k2 pt2) pos.line X.env = pure false := by intro _ _; rfl) :
    ST F K C own (.Assign [.Tuple [.Name x px, .Name y py] kt pt] (.Tuple [c, d] k2 pt2) pos) (parS [i, j] hs) own' := by
  obtain ⟨t, p, h⟩ := ha
  subst ho
  refine ⟨_, fun X hX => ps_par (i := i) (j := j) (S.calm X hX) (by rw [S.hN X hX]; exact L.nd) (by rw [S.hN X hX]; exact hNi) (by rw [S.hN X hX]; exact hNj) hij (hx X hX) (hy X hX) (p X hX) (hw X hX) (hw2 X hX), fun G ρ σ H B R => ?_⟩
  refine SRun.ofE (p2 := fun vs H1 E => ∃ v w, vs = [v, w] ∧ E.nx ((σ.set i (some v)).set j (some w)) H1) (h G ρ σ H B R) fun ds ρ1 vs H1 B1 _ e R1 mx E hE => ?_
  obtain ⟨l1, l2⟩ := mx.len
  rw [hl] at l1
  match vs, l1, mx with
  | [v, w], _, mx => exact ⟨v, w, rfl, hE _ H1 B1 Ex.rfl (R1.setMx mx)⟩
/-! ### lists of slots, where they are read at once -/
def slotL (j : Nat) : Env → Option (List D) := fun ρ => lstO (some (look ρ j))
end
end MP
/-! ### xs.extend(a list or a tuple) -/
namespace MP
open PySem PySem.Spec PyProof.Rows L2
section
variable {F : CF} {K : PySem.W.Frag} {mg : Str → Option Value} {Z : XC} {own own' : List Stt} {N : List Str} {vis : List Bool} {gl : List Str} {k : Nat} {a b c : Expr} {g h : M D} {pos : Pos} {lv : List Bool}
def extV (j : Nat) (g : M D) : SM := sbd g fun d ρ => match itemsOf d, look ρ j with
  | some ds, .lst rs => if rs.length + ds.length < 16000000 then .nx (ρ.set j (.lst (rs ++ ds))) else .bad
  | _, _ => .bad
end
end MP
namespace MP
open PySem L2
/-! ### what the head tells of classes with a dict -/
def dclB (K : PySem.W.Frag) (c : Str) : Bool := (He.Fa.cls c).ok K && (flds c).all fun f => (He.Fa.noat c f).ok K
theorem dclB_ok {K : PySem.W.Frag} {c : Str} (h : dclB K c = true) (h1 : (flds c).isEmpty = false) (h2 : (flds c).Nodup) : DCl K c := by
  obtain ⟨a, b⟩ := Bool.and_eq_true_iff.mp h
  exact ⟨He.cls_ok a, fun f hf => He.noat_ok (List.all_eq_true.mp b f hf), h1, h2⟩
theorem onIns_ar {n m : Nat} {g : SM} {d0 : D} {ds : List D} {r : D × D} (h : onIns (runM n m g) d0 ds = some r) : ds.length = m := by
  cases d0 with
  | ins c fs => exact runM_ar h
  | _ => cases h
theorem kd_make {c : Str} {fm : FMf} {gs : M (List D)} {ρ ρ' : Env} {d : D} (h : callD (makeM c fm) gs ρ = .ok d ρ') : Stt.O.kind d := by
  unfold callD bnd at h
  cases hg : gs ρ with
  | ok ds ρ1 =>
    rw [hg] at h
    change ofO (makeM c fm ds) ρ1 = _ at h
    cases hm : makeM c fm ds with
    | none => rw [hm] at h; cases h
    | some d1 =>
      rw [hm] at h
      cases h
      obtain ⟨fs, _, _, rfl⟩ := makeM_some hm
      exact ⟨c, fs, rfl⟩
  | ex c fs ρ1 => rw [hg] at h; cases h
  | bad => rw [hg] at h; cases h
end MP
/-! ### dicts by ints and texts -/
namespace MP
open PySem L2
def keyK : D → Option Key
  | .int i => some (.inl i)
  | .str s => some (.inr s)
  | _ => none
section
variable {α β : Type}
def valA (ks : List Key) (xs : List α) (k : Key) : Option α := ((ks.zip xs).find? fun p => decide (p.1 = k)).map (·.2)
def putKs (ks : List Key) (k : Key) : List Key := if k ∈ ks then ks else ks ++ [k]
def putXs (ks : List Key) (xs : List α) (k : Key) (y : α) : List α := if k ∈ ks then (ks.zip xs).map fun p => if p.1 = k then y else p.2 else xs ++ [y]
theorem valA_cons {k0 k : Key} {x : α} {ks : List Key} {xs : List α} : valA (k0 :: ks) (x :: xs) k = if k0 = k then some x else valA ks xs k := by
  unfold valA
  rw [List.zip_cons_cons, List.find?_cons]
  by_cases e : k0 = k
  · simp [e]
  · simp [e]
@[simp] theorem valA_nil {k : Key} {xs : List α} : valA [] xs k = none := rfl
end
section
variable {K : PySem.W.Frag} {B : Hp}
theorem Reps.valA : ∀ {ks : List Key} {vs : List V} {ds : List D} {k : Key} {d : D}, Reps K B vs ds → MP.valA ks ds k = some d → ∃ v, MP.valA ks vs k = some v ∧ Rep K B v d
  | [], _, _, _, _, _, h => by simp at h
  | k0 :: ks, _, _, _, _, .nil, h => by simp [MP.valA] at h
  | k0 :: ks, _, _, k, d, .cons (v := v) (d := d0) r t, h => by
    rw [valA_cons] at h ⊢
    by_cases e : k0 = k
    · rw [if_pos e] at h ⊢; cases h; exact ⟨v, rfl, r⟩
    · rw [if_neg e] at h ⊢; exact Reps.valA t h
theorem Reps.valN : ∀ {ks : List Key} {vs : List V} {ds : List D} {k : Key}, Reps K B vs ds → MP.valA ks ds k = none → MP.valA ks vs k = none
  | [], _, _, _, _, h => by simp
  | k0 :: ks, _, _, _, .nil, h => by simp [MP.valA]
  | k0 :: ks, _, _, k, .cons r t, h => by
    rw [valA_cons] at h ⊢
    by_cases e : k0 = k
    · rw [if_pos e] at h; cases h
    · rw [if_neg e] at h ⊢; exact Reps.valN t h
theorem Reps.repl {k : Key} {v : V} {d : D} (rv : Rep K B v d) : ∀ {ks : List Key} {vs : List V} {ds : List D}, Reps K B vs ds → Reps K B ((ks.zip vs).map fun p => if p.1 = k then v else p.2) ((ks.zip ds).map fun p => if p.1 = k then d else p.2)
  | [], _, _, _ => by simp; exact .nil
  | _ :: _, _, _, .nil => by simp; exact .nil
  | k0 :: ks, _, _, .cons r t => by
    simp only [List.zip_cons_cons, List.map_cons]
    refine .cons ?_ (Reps.repl rv t)
    split
    · exact rv
    · exact r
theorem Reps.put {ks : List Key} {vs : List V} {ds : List D} {k : Key} {v : V} {d : D} (rs : Reps K B vs ds) (rv : Rep K B v d) : Reps K B (putXs ks vs k v) (putXs ks ds k d) := by
  unfold putXs
  split
  · exact rs.repl rv
  · exact rs.append (.one rv)
end
/-! ### slots -/
section
variable {F : CF} {K : PySem.W.Frag} {mg : Str → Option Value} {Z : XC} {own own1 own' : List Stt} {N : List Str} {vis : List Bool} {gl : List Str} {k : Nat} {a b : Expr} {g h : M D} {pos : Pos} {G : Gam} {ρ : Env} {σ : L2.St} {H B : Hp}
/-! ### k in d -/
def inK (neg : Bool) : D → D → Option D := fun x d => match keyK x, d with
  | some k, .dk _ ks _ => some (.bl (xor neg (decide (k ∈ ks))))
  | _, _ => none
theorem Rd.mono {B H : Hp} {a : Addr} {u : HO} (e : Ex B H) (h : Rd B a u) : Rd H a u := h.imp (fun q => e _ _ q) fun ⟨o, q⟩ => ⟨o, e _ _ q⟩
/-- .. in a dict of a slot -/
def inKS (neg : Bool) (j : Nat) (g : M D) : M D := bnd g fun x ρ => ofO (inK neg x (look ρ j)) ρ
/-! ### d[k] -/
def getK : D → D → Option D := fun d x => match keyK x, d with
  | some k, .dk _ ks ds => valA ks ds k
  | _, _ => none
def getKS (j : Nat) (g : M D) : M D := bnd g fun x ρ => ofO (getK (look ρ j) x) ρ
/-! ### d.get(k, x) -/
def get2K : D → D → D → Option D := fun d x y => match keyK x, d with
  | some k, .dk _ ks ds => some ((valA ks ds k).getD y)
  | _, _ => none
def get2M (g h i : M D) : M D := bnd g fun d => bnd (ofO (isDk d)) fun d => bnd h fun x => bnd i fun y => ofO (get2K d x y)
where isDk : D → Option D
  | .dk l ks ds => some (.dk l ks ds)
  | _ => none
theorem Reps.getD {ks : List Key} {vs : List V} {ds : List D} {k0 : Key} {y : V} {dy : D} (rs : Reps K B vs ds) (ry : Rep K B y dy) : Rep K B ((MP.valA ks vs k0).getD y) ((MP.valA ks ds k0).getD dy) := by
  cases hd : MP.valA ks ds k0 with
  | none => rw [rs.valN hd]; exact ry
  | some d => obtain ⟨v, e1, r⟩ := rs.valA hd; rw [e1]; exact r
def get2S (j : Nat) (h i : M D) : M D := bnd h fun x => bnd i fun y ρ => ofO (get2K (look ρ j) x y) ρ
/-! ### d[k] = v -/
def putDS (j : Nat) (gk gv : M D) : SM := sbd gv fun d => sbd gk fun x ρ => match keyK x, look ρ j with
  | some k, .dk false ks ds => if ds.length < 16000000 then .nx (ρ.set j (.dk false (putKs ks k) (putXs ks ds k d))) else .bad
  | _, _ => .bad
end
end MP
namespace MP
open PySem PySem.Spec PyProof.Rows L2
/-! ### a dict is locked for good: it is a plain value from here on -/
section
variable {F : CF} {K : PySem.W.Frag} {mg : Str → Option Value} {Z : XC} {own own1 own' : List Stt} {N : List Str} {vis : List Bool} {gl : List Str} {k : Nat} {a b : Expr} {g h : M D} {pos : Pos} {G : Gam} {ρ : Env} {σ : L2.St} {H B : Hp}
def lkD : D → Option D
  | .dk false ks ds => some (.dk true ks ds)
  | _ => none
def lockM (g : M D) : M D := bnd g fun d => ofO (lkD d)
/-- the dict of slot j is a plain value from here on -/
def lockS (j : Nat) : SM := fun ρ => match lkD (look ρ j) with
  | some d => .nx (ρ.set j d)
  | none => .bad
/-! ### for k in d, d.values(), d.items() -/
def keyD : Key → D
  | .inl i => .int i
  | .inr s => .str s
def keysOf : D → Option (List D)
  | .dk true ks _ => some (ks.map keyD)
  | _ => none
def valsOf : D → Option (List D)
  | .dk true _ ds => some ds
  | _ => none
def itemsD : D → Option (List D)
  | .dk true ks ds => some ((ks.zip ds).map fun p => .tup [keyD p.1, p.2])
  | _ => none
theorem LkB.frz {B : Hp} {a : Addr} {u : HO} (h : LkB B a true u) : ∃ o, B a = some (.frz o u) := by
  rcases h with h | ⟨h, _⟩
  · exact h
  · cases h
def itKeys (g : M D) : M (List D) := bnd g fun d => ofO (keysOf d)
def itVals (g : M D) : M (List D) := bnd g fun d => ofO (valsOf d)
def itItems (g : M D) : M (List D) := bnd g fun d => ofO (itemsD d)
/-! ### list(d), sorted(d), len(d), dict(pairs) -/
def dkKeys : D → Option (List D)
  | .dk _ ks _ => some (ks.map keyD)
  | _ => none
def listK (g : M D) : M (List D) := bnd g fun d => ofO (dkKeys d)
/-- texts alone -/
def strKs : List Key → Option (List Str)
  | [] => some []
  | .inr s :: r => (strKs r).map (s :: ·)
  | _ :: _ => none
def intKs : List Key → Option (List Int)
  | [] => some []
  | .inl i :: r => (intKs r).map (i :: ·)
  | _ :: _ => none
def sortK : D → Option (List D)
  | .dk _ ks _ => (match strKs ks with
    | some ss => if ss.length < 64 then some ((sortS ss).map D.str) else none
    | none => (match intKs ks with
      | some is => if is.length < 64 then some ((is.mergeSort fun a b => decide (a ≤ b)).map D.int) else none
      | none => none))
  | _ => none
def sortKM (g : M D) : M (List D) := bnd g fun d => ofO (sortK d)
/-! ### len(d) -/
def lenK : List D → Option D
  | [.dk _ ks _] => some (.int ks.length)
  | _ => none
def lenKS (j : Nat) : M D := fun ρ => ofO (lenK [look ρ j]) ρ
end
end MP
namespace MP
open PySem PySem.Spec PyProof.Rows L2
/-! ### dict(pairs) -/
section
variable {α : Type}
def mrg : List (Key × α) → List Key → List α → List Key × List α
  | [], ks, xs => (ks, xs)
  | (k, x) :: r, ks, xs => mrg r (putKs ks k) (putXs ks xs k x)
end
/-- pairs of a key and a value -/
inductive RP (K : PySem.W.Frag) (B : Hp) : List (Key × V) → List (Key × D) → Prop
  | nil : RP K B [] []
  | cons {k0 : Key} {v : V} {d : D} {r : List (Key × V)} {q : List (Key × D)} : Rep K B v d → (∀ s, k0 = Sum.inr s → PyData.strOk s = true) → RP K B r q → RP K B ((k0, v) :: r) ((k0, d) :: q)
theorem RP.len {K : PySem.W.Frag} {B : Hp} : ∀ {r : List (Key × V)} {q : List (Key × D)}, RP K B r q → r.length = q.length
  | _, _, .nil => rfl
  | _, _, .cons _ _ t => congrArg (· + 1) t.len
def pairO : D → Option (Key × D)
  | .tup [x, y] => (keyK x).map fun k => (k, y)
  | _ => none
def pairsO : List D → Option (List (Key × D))
  | [] => some []
  | d :: r => (pairO d).bind fun p => (pairsO r).map (p :: ·)
def dictO : D → Option D
  | .lst ds => (match pairsO ds with
    | some ps => if ds.length < 1000000 then some (.dk false (mrg ps [] []).1 (mrg ps [] []).2) else none
    | none => none)
  | _ => none
def dictM (g : M D) : M D := bnd g fun d => ofO (dictO d)
section
variable {F : CF} {K : PySem.W.Frag} {mg : Str → Option Value} {Z : XC} {own own1 own' : List Stt} {N : List Str} {vis : List Bool} {gl : List Str} {k : Nat} {a b : Expr} {g h : M D} {pos : Pos} {G : Gam} {ρ : Env} {σ : L2.St} {H B : Hp}
/-! ### d == e, d != e -/
/-- values that are plain data -/
def PlV (K : PySem.W.Frag) (H : Hp) : List V → List PyData → Prop
  | [], [] => True
  | v :: vs, d :: ds => Dp K H v d ∧ SeqAt.shaped d = true ∧ PlV K H vs ds
  | _, _ => False
end
end MP
namespace MP
open PySem PySem.Spec PyProof.Rows L2
/-! ### == and != of dicts -/
section
variable {X : Cx} {pins : List (Addr × Obj)} {σ : L2.St} {H : Hp} {s : Shared}
theorem PlV.at {K : PySem.W.Frag} {H : Hp} : ∀ {ks : List Key} {vs : List V} {ds : List PyData} {k0 : Key} {v : V}, PlV K H vs ds → valA ks vs k0 = some v → ∃ d, valA ks ds k0 = some d ∧ Dp K H v d ∧ SeqAt.shaped d = true
  | [], _, _, _, _, _, h => by simp at h
  | _ :: _, [], _, _, _, _, h => by simp [valA] at h
  | k :: ks, v :: vs, d :: ds, k0, v0, ⟨a, b, c⟩, h => by
    rw [valA_cons] at h ⊢
    by_cases e : k = k0
    · rw [if_pos e] at h ⊢; cases h; exact ⟨d, rfl, a, b⟩
    · rw [if_neg e] at h ⊢; exact PlV.at c h
  | _ :: _, _ :: _, [], _, _, h, _ => h.elim
theorem PlV.no {K : PySem.W.Frag} {H : Hp} : ∀ {ks : List Key} {vs : List V} {ds : List PyData} {k0 : Key}, PlV K H vs ds → valA ks vs k0 = none → valA ks ds k0 = none
  | [], _, _, _, _, h => by simp
  | _ :: _, [], [], _, _, h => by simp [valA]
  | k :: ks, v :: vs, d :: ds, k0, ⟨a, b, c⟩, h => by
    rw [valA_cons] at h ⊢
    by_cases e : k = k0
    · rw [if_pos e] at h; cases h
    · rw [if_neg e] at h ⊢; exact PlV.no c h
  | _ :: _, _ :: _, [], _, h, _ => h.elim
  | _ :: _, [], _ :: _, _, h, _ => h.elim
end
/-! ### {k: v for ..} -/
def dcL (b : Bd) (c : M Bool) (gk gv : M D) (vs : List Nat) : List D → Env → List Key → List D → Res (List Key × List D)
  | [], ρ, ks, xs => .ok (ks, xs) ρ
  | d :: ds, ρ, ks, xs => match b d ρ with
    | none => .bad
    | some ρ1 => match c ρ1 with
      | .ok true ρ2 => (match gk ρ2 with
        | .ok y ρ3 => (match gv ρ3 with
          | .ok z ρ4 => (match keyK y with
            | some k => dcL b c gk gv vs ds (restore vs ρ ρ4) (putKs ks k) (putXs ks xs k z)
            | none => .bad)
          | _ => .bad)
        | _ => .bad)
      | .ok false ρ2 => dcL b c gk gv vs ds (restore vs ρ ρ2) ks xs
      | _ => .bad
def dcD (b : Bd) (it : M (List D)) (c : M Bool) (gk gv : M D) (vs : List Nat) : M D := bnd it fun ds => bnd (fun ρ => dcL b c gk gv vs ds ρ [] []) fun p => ret (.dk false p.1 p.2)
end MP
namespace MP
open PySem L2
end MP
/-! ### dicts in fields of an own instance -/
namespace MP
open PySem L2
section
variable {F : CF} {K : PySem.W.Frag} {mg : Str → Option Value} {Z : XC} {own own1 own' : List Stt} {N : List Str} {vis : List Bool} {gl : List Str} {k : Nat} {a b : Expr} {g h : M D} {pos : Pos} {P : Program} {w : World} {base : Heap} {ps : List Str} {f : Addr} {fd : FuncData}
def boxD (c : Str) (i j : Nat) : Env → Option D := fun ρ => fldD c i (look ρ j)
/-- x.f = {} -/
def setFM (c : Str) (i j : Nat) (g : M D) : SM := sbd g fun d ρ => match look ρ j with
  | .ins c' fs => if c' = c ∧ i ≤ fs.length then .nx (ρ.set j (.ins c' (putI i d fs))) else .bad
  | _ => .bad
/-- k in x.f -/
def inFD (neg : Bool) (c : Str) (i j : Nat) (g : M D) : M D := bnd g fun x ρ => ofO ((boxD c i j ρ).bind fun d => inK neg x d) ρ
/-- len(x.f), pure -/
def lenFD (c : Str) (i j : Nat) : Env → Option D := fun ρ => (boxD c i j ρ).bind fun d => lenK [d]
theorem PX.ex {e : Expr} {p : Env → Option D} (h : PX F K own e p) : EX F K Z own e (fun ρ => ofO (p ρ) ρ) := by
  obtain ⟨t, pe, h⟩ := h
  exact ⟨t, pe, fun G ρ σ H B R => Run.prim R (h G ρ σ H B R)⟩
/-- x.f[k] = v, both pure -/
def putFD (c : Str) (i j : Nat) (pk pv : Env → Option D) : SM := fun ρ => match boxD c i j ρ, pk ρ, pv ρ with
  | some (.dk false ks ds), some x, some d => (match keyK x with
    | some k => if ds.length < 16000000 then .nx (setBox i j (.dk false (putKs ks k) (putXs ks ds k d)) ρ) else .bad
    | none => .bad)
  | _, _, _ => .bad
/-- x.f.setdefault(k, v), both pure -/
def setdFD (c : Str) (i j : Nat) (pk pv : Env → Option D) : SM := fun ρ => match boxD c i j ρ, pk ρ, pv ρ with
  | some (.dk false ks ds), some x, some d => (match keyK x with
    | some k => if ds.length < 16000000 then (if k ∈ ks then .nx ρ else .nx (setBox i j (.dk false (putKs ks k) (putXs ks ds k d)) ρ)) else .bad
    | none => .bad)
  | _, _, _ => .bad
end
end MP
/-! ### != by an own __eq__ (there is no own __ne__) -/
namespace MP
open PySem PySem.Spec PySem.Calls PyProof.Rows L2
open PySem.W (Frag InstAt findIn isFn subIn)
end MP
/-! ### dict displays -/
namespace MP
open PySem L2
def keysP : List (D × D) → Option (List (Key × D))
  | [] => some []
  | p :: r => (keyK p.1).bind fun k => (keysP r).map ((k, p.2) :: ·)
def dispO (ds : List (D × D)) : Option D := match keysP ds with
  | some ps => if ds.length ≤ 15 then some (.dk false (mrg ps [] []).1 (mrg ps [] []).2) else none
  | none => none
def nilP : M (List (D × D)) := ret []
def consP (g h : M D) (r : M (List (D × D))) : M (List (D × D)) := bnd g fun x => bnd h fun y => bnd r fun ps => ret ((x, y) :: ps)
def dispM (g : M (List (D × D))) : M D := bnd g fun ds => ofO (dispO ds)
end MP
/-! ### x.pop(), x.insert(i, e) of lists of the frame's own -/
namespace MP
open PySem L2
section
variable {F : CF} {K : PySem.W.Frag} {mg : Str → Option Value} {Z : XC} {own own1 own' : List Stt} {N : List Str} {vis : List Bool} {gl : List Str} {k : Nat} {a b : Expr} {g h : M D} {pos : Pos}
theorem Reps.dropLast {B : Hp} {vs : List V} {ds : List D} (r : Reps K B vs ds) : Reps K B vs.dropLast ds.dropLast := by
  rw [List.dropLast_eq_take, List.dropLast_eq_take, r.len]
  exact r.take _
def popM (j : Nat) : M D := fun ρ => match look ρ j with
  | .lst rs => (match rs[rs.length - 1]? with
    | some y => .ok y (ρ.set j (.lst rs.dropLast))
    | none => .bad)
  | _ => .bad
end
end MP
/-! ### min(a, b), max(a, b) of two ints -/
namespace MP
open PySem L2
end MP
/-! ### x = [.. for ..], a plain value -/
namespace MP
open PySem L2
end MP
/-! ### list * int, any list value -/
namespace MP
open PySem PySem.Spec PyProof.Rows L2
theorem Reps.rep {K : PySem.W.Frag} {B : Hp} {vs : List V} {ds : List D} (r : Reps K B vs ds) : ∀ n : Nat, Reps K B (List.replicate n vs).flatten (List.replicate n ds).flatten
  | 0 => .nil
  | n + 1 => by
    rw [List.replicate_succ, List.replicate_succ, List.flatten_cons, List.flatten_cons]
    exact r.append (Reps.rep r n)
end MP
namespace MP
open PySem PySem.Spec PyProof.Rows L2 PySem.SeqAt PySem.W PySem.Calls
/-! ### sorted(t), t a tuple of data that are alike: as for a list, but that the items are those of a tuple -/
end MP
namespace MP
open PySem PySem.Spec PyProof.Rows L2
/-! ### a class called by place, some of its parameters left to their defaults; by one value and some keywords -/
/-- by place: the data that the defaults behind give -/
structure BdD (K : PySem.W.Frag) (fd : FuncData) (ps : List Str) (dds : List D) : Prop where
  ex : ∃ (dvs : List V) (ds : List Value), Binds K fd ps ds ∧ Vals dvs ds ∧ ∀ B, Reps K B dvs dds
section
variable {K : PySem.W.Frag} {x qual : Str} {params : Arguments} {body : List Stmt} {scope : Scope} {dvs : List V} {kws : List (Str × V)} {f : Addr} {fd : FuncData} {ps : List Str}
theorem FunD.bdD (F : FunD K x qual params body scope dvs kws f fd) (n j : Nat) {dds : List D} (rd : ∀ B, Reps K B dvs dds) (hd : dvs ≠ []) (hn : n + (dvs.length - j) = ps.length)
    (h : ∀ (T : Addr) (kV doc pm : Value) (an : Option Addr) (cdv ct : Value) (us its : List Value), us.length = n → its.length = dvs.length →
      ∃ k, bindArgs (PySem.W.fnOf x qual params body scope (.ref T) kV doc pm an cdv ct) ⟨us, []⟩ = seqItems? (.ref T) >>= k ∧ k (some its.toArray) = pure (ps.zip (us ++ its.drop j))) : BdD K fd ps (dds.drop j) := by
  obtain ⟨ds, h1, h2⟩ := FunD.binds1 F n j hd hn h
  exact ⟨_, ds, h2, h1, fun B => (rd B).drop j⟩
end
section
variable {F : CF} {K : PySem.W.Frag} {mg : Str → Option Value} {Z : XC} {own own1 own' : List Stt} {N : List Str} {vis : List Bool} {gl : List Str} {k : Nat} {P : Program} {w : World} {base : Heap} {ps : List Str} {f : Addr} {fd : FuncData}
theorem ex_makeB (A : Fam F P w base) (S : Sx F K mg N vis gl k) (i : Nat) {j : Nat} {fi : FI} {c : Str} {p pos : Pos} {e : Expr} {es : List Expr} {gs : M (List D)} {dds : List D} (G : ClI P w K mg base c f fd ps j fi) (hb : BdD K fd ps dds) (ha : EXs F K Z own (e :: es) gs) (hj : j + 1 ≤ k := by decide)
    (hg : gl[i]? = some c := by rfl) (hs : ∀ X, F X → starEach (e :: es) X.env = (false, eval e X.env) :: starEach es X.env := by intro _ _; rfl) (hs2 : ∀ X, F X → ((backTo pos (starEach es X.env)).any fun q => q.1) = false := by intro _ _; rfl) :
    EX F K Z own (.Call (.Name c p) (e :: es) [] pos) (callD (fun xs => makeD c fi (xs ++ dds)) gs) := by
  obtain ⟨dvs, ds, h1, h2, h3⟩ := hb.ex
  exact ex_make A S i G h1 h2 h3 ha hj hg hs hs2
end
/-- an empty tuple of the module -/
def tup0B (K : PySem.W.Frag) (a : Addr) : Bool := match K.lookup a with
  | some ⟨.type c, _, .seq its _, _⟩ => decide (c = "tuple") && decide (its.size = 0)
  | _ => false
theorem tup0B_ok {K : PySem.W.Frag} {a : Addr} (h : tup0B K a = true) (B : Hp) : Rep K B (.ref a) (.tup []) := by
  unfold tup0B at h
  cases q : K.lookup a with
  | none => rw [q] at h; cases h
  | some o =>
    obtain ⟨oc, od, dt, osl⟩ := o
    rw [q] at h
    cases oc with
    | type c =>
      cases dt with
      | seq its n =>
        simp only [Bool.and_eq_true, decide_eq_true_eq] at h
        obtain ⟨h1, h2⟩ := h
        have e : its = #[] := Array.eq_empty_of_size_eq_zero h2
        subst e
        exact .tup (vs := []) ⟨.inr ⟨_, #[], n, q, congrArg Value.type h1, rfl, by rw [sizeLine_eq]; decide, .nil⟩, fun z => by simp [allI] at z⟩ .nil (Nat.zero_le _)
      | _ => cases h
    | _ => cases dt <;> cases h
end MP
namespace MP
open PySem PySem.Spec PyProof.Rows L2 PySem.SeqAt PySem.W
open AutoSeq1 (wpAny_loadPart')
open MeetsSeq MeetsSeq2 MeetsSeq3 SeqRoads2
/-! ### == and != of lists and tuples of things with an own __eq__ -/
section
variable {prog : Program} {w : World} {A : Around} {R : Result → Shared → Prop}
/-- the operator -/
def opB (ng : Bool) : CmpOp := if ng then .NotEq else .Eq
end
/-! ### data -/
mutual
/-- without dicts; instances of one slot -/
def sq : D → Bool
  | .non | .bl _ | .int _ | .str _ => true
  | .tup ds | .lst ds => sqs ds
  | .ins c ds => (flds c).isEmpty && decide (ds.length = 1) && sqs ds
  | _ => false
def sqs : List D → Bool
  | [] => true
  | d :: ds => sq d && sqs ds
end
/-! kinds of objects -/
/-! ### comparisons -/
/-- by == or != -/
def RcO (X : Cx) (ng : Bool) (n : Nat) (f : D → D → Option Bool) : Prop := ∀ (A : Around) (pins : List (Addr × Obj)) (s : Shared) (σ : L2.St) (H B : Hp) (x y : V) (d e : D) (b : Bool) (u v : Value), Sub X n A → L2.Inv X pins σ H s → Ex B H → TabK X.K H B → RelV x u → RelV y v → Rep X.K B x d → Rep X.K B y e → f d e = some b →
  wpAny (model X.prog X.w) A (richCompare (opB ng) u v) (fun r s' => r = .bool b ∧ ∃ H' B', L2.Inv X pins σ H' s' ∧ New X.K B H B' H') X.xe s
def orE (f g : D → D → Option Bool) (d e : D) : Option Bool := (f d e).or (g d e)
section
variable {X : Cx} {n : Nat} {f g : D → D → Option Bool}
theorem EqD.or (h : EqD X n f) (h2 : EqD X n g) : EqD X n (orE f g) := fun A pins s σ H B x y d e b u v sb I bh tb rx ry rd re hf => by
  unfold orE at hf
  cases q : f d e with
  | some b' => rw [q] at hf; cases hf; exact h A pins s σ H B x y d e b u v sb I bh tb rx ry rd re q
  | none => rw [q] at hf; exact h2 A pins s σ H B x y d e b u v sb I bh tb rx ry rd re (by simpa using hf)
theorem EqD.mono {m : Nat} (h : EqD X n f) (hn : n ≤ m) : EqD X m f := fun A pins s σ H B x y d e b u v sb => h A pins s σ H B x y d e b u v (sb.mono hn)
theorem RcO.or {ng : Bool} (h : RcO X ng n f) (h2 : RcO X ng n g) : RcO X ng n (orE f g) := fun A pins s σ H B x y d e b u v sb I bh tb rx ry rd re hf => by
  unfold orE at hf
  cases q : f d e with
  | some b' => rw [q] at hf; cases hf; exact h A pins s σ H B x y d e b u v sb I bh tb rx ry rd re q
  | none => rw [q] at hf; exact h2 A pins s σ H B x y d e b u v sb I bh tb rx ry rd re (by simpa using hf)
end
end MP
namespace MP
open PySem PySem.Spec PyProof.Rows L2
/-! ### texts: join, str(n), f-strings; x += e -/
end MP
/-! ### dicts by tuples of ints -/
namespace MP
open PySem L2
instance decMemT (k : List Key) (ks : List (List Key)) : Decidable (k ∈ ks) := @List.instDecidableMemOfLawfulBEq _ instBEqOfDecidableEq inferInstance k ks
def keysI : List D → Option (List Key)
  | [] => some []
  | .int i :: ds => (keysI ds).map fun ks => .inl i :: ks
  | _ :: _ => none
def keyT : D → Option (List Key)
  | .tup (d :: ds) => keysI (d :: ds)
  | .te => some []
  | _ => none
section
variable {α β : Type}
def valT (ks : List (List Key)) (xs : List α) (k : (List Key)) : Option α := ((ks.zip xs).find? fun p => decide (p.1 = k)).map (·.2)
def putTs (ks : List (List Key)) (k : (List Key)) : List (List Key) := if k ∈ ks then ks else ks ++ [k]
def putTx (ks : List (List Key)) (xs : List α) (k : (List Key)) (y : α) : List α := if k ∈ ks then (ks.zip xs).map fun p => if p.1 = k then y else p.2 else xs ++ [y]
theorem valT_cons {k0 k : (List Key)} {x : α} {ks : List (List Key)} {xs : List α} : valT (k0 :: ks) (x :: xs) k = if k0 = k then some x else valT ks xs k := by
  unfold valT
  rw [List.zip_cons_cons, List.find?_cons]
  by_cases e : k0 = k
  · simp [e]
  · simp [e]
@[simp] theorem valT_nil {k : (List Key)} {xs : List α} : valT [] xs k = none := rfl
end
section
variable {K : PySem.W.Frag} {B : Hp}
theorem Reps.valT : ∀ {ks : List (List Key)} {vs : List V} {ds : List D} {k : (List Key)} {d : D}, Reps K B vs ds → MP.valT ks ds k = some d → ∃ v, MP.valT ks vs k = some v ∧ Rep K B v d
  | [], _, _, _, _, _, h => by simp at h
  | k0 :: ks, _, _, _, _, .nil, h => by simp [MP.valT] at h
  | k0 :: ks, _, _, k, d, .cons (v := v) (d := d0) r t, h => by
    rw [valT_cons] at h ⊢
    by_cases e : k0 = k
    · rw [if_pos e] at h ⊢; cases h; exact ⟨v, rfl, r⟩
    · rw [if_neg e] at h ⊢; exact Reps.valT t h
end
/-! ### slots -/
section
variable {F : CF} {K : PySem.W.Frag} {mg : Str → Option Value} {Z : XC} {own own1 own' : List Stt} {N : List Str} {vis : List Bool} {gl : List Str} {k : Nat} {a b : Expr} {g h : M D} {pos : Pos} {G : Gam} {ρ : Env} {σ : L2.St} {H B : Hp}
/-! ### k in d -/
def inT (neg : Bool) : D → D → Option D := fun x d => match keyT x, d with
  | some k, .dt _ ks _ => some (.bl (xor neg (decide (k ∈ ks))))
  | _, _ => none
/-- .. in a dict of a slot -/
def inTS (neg : Bool) (j : Nat) (g : M D) : M D := bnd g fun x ρ => ofO (inT neg x (look ρ j)) ρ
/-! ### d[k] -/
def getT : D → D → Option D := fun d x => match keyT x, d with
  | some k, .dt _ ks ds => valT ks ds k
  | _, _ => none
/-! ### d.get(k, x) -/
def get2T : D → D → D → Option D := fun d x y => match keyT x, d with
  | some k, .dt _ ks ds => some ((valT ks ds k).getD y)
  | _, _ => none
def get2TS (j : Nat) (h i : M D) : M D := bnd h fun x => bnd i fun y ρ => ofO (get2T (look ρ j) x y) ρ
/-! ### d[k] = v -/
def putDTS (j : Nat) (gk gv : M D) : SM := sbd gv fun d => sbd gk fun x ρ => match keyT x, look ρ j with
  | some k, .dt false ks ds => if ds.length < 16000000 then .nx (ρ.set j (.dt false (putTs ks k) (putTx ks ds k d))) else .bad
  | _, _ => .bad
/-! ### tuples that are known to be tracked -/
end
end MP
/-! ### xs.insert(i, y) -/
namespace MP
open PySem PySem.Spec PyProof.Rows L2
end MP
/-! ### sum(range(a, b)); what is never run -/
namespace MP
open PySem PySem.Spec PyProof.Rows L2
/-! ### f() -/
/-! ### tuple * int -/
end MP
/-! ### sum(xs, []), xs a list of lists -/
namespace MP
open PySem PySem.Spec PyProof.Rows L2
inductive PartsV (K : PySem.W.Frag) (H : Hp) : List V → List (List V) → Prop
  | nil : PartsV K H [] []
  | cons {b : Addr} {ps : List V} {us : List V} {pss : List (List V)} : SqL K H b ps → PartsV K H us pss → PartsV K H (.ref b :: us) (ps :: pss)
theorem PartsV.ex {K : PySem.W.Frag} {B H : Hp} (bh : Ex B H) : ∀ {us : List V} {pss : List (List V)}, PartsV K B us pss → PartsV K H us pss
  | _, _, .nil => .nil
  | _, _, .cons h t => .cons (bh.seq h) (t.ex bh)
end MP
/-! ### xs.remove(k), xs a list of ints; [.., *d.values()] -/
namespace MP
open PySem PySem.Spec PyProof.Rows L2
end MP
/-! ### [.., *d.values(), ..] -/
namespace MP
open PySem PySem.Spec PyProof.Rows L2 PySem.W
end MP
/-! ### lists of the frame's own are lent to an expression that tells a number, a text, a truth value -/
namespace MP
open PySem PySem.Spec PyProof.Rows L2
def scalB : D → Bool
  | .non | .bl _ | .int _ | .str _ => true
  | _ => false
/-- the slots stay as they are -/
def PureM {α : Type} (g : M α) : Prop := ∀ ρ d ρ1, g ρ = .ok d ρ1 → ρ1 = ρ
theorem pure_vD {i : Nat} : PureM (vD i) := fun ρ d ρ1 h => by cases h; rfl
theorem pure_kD {d : D} : PureM (kD d) := fun ρ d ρ1 h => by cases h; rfl
theorem pure_nilD : PureM nilD := fun ρ d ρ1 h => by cases h; rfl
theorem pure_bnd {α β : Type} {m : M α} {f : α → M β} (h1 : PureM m) (h2 : ∀ a, PureM (f a)) : PureM (bnd m f) := fun ρ d ρ1 h => by
  unfold bnd at h
  cases hm : m ρ with
  | ok a ρ2 =>
    rw [hm] at h
    have e := h1 ρ a ρ2 hm
    subst e
    exact h2 a ρ2 d ρ1 h
  | ex c fs ρ2 => rw [hm] at h; cases h
  | bad => rw [hm] at h; cases h
theorem pure_ret {α : Type} {a : α} : PureM (ret a) := fun ρ d ρ1 h => by cases h; rfl
theorem pure_ofO {α : Type} {o : Option α} : PureM (ofO o) := fun ρ d ρ1 h => by
  cases o with
  | some a => cases h; rfl
  | none => cases h
theorem pure_consD {g : M D} {h : M (List D)} (h1 : PureM g) (h2 : PureM h) : PureM (consD g h) := pure_bnd h1 fun _ => pure_bnd h2 fun _ => pure_ret
theorem pure_callD {f : List D → Option D} {g : M (List D)} (h : PureM g) : PureM (callD f g) := pure_bnd h fun _ => pure_ofO
end MP
/-! ### x in ys, ys.index(x): data of any depth -/
namespace MP
open PySem PySem.Spec PyProof.Rows L2
section
variable {F : CF} {K : PySem.W.Frag} {mg : Str → Option Value} {Z : XC} {own own1 own' : List Stt} {N : List Str} {vis : List Bool} {gl : List Str} {k : Nat} {a b : Expr} {g h : M D} {pos : Pos}
def isL : D → Option D
  | .lst ds => some (.lst ds)
  | _ => none
end
end MP
/-! ### list(x) of an own list; more that may be lent -/
namespace MP
open PySem PySem.Spec PyProof.Rows L2
theorem pure_op1 {f : D → Option D} {g : M D} (h : PureM g) : PureM (op1 f g) := pure_bnd h fun _ => pure_ofO
theorem pure_op2 {f : D → D → Option D} {g h : M D} (h1 : PureM g) (h2 : PureM h) : PureM (op2 f g h) := pure_bnd h1 fun _ => pure_bnd h2 fun _ => pure_ofO
theorem pure_yes : PureM yesM := pure_ret
theorem pure_itD {g : M D} (h : PureM g) : PureM (itD g) := pure_bnd h fun _ => pure_ofO
theorem restore1 (v : Nat) (d : D) (ρ : Env) : restore [v] ρ (ρ.set v d) = ρ := by
  show (ρ.set v d).set v (look ρ v) = ρ
  rw [List.set_set]
  by_cases h : v < ρ.length
  · have e : look ρ v = ρ[v] := by unfold look; rw [List.getD_eq_getElem?_getD, List.getElem?_eq_getElem h]; rfl
    rw [e]
    exact List.set_getElem_self h
  · exact List.set_eq_of_length_le (by omega)
theorem lcN_pure {v : Nat} {c : M Bool} {g : M D} (hc : PureM c) (hg : PureM g) : ∀ (ds : List D) (ρ : Env) (acc out : List D) (ρ1 : Env), lcL (bName v) c g [v] ds ρ acc = .ok out ρ1 → ρ1 = ρ
  | [], ρ, acc, out, ρ1, h => by cases h; rfl
  | d :: ds, ρ, acc, out, ρ1, h => by
    change (match c (ρ.set v d) with
      | .ok true ρ2 => (match g ρ2 with
        | .ok y ρ3 => lcL (bName v) c g [v] ds (restore [v] ρ ρ3) (acc ++ [y])
        | _ => .bad)
      | .ok false ρ2 => lcL (bName v) c g [v] ds (restore [v] ρ ρ2) acc
      | _ => .bad) = .ok out ρ1 at h
    cases hc2 : c (ρ.set v d) with
    | ok b ρ2 =>
      have e2 := hc _ _ _ hc2
      subst e2
      rw [hc2] at h
      cases b with
      | true =>
        simp only at h
        cases hg2 : g (ρ.set v d) with
        | ok y ρ3 =>
          have e3 := hg _ _ _ hg2
          subst e3
          rw [hg2] at h
          simp only [restore1] at h
          exact lcN_pure hc hg ds ρ _ out ρ1 h
        | ex c fs ρ3 => rw [hg2] at h; cases h
        | bad => rw [hg2] at h; cases h
      | false =>
        simp only [restore1] at h
        exact lcN_pure hc hg ds ρ _ out ρ1 h
    | ex c fs ρ3 => rw [hc2] at h; cases h
    | bad => rw [hc2] at h; cases h
theorem pure_lcN {v : Nat} {it : M (List D)} {c : M Bool} {g : M D} (hi : PureM it) (hc : PureM c) (hg : PureM g) : PureM (lcD (bName v) it c g [v]) := fun ρ d ρ1 h => by
  unfold lcD bnd at h
  cases hm : it ρ with
  | ok a ρ2 =>
    rw [hm] at h
    have e := hi ρ a ρ2 hm
    subst e
    exact lcN_pure hc hg a ρ2 [] d ρ1 h
  | ex c fs ρ2 => rw [hm] at h; cases h
  | bad => rw [hm] at h; cases h
theorem pure_lstM {g : M (List D)} (h : PureM g) : PureM (lstM g) := pure_bnd h fun _ => by
  intro ρ d ρ1 h
  first | exact pure_ofO ρ d ρ1 h | exact pure_ret ρ d ρ1 h
/-- texts and numbers, tuples of them, tuples of these -/
def scal1 (d : D) : Bool := scalB d || match d with
  | .tup ds => ds.all scalB
  | _ => false
def scal2 (d : D) : Bool := scal1 d || match d with
  | .tup ds => ds.all scal1
  | _ => false
section
variable {K : PySem.W.Frag} {own : List Stt} {σ : L2.St} {B1 B2 : Hp}
theorem reps_all {p : D → Bool} (hp : ∀ {v d}, p d = true → Rep K B1 v d → Rep K B2 v d) : ∀ {vs : List V} {ds : List D}, ds.all p = true → Reps K B1 vs ds → Reps K B2 vs ds
  | _, _, _, .nil => .nil
  | _, _, h, .cons r t => by
    rw [List.all_cons, Bool.and_eq_true] at h
    exact .cons (hp h.1 r) (reps_all hp h.2 t)
end
theorem pure_asB {g : M D} (h : PureM g) : PureM (asB g) := pure_bnd h fun a => by
  intro ρ d ρ1 q
  first
    | (cases a <;> first | exact pure_ret ρ d ρ1 q | exact pure_ofO ρ d ρ1 q | cases q)
end MP
/-! ### all that is the frame's own (or was handed in to be changed) is lent to an expression that does not change it -/
namespace MP
open PySem PySem.Spec PyProof.Rows L2
def vwO1 : Stt → Stt
  | .U => .U
  | .I => .I
  | _ => .V
def vwO (own : List Stt) : List Stt := own.map vwO1
def nIB (own : List Stt) : Bool := own.all fun s => !(s == .I)
def fulls (own : List Stt) (ρ : Env) : Bool := (own.zip ρ).all fun p => !p.1.own || fullB p.2
section
variable {K : PySem.W.Frag} {G : Gam} {own : List Stt} {ρ : Env} {σ : L2.St} {H B H1 B1 : Hp}
theorem fulls_at (h : fulls own ρ = true) (hl : ρ.length = own.length) {i : Nat} {st : Stt} (e : own[i]? = some st) (os : st.own = true) : Full (look ρ i) := by
  have hi := (List.getElem?_eq_some_iff.mp e).1
  have e2 : ρ[i]? = some (look ρ i) := by
    unfold look
    rw [List.getD_eq_getElem?_getD, List.getElem?_eq_getElem (by omega)]; rfl
  have e3 : (own.zip ρ)[i]? = some (st, look ρ i) := by rw [List.getElem?_zip_eq_some]; exact ⟨e, e2⟩
  have := List.all_eq_true.mp h _ (List.mem_of_getElem? e3)
  simp only [os, Bool.not_true, Bool.false_or] at this
  exact fullB_ok this
theorem nI_at (h : nIB own = true) {i : Nat} {st : Stt} (e : own[i]? = some st) : st ≠ .I := fun z => by
  have := List.all_eq_true.mp h st (List.mem_of_getElem? e)
  subst z
  cases this
theorem vwO_at {i : Nat} {st : Stt} (e : (vwO own)[i]? = some st) : ∃ s, own[i]? = some s ∧ st = vwO1 s := by
  unfold vwO at e
  rw [List.getElem?_map] at e
  obtain ⟨s, e1, e2⟩ := Option.map_eq_some_iff.mp e
  exact ⟨s, e1, e2.symm⟩
theorem vwO1_own (s : Stt) : (vwO1 s).own = false := by cases s <;> rfl
def OwnR (own : List Stt) (σ : L2.St) (H : Hp) (b : Addr) : Prop := ∃ (i : Nat) (st : Stt), own[i]? = some st ∧ st.own = true ∧ Rt H (σ[i]?).join b
theorem Rel.ownR (R : Rel K G own ρ σ H B) {b : Addr} (h : OwnR own σ H b) : (∃ o, H b = some o ∧ plainO o ∧ isTp o = false) ∧ B b = none ∧ G.pr b = none ∧ (G.H b = none ∨ G.ref b) := by
  obtain ⟨i, st, h1, os, x, ex, rx⟩ := h
  obtain ⟨a, e, m, g⟩ := (R.slot i st h1).mok os
  rw [ex] at e
  cases e
  obtain ⟨⟨o, e1, e2⟩, e3⟩ := m.has rx
  refine ⟨⟨o, e1, e2, ?_⟩, e3, g b rx⟩
  rcases m.cell with ⟨c, fs, ed⟩ | hc
  · rw [ed] at m
    obtain ⟨dx, us, oo⟩ := m
    rcases rx with rfl | ⟨C, dx', gs, e4, r⟩
    · rw [oo.hx] at e1; cases e1; rfl
    · rw [oo.hx] at e4
      cases e4
      rcases r with rfl | ⟨f, hf, mm⟩
      · rw [oo.hd] at e1; cases e1; rfl
      · obtain ⟨d, c⟩ := oo.fo.has hf mm
        exact c.ntp e1
  · have := hc.root rx
    subst this
    exact hc.ntp e1
open Classical in
noncomputable def lentO (own : List Stt) (σ : L2.St) (H B : Hp) : Hp := fun b => if OwnR own σ H b then H b else B b
open Classical in
noncomputable def backO (own : List Stt) (σ : L2.St) (H B : Hp) : Hp := fun b => if OwnR own σ H b then none else B b
open Classical in
noncomputable def lentG (own : List Stt) (σ : L2.St) (H : Hp) (G : Gam) : Gam := { G with H := fun b => if OwnR own σ H b then none else G.H b }
theorem lo_y {b : Addr} (h : OwnR own σ H b) : lentO own σ H B b = H b := if_pos h
theorem lo_n {b : Addr} (h : ¬ OwnR own σ H b) : lentO own σ H B b = B b := if_neg h
theorem bo_y {b : Addr} (h : OwnR own σ H b) : backO own σ H B b = none := if_pos h
theorem bo_n {b : Addr} (h : ¬ OwnR own σ H b) : backO own σ H B b = B b := if_neg h
theorem lg_some {b : Addr} {o : HO} (h : (lentG own σ H G).H b = some o) : ¬ OwnR own σ H b ∧ G.H b = some o := by
  by_cases z : OwnR own σ H b
  · have : (lentG own σ H G).H b = none := if_pos z
    rw [this] at h; cases h
  · have : (lentG own σ H G).H b = G.H b := if_neg z
    rw [this] at h; exact ⟨z, h⟩
theorem lg_of {b : Addr} (z : ¬ OwnR own σ H b) : (lentG own σ H G).H b = G.H b := if_neg z
theorem Rel.lendO (R : Rel K G own ρ σ H B) (hl : nIB own = true) (hf : fulls own ρ = true) : Ex B (lentO own σ H B) ∧ Rel K (lentG own σ H G) (vwO own) ρ σ H (lentO own σ H B) := by
  have no : ∀ b o, B b = some o → ¬ OwnR own σ H b := fun b o e z => by
    rw [(R.ownR z).2.1] at e
    cases e
  have eB : Ex B (lentO own σ H B) := fun b o e => by rw [lo_n (no b o e)]; exact e
  refine ⟨eB, ⟨fun b o e => ?_, R.keep.pr, fun b o e => ?_, R.keep.b0.trans eB, fun b o e n t => ?_, fun b o e => ?_, fun b o e => ?_, R.keep.prn, fun P ps e => ?_, R.keep.tab.th, R.keep.tab.on, fun b ps e => ?_, fun b vs e => ?_⟩, by simpa [vwO] using R.lr, by simpa [vwO] using R.ls, fun i st e => ?_, fun i j si sj a e1 e2 o1 _ _ _ => ?_⟩
  · by_cases q : OwnR own σ H b
    · rw [lo_y q] at e; exact e
    · rw [lo_n q] at e; exact R.keep.bh b o e
  · have n : ¬ OwnR own σ H b := fun z => by
      have e : G.pr b = some o := e
      rw [(R.ownR z).2.2.1] at e; cases e
    rw [lo_n n]; exact R.keep.prb b o e
  · exact R.keep.fr b o (lg_some e).2 n t
  · exact R.keep.dom b o (lg_some e).2
  · rw [lo_n (lg_some e).1]; exact R.keep.old b o (lg_some e).2
  · exact R.keep.tk P ps (lg_some e).2
  · by_cases q : OwnR own σ H b
    · rw [lo_y q] at e
      obtain ⟨⟨o, h1, h2, _⟩, _⟩ := R.ownR q
      rw [h1] at e; cases e; cases h2.1
    · rw [lo_n q] at e; exact R.keep.tab.nb.nt b ps e
  · by_cases q : OwnR own σ H b
    · rw [lo_y q]; exact e
    · rw [lo_n q]; exact R.keep.tab.nb.tp b vs e
  · obtain ⟨s, e1, rfl⟩ := vwO_at e
    have x := R.slot i s e1
    have nI := nI_at hl e1
    have ownC : s.own = true → SlotOk K (lentG own σ H G) H (lentO own σ H B) .V (σ[i]?).join (look ρ i) := fun os => by
      obtain ⟨a, ea, m, _⟩ := x.mok os
      exact ⟨.ref a, ea, m.rep (fulls_at hf R.lr e1 os) eB fun b r => lo_y ⟨i, s, e1, os, a, ea, r⟩⟩
    cases s with
    | U => trivial
    | V => obtain ⟨y, q1, q2⟩ := x; exact ⟨y, q1, q2.mono eB⟩
    | I => exact (nI rfl).elim
    | _ => exact ownC rfl
  · obtain ⟨s, e3, rfl⟩ := vwO_at e1
    rw [vwO1_own] at o1
    cases o1
theorem Rel.unlendO (R : Rel K G own ρ σ H B) (hl : nIB own = true) (e : Ex (lentO own σ H B) B1) (R1 : Rel K (lentG own σ H G) (vwO own) ρ σ H1 B1) : Ex B (backO own σ H B1) ∧ Rel K G own ρ σ H1 (backO own σ H B1) ∧ (∀ b, OwnR own σ H b → H1 b = H b) ∧ ∀ (i : Nat) (st : Stt) (a : Addr), own[i]? = some st → st.own = true → Rt H1 (σ[i]?).join a → Rt H (σ[i]?).join a := by
  have no : ∀ b o, B b = some o → ¬ OwnR own σ H b := fun b o e z => by
    rw [(R.ownR z).2.1] at e
    cases e
  have eB : Ex B (lentO own σ H B) := fun b o e => by rw [lo_n (no b o e)]; exact e
  have eB1 : Ex B (backO own σ H B1) := fun b o q => by rw [bo_n (no b o q)]; exact e b o (eB b o q)
  have at1 : ∀ {b : Addr}, OwnR own σ H b → ∀ o, H b = some o → H1 b = some o := fun {b} z o hv => R1.keep.bh b _ (e b _ ((lo_y z).trans hv))
  have at2 : ∀ b, OwnR own σ H b → H1 b = H b := fun b z => by
    obtain ⟨⟨o, h1, _⟩, _⟩ := R.ownR z
    rw [h1]; exact at1 z o h1
  have key : ∀ (i : Nat) (st : Stt) (a : Addr), own[i]? = some st → st.own = true → Rt H1 (σ[i]?).join a → Rt H (σ[i]?).join a := fun i s a e1 o1 r1 => by
    obtain ⟨y, ea, m, _⟩ := (R.slot i s e1).mok o1
    obtain ⟨z, ez, rz⟩ := r1
    rw [ea] at ez
    cases ez
    exact ⟨y, ea, (m.same fun o q => at1 ⟨i, s, e1, o1, y, ea, .self⟩ o q).mp rz⟩
  refine ⟨eB1, ⟨⟨fun b o q => ?_, R1.keep.pr, fun b o q => ?_, R.keep.b0.trans eB1, fun b o q n t => ?_, fun b o q => ?_, fun b o q => ?_, R.keep.prn, fun P ps q => ?_, R1.keep.tab.th, R1.keep.tab.on, fun b ps q => ?_, fun b vs q => ?_⟩, R.lr, R.ls, fun i st q => ?_, fun i j si sj a e1 e2 o1 o2 r1 r2 => R.sep i j si sj a e1 e2 o1 o2 (key i si a e1 o1 r1) (key j sj a e2 o2 r2)⟩, at2, key⟩
  · by_cases z : OwnR own σ H b
    · rw [bo_y z] at q; cases q
    · rw [bo_n z] at q; exact R1.keep.bh b o q
  · by_cases z : OwnR own σ H b
    · exact bo_y z
    · rw [bo_n z]; exact R1.keep.prb b o q
  · by_cases z : OwnR own σ H b
    · rcases (R.ownR z).2.2.2 with w | w
      · rw [w] at q; cases q
      · exact (n w).elim
    · exact R1.keep.fr b o ((lg_of z).trans q) n t
  · by_cases z : OwnR own σ H b
    · obtain ⟨⟨o', h1, _⟩, _⟩ := R.ownR z
      exact ⟨o', at1 z o' h1⟩
    · exact R1.keep.dom b o ((lg_of z).trans q)
  · by_cases z : OwnR own σ H b
    · rw [bo_y z, ← R.keep.old b o q, (R.ownR z).2.1]
    · rw [bo_n z]; exact R1.keep.old b o ((lg_of z).trans q)
  · by_cases z : OwnR own σ H P
    · obtain ⟨ps', w⟩ := R.keep.tk P ps q
      obtain ⟨⟨o', h1, h2, _⟩, _⟩ := R.ownR z
      rw [w] at h1; cases h1; cases h2.1
    · exact R1.keep.tk P ps ((lg_of z).trans q)
  · by_cases z : OwnR own σ H b
    · rw [bo_y z] at q; cases q
    · rw [bo_n z] at q; exact R1.keep.tab.nb.nt b ps q
  · by_cases z : OwnR own σ H b
    · obtain ⟨⟨o', h1, _, h3⟩, _⟩ := R.ownR z
      rw [at1 z o' h1] at q
      cases q; cases h3
    · rw [bo_n z]; exact R1.keep.tab.nb.tp b vs q
  · have x := R.slot i st q
    have nI := nI_at hl q
    have ownC : st.own = true → SlotOk K G H1 (backO own σ H B1) st (σ[i]?).join (look ρ i) := fun os => by
      obtain ⟨a, ea, m, _⟩ := x.mok os
      have kk : ∀ b o, Root H a b → H b = some o → H1 b = some o := fun b o r w => at1 ⟨i, st, q, os, a, ea, r⟩ o w
      exact SlotOk.keep x os ea (m.stay kk eB1 fun b r => bo_y ⟨i, st, q, os, a, ea, r⟩) id id (fun b r => .inl ((m.same fun o w => kk a o .self w).mp r)) fun _ _ w => w
    cases st with
    | U => trivial
    | V => obtain ⟨y, q1, q2⟩ := x; exact ⟨y, q1, q2.mono eB1⟩
    | I => exact (nI rfl).elim
    | _ => exact ownC rfl
/-- what is lent is no tuple -/
theorem Rel.lessO (R : Rel K G own ρ σ H B) (e : Ex (lentO own σ H B) B1) : ∀ a, backO own σ H B1 a = B1 a ∨ ∃ o, B1 a = some o ∧ isTp o = false ∧ isFz o = false := fun a => by
  by_cases z : OwnR own σ H a
  · obtain ⟨⟨o, h1, h2, h3⟩, _⟩ := R.ownR z
    exact .inr ⟨o, e a o ((lo_y z).trans h1), h3, h2.2⟩
  · exact .inl (bo_n z)
end
section
variable {K : PySem.W.Frag} {B1 B2 : Hp}
def LessO (B1 B2 : Hp) : Prop := ∀ a, B2 a = B1 a ∨ ∃ o, B1 a = some o ∧ isTp o = false ∧ isFz o = false
theorem tq_lessO (h : LessO B1 B2) {a : Addr} {vs : List V} (t : TqT K B1 a vs) : TqT K B2 a vs := by
  have k1 : ∀ xs, B1 a = some (.tup xs) → B2 a = some (.tup xs) := fun xs e => by
    rcases h a with q | ⟨o, q, q2, _⟩
    · rw [q]; exact e
    · rw [q] at e; cases e; cases q2
  have k2 : ∀ o xs, B1 a = some (.frz o (.tup xs)) → B2 a = some (.frz o (.tup xs)) := fun o xs e => by
    rcases h a with q | ⟨o', q, _, q2⟩
    · rw [q]; exact e
    · rw [q] at e; cases e; cases q2
  refine ⟨?_, fun q => k1 _ (t.2 q)⟩
  rcases t.1 with (e | ⟨o, e⟩) | e
  · exact .inl (.inl (k1 _ e))
  · exact .inl (.inr ⟨o, k2 _ _ e⟩)
  · exact .inr e
theorem rep_scO {v : V} {d : D} (hd : scalB d = true) (r : Rep K B1 v d) : Rep K B2 v d := by
  cases r <;> first | exact Rep.non | exact Rep.bl _ | exact Rep.int _ | (rename_i hs; exact Rep.str _ hs) | cases hd
theorem rep_s1O (h : LessO B1 B2) {v : V} {d : D} (hd : scal1 d = true) (r : Rep K B1 v d) : Rep K B2 v d := by
  unfold scal1 at hd
  cases r with
  | tup t rs hz => exact .tup (tq_lessO h t) (reps_all (fun a b => rep_scO a b) (by simpa [scalB] using hd) rs) hz
  | non => exact .non
  | bl b => exact .bl b
  | int b => exact .int b
  | str s q => exact .str s q
  | _ => simp [scalB] at hd
theorem rep_s2O (h : LessO B1 B2) {v : V} {d : D} (hd : scal2 d = true) (r : Rep K B1 v d) : Rep K B2 v d := by
  unfold scal2 at hd
  rw [Bool.or_eq_true] at hd
  rcases hd with hd | hd
  · exact rep_s1O h hd r
  · cases r with
    | tup t rs hz => exact .tup (tq_lessO h t) (reps_all (fun a b => rep_s1O h a b) hd rs) hz
    | _ => cases hd
end
def sclL (own : List Stt) (g : M (List D)) : M (List D) := fun ρ => if fulls own ρ = true then (match g ρ with
  | .ok ds _ => if ds.all scal2 = true then .ok ds ρ else .bad
  | _ => .bad) else .bad
theorem sclL_ok {own : List Stt} {g : M (List D)} {ρ ρ1 : Env} {ds : List D} (hf : fulls own ρ = true) (h : g ρ = .ok ds ρ1) (hd : ds.all scal2 = true) : sclL own g ρ = .ok ds ρ := by
  unfold sclL
  rw [if_pos hf, h]
  exact if_pos hd
section
variable {F : CF} {K : PySem.W.Frag} {Z : XC} {own : List Stt} {e : Expr}
theorem el_lendO {g : M (List D)} (own1 : List Stt) (h : EL F K Z own1 e g) (hl : nIB own = true := by rfl) (ho : own1 = vwO own := by rfl) (hp : PureM g) : EL F K Z own e (sclL own g) := by
  subst ho
  obtain ⟨t, p, h⟩ := h
  refine ⟨t, p, fun G ρ σ H B R => ?_⟩
  unfold sclL
  by_cases hf : fulls own ρ = true
  · rw [if_pos hf]
    obtain ⟨e1, R1⟩ := R.lendO hl hf
    have r := h _ ρ σ H _ R1
    cases hg : g ρ with
    | ok ds ρ1 =>
      rw [hg] at r
      have er := hp ρ ds ρ1 hg
      subst er
      simp only
      split
      · rename_i hd
        intro Q q
        refine r Q fun v H1 B1 e2 R2 l => ?_
        obtain ⟨e3, R3, at2, key⟩ := R.unlendO hl e2 R2
        obtain ⟨a, rfl, ⟨vs, h1, h2, h3, h4⟩, ⟨g1, g2⟩, nr⟩ := l
        have na : ¬ OwnR own σ H a := fun z => by
          obtain ⟨⟨o, w, _⟩, _⟩ := R.ownR z
          have := e2 a o ((lo_y z).trans w)
          rw [h4] at this; cases this
        refine q _ H1 _ e3 R3 ⟨a, rfl, ⟨vs, h1, reps_all (fun x y => rep_s2O (R.lessO e2) x y) hd h2, h3, ?_⟩, ⟨g1, ?_⟩, ?_⟩
        · rw [bo_n na]; exact h4
        · rw [← lg_of (G := G) na]; exact g2
        · exact fun i st hi os r => na ⟨i, st, hi, os, key i st a hi os r⟩
      · trivial
    | ex c fs ρ1 => trivial
    | bad => trivial
  · rw [if_neg hf]; trivial
end
end MP
/-! ### xs[i] += n, self.xs[i] += n; [x] * n as a new list -/
namespace MP
open PySem PySem.Spec PyProof.Rows L2
end MP
/-! ### x = [.. for ..] on one line, while all own things are lent -/
namespace MP
open PySem L2
/-- comprehensions by pairs are pure -/
theorem pure_of_restore {b : Bd} {vs : List Nat} (hb : ∀ d ρ ρ1, b d ρ = some ρ1 → restore vs ρ ρ1 = ρ) {c : M Bool} {g : M D} (hc : PureM c) (hg : PureM g) : ∀ (ds : List D) (ρ : Env) (acc out : List D) (ρ1 : Env), lcL b c g vs ds ρ acc = .ok out ρ1 → ρ1 = ρ
  | [], ρ, acc, out, ρ1, h => by cases h; rfl
  | d :: ds, ρ, acc, out, ρ1, h => by
    unfold lcL at h
    cases hb2 : b d ρ with
    | none => rw [hb2] at h; cases h
    | some ρ0 =>
      rw [hb2] at h
      dsimp only at h
      have e0 := hb d ρ ρ0 hb2
      cases hc2 : c ρ0 with
      | ok t ρ2 =>
        have e2 := hc _ _ _ hc2
        subst e2
        rw [hc2] at h
        cases t with
        | true =>
          dsimp only at h
          cases hg2 : g ρ2 with
          | ok y ρ3 =>
            have e3 := hg _ _ _ hg2
            subst e3
            rw [hg2] at h
            simp only [e0] at h
            exact pure_of_restore hb hc hg ds ρ _ out ρ1 h
          | ex c fs ρ3 => rw [hg2] at h; cases h
          | bad => rw [hg2] at h; cases h
        | false =>
          simp only [e0] at h
          exact pure_of_restore hb hc hg ds ρ _ out ρ1 h
      | ex c fs ρ3 => rw [hc2] at h; cases h
      | bad => rw [hc2] at h; cases h
theorem pure_zipM {g : M (List D)} (h : PureM g) : PureM (zipM g) := pure_bnd h fun _ => by
  intro ρ d ρ1 q
  first | exact pure_ofO ρ d ρ1 q | (split at q <;> first | exact pure_ofO ρ d ρ1 q | cases q)
theorem pure_lcP {i j : Nat} {it : M (List D)} {c : M Bool} {g : M D} (hij : i ≠ j) (hi : PureM it) (hc : PureM c) (hg : PureM g) : PureM (lcD (bTup 2 (bCons (bName i) (bCons (bName j) bNil))) it c g [i, j]) := fun ρ d ρ1 h => by
  unfold lcD bnd at h
  cases hm : it ρ with
  | ok a ρ2 =>
    rw [hm] at h
    have e := hi ρ a ρ2 hm
    subst e
    refine pure_of_restore (fun d ρ ρ1 hb => ?_) hc hg a ρ2 [] d ρ1 h
    have slk : ∀ (ρ : Env) (v : Nat), ρ.set v (look ρ v) = ρ := fun ρ v => by
      have := restore1 v (look ρ v) ρ
      change (ρ.set v (look ρ v)).set v (look ρ v) = ρ at this
      rwa [List.set_set] at this
    have key : ∀ x y : D, restore [i, j] ρ ((ρ.set i x).set j y) = ρ := fun x y => by
      show (((ρ.set i x).set j y).set i (look ρ i)).set j (look ρ j) = ρ
      rw [List.set_comm _ _ (Ne.symm hij), List.set_set, List.set_set, slk, slk]
    have h2 : ∃ x y, ρ1 = (ρ.set i x).set j y := by
      cases d with
      | tup ds =>
        change (if ds.length = 2 then bCons (bName i) (bCons (bName j) bNil) ds ρ else none) = some ρ1 at hb
        by_cases hl : ds.length = 2
        · rw [if_pos hl] at hb
          match ds, hl with
          | [x, y], _ => exact ⟨x, y, (Option.some.inj hb).symm⟩
        · rw [if_neg hl] at hb; cases hb
      | _ => cases hb
    obtain ⟨x, y, rfl⟩ := h2
    exact key x y
  | ex c fs ρ2 => rw [hm] at h; cases h
  | bad => rw [hm] at h; cases h
end MP
/-! ### min(a, b) of two data that are alike (tuples) -/
namespace MP
open PySem PySem.Spec PyProof.Rows L2 PySem.SeqAt PySem.W
end MP
/-! ### {k: v for ..} with tuples as keys -/
namespace MP
open PySem PySem.Spec PyProof.Rows L2
/-! ### list(d) -/
end MP
/-! ### d.update(pairs), tuples as keys -/
namespace MP
open PySem PySem.Spec PyProof.Rows L2
end MP
namespace MP
open PySem PySem.Spec PyProof.Rows L2
end MP
/-! ### x = {k: v for ..} with ints or texts as keys, on one line -/
namespace MP
open PySem PySem.Spec PyProof.Rows L2
end MP
namespace MP
open PySem PySem.Spec PyProof.Rows L2 PySem.SeqAt PySem.W PySem.Calls
/-! ### sorted(d), d a dict by tuples -/
end MP
namespace MP
open PySem PySem.Spec PyProof.Rows L2
/-! ### {k: v}, k a tuple -/
end MP
namespace MP
open PySem PySem.Spec PyProof.Rows L2
/-! ### tuples that are known to have no dict: tuple(xs), t.count(x) -/
/-! t.count(x) -/
end MP
/-! ### text.split(sep) -/
namespace MP
open PySem PySem.Spec PyProof.Rows L2
end MP
namespace MP
open PySem PySem.Spec PyProof.Rows L2
/-! ### try: several clauses, with names and without -/
end MP
namespace MP
open PySem PySem.Spec PyProof.Rows L2
/-! ### defs that may raise: what they end with -/
inductive Out where
  | v (d : D) | x (c : Str) (fs : List (Str × D))
def OutOk (K : PySem.W.Frag) (B H : Hp) (Q : VK) (E : XK) : Option Out → Prop
  | some (.v d) => ∀ v H' B', New K B H B' H' → Rep K B' v d → Q v H'
  | some (.x c fs) => ∀ Cv dd H' B', New K B H B' H' → RepX K B' Cv dd c fs → E Cv dd H'
  | none => False
/-! ### the contexts -/
/-! ### a def's promise -/
/-! ### calls -/
def outM (o : Option Out) : M D := fun ρ => match o with
  | some (.v d) => .ok d ρ
  | some (.x c fs) => .ex c fs ρ
  | none => .bad
section
variable {F : CF} {K : PySem.W.Frag} {mg : Str → Option Value} {Z : XC} {own own1 own' : List Stt} {N : List Str} {vis : List Bool} {gl : List Str} {k : Nat} {P : Program} {w : World} {base : Heap} {ps : List Str} {f : Addr} {fd : FuncData}
/-- what a call ends with -/
theorem Run.out {G : Gam} {ρ : Env} {σ : L2.St} {H B : Hp} {o : Option Out} {p : (V → Hp → Prop) → Prop} (R : Rel K G own ρ σ H B) (hz : leB Z.own own = true) (h : ∀ Q : VK, OutOk K B H Q (fun cls d H' => Z.W cls d σ H') o → p Q) : Run K Z G own (RV K) (outM o ρ) σ B p := by
  cases o with
  | none => trivial
  | some o =>
    cases o with
    | v d => exact fun Q q => h Q fun v H' B' n r => q v H' B' n.b (R.new n) r
    | x c fs => exact fun hW Q => h Q fun Cv dd H' B' n r => hW Cv dd H' B' n.b ((R.new n).less hz) r
/-! ### raise -/
end
/-! ### methods of instances with slots; making them -/
end MP
namespace MP
open PySem PySem.Spec PyProof.Rows L2
/-! ### a lambda without parameters that reads the maker's names: its making -/
/-! ### .. its body, entered at s: the slots are the maker's -/
end MP
namespace MP
open PySem PySem.Spec PyProof.Rows L2
/-! ### an __init__ that may raise -/
end MP
namespace MP
open PySem PySem.Spec PyProof.Rows L2
/-! ### clauses -/
/-! ### try in a def -/
end MP
namespace MP
open PySem PySem.Spec PyProof.Rows L2
/-! ### told(lambda: ..): what a def makes of what it calls -/
/-! ### the call -/
end MP
namespace MP
open PySem PySem.Spec PyProof.Rows L2
/-! ### what the generator asks -/
end MP
namespace MP
open PySem L2
/-! ### a thing of the frame's own is laid aside: what is done meanwhile leaves it as it is -/
section
variable {K : PySem.W.Frag} {G : Gam} {own own' : List Stt} {ρ ρ1 : Env} {σ : L2.St} {H B H1 B1 : Hp}
open Classical in
noncomputable def Gam.hold (G : Gam) (H : Hp) (a : Addr) : Gam := { G with pr := fun b => if Root H a b then H b else G.pr b }
theorem hold_no {a b : Addr} (h : (G.hold H a).pr b = none) (hm : ∀ b, Root H a b → ∃ o, H b = some o) : ¬ Root H a b ∧ G.pr b = none := by
  classical
  unfold Gam.hold at h
  dsimp only at h
  by_cases r : Root H a b
  · rw [if_pos r] at h
    obtain ⟨o, e⟩ := hm b r
    rw [e] at h; cases h
  · rw [if_neg r] at h; exact ⟨r, h⟩
theorem hold_at {a b : Addr} (r : Root H a b) : (G.hold H a).pr b = H b := by
  classical
  unfold Gam.hold
  dsimp only
  rw [if_pos r]
theorem hold_off {a b : Addr} (r : ¬ Root H a b) : (G.hold H a).pr b = G.pr b := by
  classical
  unfold Gam.hold
  dsimp only
  rw [if_neg r]
theorem Rel.hide (R : Rel K G own ρ σ H B) {j : Nat} {st : Stt} {a : Addr} (hj : own[j]? = some st) (hs : st.own = true) (ha : (σ[j]?).join = some (.ref a)) (nI : noI own) : Rel K (G.hold H a) (own.set j .U) ρ σ H B := by
  obtain ⟨a', ea, m, g⟩ := (R.slot j st hj).mok hs
  rw [ha] at ea; cases ea
  have apart : ∀ (i : Nat) (si : Stt) (b : Addr), own[i]? = some si → si.own = true → i ≠ j → Rt H (σ[i]?).join b → ¬ Root H a b := fun i si b hi oi ne rt z => ne (R.sep i j si st b hi hj oi hs rt ⟨a, ha, z⟩)
  refine ⟨⟨R.keep.bh, fun b o e => ?_, fun b o e => ?_, R.keep.b0, R.keep.fr, R.keep.dom, R.keep.old, fun b o e => ?_, R.keep.tk, R.keep.tab⟩, by simpa using R.lr, by simpa using R.ls, fun i si hi => ?_, fun i k si sk b hi hk oi ok ei ek => ?_⟩
  · by_cases r : Root H a b
    · rw [hold_at r] at e; exact e
    · rw [hold_off r] at e; exact R.keep.pr b o e
  · by_cases r : Root H a b
    · exact (m.has r).2
    · rw [hold_off r] at e; exact R.keep.prb b o e
  · by_cases r : Root H a b
    · rw [hold_at r] at e
      obtain ⟨⟨o', e', p⟩, _⟩ := m.has r
      rw [e] at e'; cases e'; exact p.1
    · rw [hold_off r] at e; exact R.keep.prn b o e
  · rcases own_set hi with ⟨rfl, rfl, _⟩ | ⟨ne, hi⟩
    · trivial
    · have x := R.slot i si hi
      have own1 : si.own = true → SlotOk K (G.hold H a) H B si (σ[i]?).join (look ρ i) := fun os => by
        obtain ⟨y, ey, my, gy⟩ := x.mok os
        exact SlotOk.keep (G' := G.hold H a) x os ey my id id (fun b q => .inl q) (fun b q z => by rw [hold_off (apart i si b hi os ne ⟨y, ey, q⟩)]; exact z) rfl rfl rfl
      cases si with
      | U => trivial
      | V => exact x
      | I => exact absurd hi (nI i)
      | _ => exact own1 rfl
  · rcases own_set hi with ⟨rfl, rfl, _⟩ | ⟨_, hi⟩
    · cases oi
    · rcases own_set hk with ⟨rfl, rfl, _⟩ | ⟨_, hk⟩
      · cases ok
      · exact R.sep i k si sk b hi hk oi ok ei ek
/-- .. and taken up again -/
theorem Rel.show (R : Rel K G own ρ σ H B) {j : Nat} {st : Stt} {a : Addr} (hj : own[j]? = some st) (hs : st.own = true) (ha : (σ[j]?).join = some (.ref a)) (nI : noI own) (e : Ex B B1) (R1 : Rel K (G.hold H a) (own.set j .U) ρ1 σ H1 B1) : Rel K G own (ρ1.set j (look ρ j)) σ H1 B1 := by
  obtain ⟨a', ea, m, g⟩ := (R.slot j st hj).mok hs
  rw [ha] at ea; cases ea
  have hm : ∀ b, Root H a b → ∃ o, H b = some o := fun b r => let ⟨⟨o, q, _⟩, _⟩ := m.has r; ⟨o, q⟩
  have stay : ∀ b o, Root H a b → H b = some o → H1 b = some o := fun b o r q => R1.keep.pr b o (by rw [hold_at r]; exact q)
  have gone : ∀ b, Root H a b → B1 b = none := fun b r => let ⟨o, q⟩ := hm b r; R1.keep.prb b o (by rw [hold_at r]; exact q)
  have m1 : MOk K H1 B1 a (look ρ j) := m.stay (fun b o r q => stay b o r q) e gone
  have same : ∀ b, Root H1 a b ↔ Root H a b := fun b => m.same fun o q => stay a o .self q
  have hl : j < ρ1.length := by rw [R1.lr, List.length_set]; exact R.own_lt hj
  have oth : ∀ (i : Nat) (si : Stt), own[i]? = some si → i ≠ j → (own.set j .U)[i]? = some si := fun i si hi ne => by rw [List.getElem?_set_ne (fun z => ne z.symm)]; exact hi
  have off : ∀ (i : Nat) (si : Stt) (b : Addr), own[i]? = some si → si.own = true → i ≠ j → Rt H1 (σ[i]?).join b → ¬ Root H a b ∧ G.pr b = none := fun i si b hi oi ne ⟨y, ey, r⟩ => by
    obtain ⟨y', ey', my, gy⟩ := (R1.slot i si (oth i si hi ne)).mok oi
    rw [ey] at ey'; cases ey'
    exact hold_no (gy b r).1 hm
  refine ⟨⟨R1.keep.bh, fun b o q => R1.keep.pr b o (by rw [hold_off (fun r => by rw [(g b r).1] at q; cases q)]; exact q), fun b o q => R1.keep.prb b o (by rw [hold_off (fun r => by rw [(g b r).1] at q; cases q)]; exact q), R1.keep.b0, R1.keep.fr, R1.keep.dom, R1.keep.old, R.keep.prn, R1.keep.tk, R1.keep.tab⟩,
    by rw [List.length_set, R1.lr, List.length_set], by rw [R1.ls, List.length_set], fun i si hi => ?_, fun i k si sk b hi hk oi ok ei ek => ?_⟩
  · rw [look_set hl]
    by_cases z : i = j
    · subst z
      rw [if_pos rfl]
      rw [hj] at hi; cases hi
      exact SlotOk.keep (G' := G) (R.slot i st hj) hs ha m1 id id (fun b q => .inl ((same b).mp q)) (fun b q z => z) rfl rfl rfl
    · rw [if_neg z]
      have x := R1.slot i si (oth i si hi z)
      have own1 : si.own = true → SlotOk K G H1 B1 si (σ[i]?).join (look ρ1 i) := fun os => by
        obtain ⟨y, ey, my, gy⟩ := x.mok os
        exact SlotOk.keep (G := G.hold H a) (G' := G) x os ey my id id (fun b q => .inl q) (fun b q _ => (off i si b hi os z ⟨y, ey, q⟩).2) rfl rfl rfl
      cases si with
      | U => trivial
      | V => exact x
      | I => exact absurd hi (nI i)
      | _ => exact own1 rfl
  · by_cases zi : i = j
    · subst zi
      by_cases zk : k = i
      · exact zk.symm
      · obtain ⟨y, ey, r⟩ := ei
        rw [ha] at ey; cases ey
        exact absurd ((same b).mp r) (off k sk b hk ok zk ek).1
    · by_cases zk : k = j
      · subst zk
        obtain ⟨y, ey, r⟩ := ek
        rw [ha] at ey; cases ey
        exact absurd ((same b).mp r) (off i si b hi oi zi ei).1
      · exact R1.sep i k si sk b (oth i si hi zi) (oth k sk hk zk) oi ok ei ek
/-- a new thing made meanwhile is new to all -/
theorem FreshM.show (R : Rel K G own ρ σ H B) {j : Nat} {st : Stt} {a : Addr} {v : V} {d : D} (hj : own[j]? = some st) (hs : st.own = true) (ha : (σ[j]?).join = some (.ref a)) (e : Ex B B1) (R1 : Rel K (G.hold H a) (own.set j .U) ρ1 σ H1 B1) (f : FreshM K (G.hold H a) (own.set j .U) σ H1 B1 v d) : FreshM K G own σ H1 B1 v d := by
  obtain ⟨a', ea, m, g⟩ := (R.slot j st hj).mok hs
  rw [ha] at ea; cases ea
  have hm : ∀ b, Root H a b → ∃ o, H b = some o := fun b r => let ⟨⟨o, q, _⟩, _⟩ := m.has r; ⟨o, q⟩
  have same : ∀ b, Root H1 a b ↔ Root H a b := fun b => m.same fun o q => R1.keep.pr a o (by rw [hold_at .self]; exact q)
  obtain ⟨p, rfl, mf, hf⟩ := f
  refine ⟨p, rfl, mf, fun b r => ?_⟩
  obtain ⟨⟨g1, g2⟩, n⟩ := hf b r
  obtain ⟨nr, gp⟩ := hold_no g1 hm
  refine ⟨⟨gp, g2⟩, fun i si hi oi rt => ?_⟩
  by_cases z : i = j
  · subst z
    obtain ⟨y, ey, q⟩ := rt
    rw [ha] at ey; cases ey
    exact nr ((same b).mp q)
  · exact n i si (by rw [List.getElem?_set_ne (fun w => z w.symm)]; exact hi) oi rt
theorem Fresh.ofM {v : V} {ds : List D} (f : FreshM K G own σ H B v (.lst ds)) : Fresh K G own σ H B v ds := by
  obtain ⟨a, e, ⟨l, _⟩, h⟩ := f
  exact ⟨a, e, l, (h a .self).1, (h a .self).2⟩
end
section
variable {F : CF} {K : PySem.W.Frag} {mg : Str → Option Value} {C : Ctl} {own own1 own' : List Stt} {N : List Str} {vis : List Bool} {gl : List Str} {k : Nat} {pos : Pos}
/-- x.f.extend(e) -/
def extF (c : Str) (i j : Nat) (g : M (List D)) : SM := fun ρ => match boxL c i j ρ with
  | some rs => (match g ρ with
    | .ok ds ρ1 => if rs.length + ds.length < 16000000 then .nx (setBox i j (.lst (rs ++ ds)) (ρ1.set j (look ρ j))) else .bad
    | _ => .bad)
  | none => .bad
theorem st_extF (S : Sx F K mg N vis gl k) {Z1 : XC} {c : Str} (Cc : DCl K c) (i j : Nat) {st : Stt} {x n : Str} {e : Expr} {g : M (List D)} {px pn ap cp : Pos} (h : EL F K Z1 (own.set j .U) e g) (hi : (flds c)[i]? = some n := by decide +kernel) (hn : LBOX.elem n = true := by decide +kernel) (hN : N[j]? = some x := by rfl) (hv : vis[j]? = some true := by rfl) (ho : own[j]? = some st := by rfl) (hst : st.isO = true := by rfl) (hI : noIB own = true := by rfl)
    (hb : ∀ X, F X → attributeBase (.Name x px) n X.env (eval (.Name x px) X.env) = eval (.Name x px) X.env := by intro _ _; rfl)
    (h1 : ∀ X, F X → attributeBase (.Attribute (.Name x px) n pn) "extend" X.env (eval (.Attribute (.Name x px) n pn) X.env) = eval (.Attribute (.Name x px) n pn) X.env := by intro _ _; rfl)
    (h2 : ∀ X, F X → (((backTo cp (starEach [e] X.env)).all fun x => !x.1) && (backToKw cp (keywordEach [] X.env)).all fun x => x.1.isSome) && decide (([e].length + ([] : List Keyword).length + if ([] : List Keyword).isEmpty = true then 0 else 1) < 30) = true := by intro _ _; rfl) (h3 : (ap.endLine == cp.line) = true := by rfl)
    (hs : ∀ X, F X → starEach [e] X.env = (false, eval e X.env) :: starEach [] X.env := by intro _ _; rfl)
    (hw : ∀ X, F X → swapsWith (.Call (.Attribute (.Attribute (.Name x px) n pn) "extend" ap) [e] [] cp) none pos.line X.env = pure false := by intro _ _; rfl) : ST F K C own (.Expr (.Call (.Attribute (.Attribute (.Name x px) n pn) "extend" ap) [e] [] cp) pos) (extF c i j g) own := by
  obtain ⟨t, pt, h⟩ := h
  refine ⟨tDrop (tBM K "list" rExtend (tFld K (tVar j) n) (tCons t tNil)), fun X hX => let ⟨v1, v2, v3⟩ := S.vis X hX j x hv hN;
    atK (S.hK X hX) (fun K => PS X _ (tDrop (tBM K "list" rExtend (tFld K (tVar j) n) (tCons t tNil)))) (ps_expr (pe_bm PySem.F.plainAttrs_list PySem.F.slot_list_extend PySem.F.type_list_extend mt_extend (pe_fld (pe_var (by rw [S.hN X hX]; exact hN) v1 v2 v3) (hb X hX)) (pa_cons (pt X hX) pa_nil (hs X hX)) (h1 X hX) (h2 X hX) h3 (hs X hX) rfl) (hw X hX)), fun G ρ σ H B R E hE => ?_⟩
  unfold extF at hE
  cases hrs : boxL c i j ρ with
  | none => rw [hrs] at hE; exact hE.elim
  | some rs =>
    rw [hrs] at hE
    dsimp only at hE
    cases hg : g ρ with
    | bad => rw [hg] at hE; exact hE.elim
    | ex _ _ _ => rw [hg] at hE; exact hE.elim
    | ok ds ρ1 =>
      rw [hg] at hE
      dsimp only at hE
      by_cases hl2 : rs.length + ds.length < 16000000
      · rw [if_pos hl2] at hE
        have hos := Stt.isO_own hst
        obtain ⟨a, dx, c', us, fs, ea, er, o⟩ := R.insAt ho hst
        obtain ⟨rfl, hfi⟩ := boxL_inv er hrs
        have hbx : boxF n = true := by unfold boxF; rw [hn]; rfl
        obtain ⟨p1, e1, us0, hu0, ru0, hz0, hb0⟩ := fld_lst o hi hn hfi
        have r := h (G.hold H a) ρ σ H B (R.hide ho hos ea (noI_of hI))
        rw [hg] at r
        refine ⟨.ref a, join_some ea, a, _, dx, _, .ref p1, rfl, o.hx, Cc.cls, Cc.no n (List.mem_of_getElem? hi), zip_lookup Cc.nd hi e1, .inl ⟨rfl, us0, .inl (.inl hu0)⟩, r _ fun v H1 B1 e R1 f => ?_⟩
        have Rs := R.show ho hos ea (noI_of hI) e R1
        obtain ⟨q, rfl, ⟨zs, hq, rz, hz2, hb2⟩, _, nrt⟩ := Fresh.ofM (FreshM.show R ho hos ea e R1 f.m)
        have m : MOk K H B a (.ins c' fs) := ⟨dx, us, o⟩
        have stay : ∀ b o', Root H a b → H b = some o' → H1 b = some o' := fun b o' rt q => R1.keep.pr b o' (by rw [hold_at rt]; exact q)
        have gone : ∀ b, Root H a b → B1 b = none := fun b rt => let ⟨⟨o', q, _⟩, _⟩ := m.has rt; R1.keep.prb b o' (by rw [hold_at rt]; exact q)
        have rx : Root H a a := .inl rfl
        have rd : Root H a dx := .inr ⟨_, _, _, o.hx, .inl rfl⟩
        have o1 : InOk K H1 B1 a dx c' us fs := ⟨stay _ _ rx o.hx, stay _ _ rd o.hd, o.fo.stay e fun f b hf mm => ⟨fun q => stay b q (.inr ⟨_, _, _, o.hx, .inr ⟨f, hf, mm⟩⟩), gone b (.inr ⟨_, _, _, o.hx, .inr ⟨f, hf, mm⟩⟩)⟩, gone a rx, gone dx rd, o.ne, o.un⟩
        obtain ⟨p2, e2, us1, hu1, ru1, hz1, hb1⟩ := fld_lst o1 hi hn hfi
        rw [e1] at e2
        cases e2
        have lj : j < ρ1.length := by rw [R1.lr, List.length_set]; exact R.own_lt ho
        have er1 : look (ρ1.set j (look ρ j)) j = .ins c' fs := by rw [look_set lj, if_pos rfl]; exact er
        have sz : (rs ++ ds).length ≤ sizeLine := by rw [sizeLine_eq]; simp; omega
        refine ⟨p1, q, us1, zs, rfl, rfl, hu1, hq, by rw [ru1.len, rz.len, sizeLine_eq]; omega, ?_⟩
        have c0 : CellOk K H1 B1 p1 (.lst rs) := ⟨us1, hu1, ru1, hz1, hb1⟩
        have c1 : CellOk K (upd H1 p1 (.lst (us1 ++ zs))) B1 p1 (.lst (rs ++ ds)) := ⟨us1 ++ zs, upd_same, ru1.append rz, sz, hb1⟩
        have R2 := Rs.putCell ho hst ea er1 o1 hi hbx e1 c0 c1 hn (noI_of hI)
        have es : setBox i j (.lst (rs ++ ds)) (ρ1.set j (look ρ j)) = (ρ1.set j (look ρ j)).set j (.ins c' (fs.set i (.lst (rs ++ ds)))) := setBox_ins er1
        rw [es] at hE
        exact hE σ _ B1 e R2
      · rw [if_neg hl2] at hE; exact hE.elim
theorem run_nilEq {l : Env → Option (List D)} {ta : TE} {Z : XC} (ha : ∀ G ρ σ H B, Rel K G own ρ σ H B → ∀ rs, l ρ = some rs → ∃ a us, (H a = some (.lst us) ∧ Reps K B us rs ∧ rs.length ≤ sizeLine ∧ B a = none) ∧ ∀ Q : VK, Q (.ref a) H → ta σ H Q) {G : Gam} {ρ : Env} {σ : L2.St} {H B : Hp} (R : Rel K G own ρ σ H B) :
    Run K Z G own (RV K) (nilOL false l ρ) σ B (tOp (rEqD K) ta (tLst tNil) σ H) := by
  unfold nilOL
  cases hl : l ρ with
  | none => trivial
  | some rs =>
    show Run K Z G own (RV K) (ofO (if okD (.lst rs) then some (.bl (xor false rs.isEmpty)) else none) ρ) σ B _
    split
    · rename_i hok
      obtain ⟨a, us, ⟨hu, ru, hz, hbp⟩, hq⟩ := ha G ρ σ H B R rs hl
      refine Run.prim R fun Q q => hq _ ⟨by simp, fun p hp => ?_⟩
      have nw := New.heap (K := K) (o := .lst []) R.keep.bh hp
      obtain ⟨a1, a2⟩ := own_shaped nw.bh (nw.h _ _ hu rfl) ru hok
      have b1 : Dp K (upd H p (.lst [])) (.ref p) (D.lst []).py := by rw [D.py]; exact .lst (.inl (.inl upd_same)) .nil
      refine ⟨_, _, a1, b1, a2, by decide, ?_⟩
      rw [eqv_nil0]
      exact q _ _ B nw (by simpa using Rep.bl (K := K) (B := B) _)
    · trivial
theorem et_eqNil (S : Sx F K mg N vis gl k) {Z : XC} {a : Expr} {l : Env → Option (List D)} {p2 : Pos} (ha : OL F K own a l) : ET F K Z own (.Compare a [.Eq] [.List [] p2] pos) (asB (nilOL false l)) := by
  obtain ⟨ta, pa, ha⟩ := ha
  exact ⟨_, fun X hX => pt_cmpR (rl_eq S X hX) (pa X hX) (pe_lst pa_nil) (nomark _), fun G ρ σ H B R => Run.asB (g := nilOL false l) (run_nilEq ha R)⟩
end
end MP
namespace MP
open PySem PySem.Spec PyProof.Rows L2
/-! ### methods that change their instance and may raise -/
end MP
namespace MP
open PySem PySem.Spec PyProof.Rows L2
/-! ### exceptions with fields -/
section
variable {F : CF} {K : PySem.W.Frag} {mg : Str → Option Value} {C : Ctl} {own own1 own' : List Stt} {N : List Str} {vis : List Bool} {gl : List Str} {k : Nat} {P : Program} {w : World} {base : Heap} {ps : List Str} {f : Addr} {fd : FuncData}
theorem Reps.reverse {B : Hp} : ∀ {vs : List V} {ds : List D}, Reps K B vs ds → Reps K B vs.reverse ds.reverse
  | _, _, .nil => .nil
  | _, _, .cons r t => by rw [List.reverse_cons, List.reverse_cons]; exact (Reps.reverse t).append (.one r)
end
/-! ### the walk of such an __init__ -/
end MP
namespace MP
open PySem PySem.Spec PyProof.Rows L2
/-! ### methods that take a new list over; methods that change their instance and may raise; properties of instances with a dict -/
def delH (H : Hp) (b : Addr) : Hp := fun c => if c = b then none else H c
theorem delH_same {H : Hp} {b : Addr} : delH H b b = none := if_pos rfl
theorem delH_ne {H : Hp} {b c : Addr} (h : c ≠ b) : delH H b c = H c := if_neg h
theorem delH_some {H : Hp} {b c : Addr} {o : HO} (h : delH H b c = some o) : c ≠ b ∧ H c = some o := by
  by_cases z : c = b
  · rw [z, delH_same] at h; cases h
  · rw [delH_ne z] at h; exact ⟨z, h⟩
theorem TabK.del {K : PySem.W.Frag} {H B : Hp} (t : TabK K H B) {b : Addr} {vs : List V} (hl : H b = some (.lst vs)) : TabK K (delH H b) B := by
  refine ⟨fun P hP ps e => ?_, fun P hP => ?_, ⟨t.nb.nt, fun a vs e => t.nb.tp a vs (delH_some e).2⟩⟩
  · obtain ⟨x, y⟩ := t.th P hP ps (delH_some e).2
    refine ⟨x, fun pos cv hc => ?_⟩
    obtain ⟨c, oc, e1, e2, e3⟩ := y pos cv hc
    refine ⟨c, oc, e1, ?_, e3⟩
    rw [delH_ne (fun z => by rw [z, hl] at e2; cases e2)]
    exact e2
  · obtain ⟨ps, e⟩ := t.on P hP
    exact ⟨ps, by rw [delH_ne (fun z => by rw [z, hl] at e; cases e)]; exact e⟩
section
variable {K : PySem.W.Frag} {G : Gam} {own : List Stt} {ρ : Env} {σ : L2.St} {H B : Hp}
/-- a new list that nobody knows is forgotten -/
theorem Rel.forget (R : Rel K G own ρ σ H B) {b : Addr} {vs : List V} (hl : H b = some (.lst vs)) (hb : B b = none) (h1 : G.pr b = none) (h2 : G.H b = none) (nr : NoRt own σ H b) (nI : noI own) : Rel K G own ρ σ (delH H b) B := by
  have ne : ∀ {c : Addr} {o : HO} {P : Hp}, P b = none → P c = some o → c ≠ b := fun hp e z => by rw [z, hp] at e; cases e
  refine ⟨⟨fun c o e => ?_, fun c o e => ?_, R.keep.prb, R.keep.b0, fun c o e nf nt => ?_, fun c o e => ?_, R.keep.old, R.keep.prn, fun P ps e => ?_, R.keep.tab.del hl⟩, R.lr, R.ls, fun i st hi => ?_, fun i j si sj c hi hj oi oj ri rj => ?_⟩
  · rw [delH_ne (ne hb e)]; exact R.keep.bh c o e
  · rw [delH_ne (ne h1 e)]; exact R.keep.pr c o e
  · rw [delH_ne (ne h2 e)]; exact R.keep.fr c o e nf nt
  · rw [delH_ne (ne h2 e)]; exact R.keep.dom c o e
  · rw [delH_ne (ne h2 e)]; exact R.keep.tk P ps e
  · have x := R.slot i st hi
    have own1 : st.own = true → SlotOk K G (delH H b) B st (σ[i]?).join (look ρ i) := fun os => by
      obtain ⟨y, ey, my, gy⟩ := x.mok os
      have k : ∀ a o, Root H y a → H a = some o → delH H b a = some o := fun a o r e => by
        rw [delH_ne (c := a) (fun z => nr i st hi os ⟨y, ey, by rw [← z]; exact r⟩)]; exact e
      exact SlotOk.keep x os ey (my.stay k Ex.rfl fun c r => (my.has r).2) id id (fun c r => .inl ((my.same fun o e => k y o .self e).mp r)) fun _ _ q => q
    cases st with
    | U => trivial
    | V => exact x
    | I => exact absurd hi (nI i)
    | _ => exact own1 rfl
  · have bk : ∀ (i : Nat) (si : Stt), own[i]? = some si → si.own = true → Rt (delH H b) (σ[i]?).join c → Rt H (σ[i]?).join c := fun i si hi oi r => by
      obtain ⟨y, ey, my, _⟩ := (R.slot i si hi).mok oi
      obtain ⟨z, ez, rt⟩ := r
      rw [ey] at ez; cases ez
      refine ⟨y, ey, (Root.congr ?_).mp rt⟩
      rw [delH_ne (c := y) (fun z => nr i si hi oi ⟨y, ey, by rw [z]; exact .self⟩)]
    exact R.sep i j si sj c hi hj oi oj (bk i si hi oi ri) (bk j sj hj oj rj)
end
/-- the first argument is a thing that is changed, the second a new list, which is taken over -/
def spN (K : PySem.W.Frag) (f : FMf) : Sp := fun vs H Q _ => ∃ B a b d0 ds d d1, vs = [.ref a, .ref b] ∧ (Ex B H ∧ TabK K H B) ∧ MOk K H B a d0 ∧ LstOk K H B b ds ∧ ¬ Root H a b ∧ f d0 [.lst ds] = some (d, d1) ∧
  ∀ v H' B', Ex B B' → Ex B' H' → Chg a (delH H b) H' → TabK K H' B' → (∀ c o, delH H b c = some o → B' c = B c) → MOk K H' B' a d1 → SameK d0 d1 → Rep K B' v d → Q v H'
abbrev ownN (n : Nat) : List Stt := .M :: .L :: List.replicate (n - 2) .U
section
variable {P : Program} {w : World} {K : PySem.W.Frag} {mg : Str → Option Value} {base : Heap} {x qual : Str} {params : Arguments} {body : List Stmt} {scope : Scope} {dvs : List V} {kws : List (Str × V)} {f : Addr} {fd : FuncData} {N ps : List Str} {k : Nat}
theorem ownN_own {n i : Nat} {si : Stt} (hi : (ownN n)[i]? = some si) (oi : si.own = true) : (i = 0 ∧ si = .M) ∨ (i = 1 ∧ si = .L) := by
  match i with
  | 0 => cases hi; exact .inl ⟨rfl, rfl⟩
  | 1 => cases hi; exact .inr ⟨rfl, rfl⟩
  | i + 2 =>
    have hi' : (List.replicate (n - 2) Stt.U)[i]? = some si := hi
    rw [List.getElem?_replicate] at hi'
    split at hi'
    · cases hi'; cases oi
    · cases hi'
theorem rel_startN {H B : Hp} {a b : Addr} {c0 : Str} {fs0 ds : List D} (bh : Ex B H) (tb : TabK K H B) (la : MOk K H B a (.ins c0 fs0)) (lb : LstOk K H B b ds) (nr : ¬ Root H a b) (hn : 2 ≤ N.length) :
    Rel K ⟨delH H b, B, Root H a, fun _ => none, none, some a⟩ (ownN N.length) (startD N.length [.ins c0 fs0, .lst ds]) (L2.start N [.ref a, .ref b]) H B := by
  obtain ⟨vs, hv, rv, hz, hb⟩ := id lb
  have l0 : (L2.start N [V.ref a, V.ref b])[0]? = some (some (.ref a)) := rfl
  have l1 : (L2.start N [V.ref a, V.ref b])[1]? = some (some (.ref b)) := rfl
  refine ⟨⟨bh, fun _ _ e => (nomatch e), fun _ _ e => (nomatch e), Ex.rfl, fun c o e _ _ => (delH_some e).2, fun c o e => ⟨o, (delH_some e).2⟩, fun _ _ _ => rfl, fun _ _ e => (nomatch e), fun P ps e => ⟨ps, (delH_some e).2⟩, tb⟩, ?_, ?_, fun i st h => ?_, fun i j si sj c hi hj oi oj ri rj => ?_⟩
  · simp [startD, ownN]
  · simp [L2.start, ownN]
  · match i with
    | 0 =>
      cases h
      exact ⟨⟨a, rfl, la, fun c r => ⟨rfl, .inr r⟩, rfl⟩, ⟨c0, fs0, rfl⟩⟩
    | 1 =>
      cases h
      refine ⟨⟨b, rfl, ⟨lb, trivial⟩, fun c r => ?_⟩, ⟨ds, rfl⟩⟩
      rw [Root.lst hv r]
      exact ⟨rfl, delH_same⟩
    | i + 2 =>
      have hi' : (List.replicate (N.length - 2) Stt.U)[i]? = some st := h
      rw [List.getElem?_replicate] at hi'
      split at hi'
      · cases hi'; trivial
      · cases hi'
  · have ra : ∀ {c : Addr}, Rt H ((L2.start N [V.ref a, V.ref b])[0]?).join c → Root H a c := fun r => by rw [l0] at r; exact r.of
    have rb : ∀ {c : Addr}, Rt H ((L2.start N [V.ref a, V.ref b])[1]?).join c → c = b := fun r => by rw [l1] at r; exact Root.lst hv r.of
    rcases ownN_own hi oi with ⟨rfl, _⟩ | ⟨rfl, _⟩
    · rcases ownN_own hj oj with ⟨rfl, _⟩ | ⟨rfl, _⟩
      · rfl
      · exact (nr (rb rj ▸ ra ri)).elim
    · rcases ownN_own hj oj with ⟨rfl, _⟩ | ⟨rfl, _⟩
      · exact (nr (rb ri ▸ ra rj)).elim
      · rfl
theorem fn_N {g : SM} {own' : List Stt} (Fd : FunD K x qual params body scope dvs kws f fd) (S : FnScope N ps scope) (hps : ps.length = 2) (h : STs (bodyF P w K mg base N qual scope f k) K (ctlM N.length) (ownN N.length) body g own') (ho : leB (roM N.length) own' = true) :
    FnOk P w K mg base CX0 (k + 1) f fd ps (spN K (onIns (runM N.length 1 g))) := by
  obtain ⟨t, pt, h⟩ := h
  have hpl : ps.length ≤ N.length := by
    have := congrArg List.length S.pre
    rw [List.length_take] at this
    omega
  refine FunD.okC Fd S (fun vs H Q E ⟨B, a, b, d0, ds, d, d1, hv, _⟩ => by rw [hv, hps]; rfl) fun cdv A outer s H vs Q E hc hr ⟨B, a, b, d0, ds, d, d1, hv, ⟨bh, tb⟩, la, lb, nr, hf0, q⟩ => ⟨t, (pt _ ⟨cdv, A, outer, s, H, E, ⟨hr, hc⟩, rfl⟩).nox, ?_⟩
  subst hv
  cases d0 with
  | ins c0 fs0 =>
    have hf : runM N.length 1 g (.ins c0 fs0) [.lst ds] = some (d, d1) := hf0
    obtain ⟨vl, hvl, _⟩ := id lb
    have ab : a ≠ b := fun z => nr (z ▸ .self)
    have rr : ∀ c, Root (delH H b) a c ↔ Root H a c := fun c => Root.congr (delH_ne ab)
    refine h _ _ _ H B (rel_startN (N := N) bh tb la lb nr (by omega)) _ ?_
    have fin : ∀ {ρ : Env} {σ : L2.St} {H' B' : Hp} {d' : D} {v : V}, some (d', look ρ 0) = some (d, d1) → Ex B B' → Rel K ⟨delH H b, B, Root H a, fun _ => none, none, some a⟩ (roM N.length) ρ σ H' B' → Rep K B' v d' → Q v H' := fun {ρ σ H' B' d' v} hb e R r => by
      have sl := ((SlotOk.split (st := .M) rfl).mp (R.slot 0 .M rfl)).1
      have kd1 := ((SlotOk.split (st := .M) rfl).mp (R.slot 0 .M rfl)).2
      rw [if_neg (by decide)] at sl
      obtain ⟨a', e1, l, rt, mem⟩ := sl
      cases mem
      cases hb
      exact q v H' B' e R.keep.bh ⟨fun c o hc hne nt => R.keep.fr c o hc (fun z => hne ((rr c).mpr z)) nt, R.keep.dom, R.keep.tk, fun c r => (rt c r).2.elim .inr fun z => .inl ((rr c).mpr z)⟩ R.keep.tab (fun c o hc => R.keep.old c o hc) l (kind_same (s0 := .M) rfl ⟨c0, fs0, rfl⟩ kd1) r
    unfold runM at hf
    rw [if_pos (show [D.lst ds].length = 1 from rfl)] at hf
    cases hg : g (startD N.length [.ins c0 fs0, .lst ds]) with
    | nx ρ => rw [hg] at hf; exact fun σ' H' B' e R => fin hf e (R.less ho) .non
    | rt d' ρ => rw [hg] at hf; exact fun v σ' H' B' e R r => fin hf e R r
    | bk ρ => rw [hg] at hf; cases hf
    | ct ρ => rw [hg] at hf; cases hf
    | ex c fs ρ => rw [hg] at hf; cases hf
    | bad => rw [hg] at hf; cases hf
  | _ => cases hf0
end
structure MtN (P : Program) (w : World) (K : PySem.W.Frag) (mg : Str → Option Value) (base : Heap) (c m : Str) (f : Addr) (fd : FuncData) (ps : List Str) (j : Nat) (ff : FMf) : Prop where
  ok : FnOk P w K mg base CX0 j f fd ps (spN K ff)
  mt : Meth K (He.ga K c) m f
  bd : Binds K fd ps []
/-- a getter of an instance with a dict -/
structure PrM (P : Program) (w : World) (K : PySem.W.Frag) (mg : Str → Option Value) (base : Heap) (c m : Str) (p f : Addr) (fd : FuncData) (ps : List Str) (j : Nat) (ff : FMf) : Prop where
  ok : FnOk P w K mg base CX0 j f fd ps (spM K ps.length ff)
  ar : ∀ d0 ds r, ff d0 ds = some r → ds.length + 1 = ps.length
  pr : PropOf K (He.ga K c) m p f
  bd : Binds K fd ps []
def callN (c : Str) (fl : Bool) (ff : FMf) (j : Nat) (g : M (List D)) : M D := bnd (ofC c j) fun _ => bnd g fun ds ρ => match ff (look ρ j) [.lst ds] with
  | some (d, d1) => if (!fl || fullB d1) = true then .ok d (ρ.set j d1) else .bad
  | none => .bad
section
variable {F : CF} {K : PySem.W.Frag} {mg : Str → Option Value} {Z : XC} {E : XK} {oz own own1 own' : List Stt} {N : List Str} {vis : List Bool} {gl : List Str} {k : Nat} {P : Program} {w : World} {base : Heap} {ps : List Str} {f : Addr} {fd : FuncData} {a e : Expr} {g : M D} {pos : Pos} {c m : Str}
/-- the list that is handed over is no part of the thing -/
theorem notRt {G : Gam} {ρ : Env} {σ : L2.St} {H B : Hp} {i : Nat} {st : Stt} {x b : Addr} (ho : own[i]? = some st) (hs : st.own = true) (ea : (σ[i]?).join = some (.ref x)) (nr : NoRt own σ H b) : ¬ Root H x b := fun r => nr i st ho hs ⟨x, ea, r⟩
theorem ex_methN (A : Fam F P w base) (S : Sx F K mg N vis gl k) {j : Nat} {ff : FMf} {x : Str} {px apos : Pos} {gs : M (List D)} (C : DCl K c) (G : MtN P w K mg base c m f fd ps j ff) (fl : Bool) (i : Nat) {st : Stt} (he : EL F K Z own e gs) (hj : j ≤ k := by decide) (hm : m ∉ flds c := by decide +kernel)
    (hN : N[i]? = some x := by rfl) (hv : vis[i]? = some true := by rfl) (ho : own[i]? = some st := by rfl) (hst : st.isO = true := by rfl) (hfl : st.fsh = fl := by rfl) (hI : noIB own = true := by rfl)
    (h1 : ∀ X, F X → starEach [e] X.env = (false, eval e X.env) :: starEach [] X.env := by intro _ _; rfl) (h2 : ∀ X, F X → ((backTo pos (starEach [] X.env)).any fun q => q.1) = false := by intro _ _; rfl)
    (h3 : ∀ X, F X → ∃ pl : Sem Bool, eval (.Call (.Attribute (.Name x px) m apos) [e] [] pos) X.env = (do
      let ov ← eval (.Name x px) X.env
      standAt apos.atName
      let (f, first) ← holding [ov] (getMethod ov m pl)
      callWith pos f first (backTo pos (starEach [e] X.env)) (backToKw pos (keywordEach [] X.env))) := by intro _ _; exact ⟨_, rfl⟩) : EX F K Z own (.Call (.Attribute (.Name x px) m apos) [e] [] pos) (callN c fl ff i gs) := by
  obtain ⟨tb, pb, hb⟩ := he
  refine ⟨tMeth (He.ga K c) m (spN K ff) [] E0 (tVar i) (tCons tb tNil), fun X hX => let ⟨v1, v2, v3⟩ := S.vis X hX i x hv hN; (h3 X hX).elim fun pl e3 => pe_meth (pl := pl) (pe_var (by rw [S.hN X hX]; exact hN) v1 v2 v3) (by rw [S.hK X hX]; exact C.cls) (by rw [S.hK X hX]; exact G.mt) (fnAt A S hX G.ok) ((S.room X hX).mono hj) (by rw [S.hK X hX]; exact G.bd) (ds := []) (dvs := []) .nil (pass0 (X := X)) (pa_cons (pb X hX) pa_nil (h1 X hX)) (h1 X hX) (h2 X hX) e3, fun G' ρ σ H B R => ?_⟩
  obtain ⟨a, dx, c', us, fs, ea, er, o⟩ := R.insAt ho hst
  unfold callN bnd ofC
  rw [er]
  dsimp only
  by_cases hc : c' = c
  · subst hc
    rw [if_pos rfl]
    show Run K Z G' own (RV K) ((gs ρ).bnd _) σ B _
    refine Run.imp (Run.thn (Rl2 := RV K) (p2 := fun v H2 Q => spN K ff (.ref a :: ([v] ++ [])) H2 Q E0) (hb G' ρ σ H B R) fun ds ρ1 v H1 B1 _ e R1 l => ?_) fun Q q => ⟨.ref a, join_some ea, a, dx, _, rfl, o.hx, zip_none hm, q⟩
    obtain ⟨b, rfl, lb, ⟨g1, g2⟩, nr⟩ := l
    obtain ⟨vl, hvl, _, _, hbb⟩ := id lb
    obtain ⟨a', dx', c2, us', fs', ea', er', o'⟩ := R1.insAt ho hst
    rw [ea] at ea'
    cases ea'
    cases hf : ff (look ρ1 i) [.lst ds] with
    | none => trivial
    | some q =>
      obtain ⟨d, d1⟩ := q
      dsimp only
      by_cases hq : (!fl || fullB d1) = true
      · rw [if_pos hq]
        intro Q q
        have la : MOk K H1 B1 a (look ρ1 i) := by rw [er']; exact ⟨dx', us', o'⟩
        have Rf := R1.forget hvl hbb g1 g2 nr (noI_of hI)
        refine ⟨B1, a, b, look ρ1 i, ds, d, d1, rfl, ⟨R1.keep.bh, R1.keep.tab⟩, la, lb, notRt (G := G') (ρ := ρ1) (B := B1) ho (Stt.isO_own hst) ea nr, hf, fun v H' B' e1 e2 e3 tb e4 l' sk r' => q v H' B' e1 (Rf.changed ho (Stt.isO_own hst) ea e1 e2 e3 tb e4 l' (fun hs => ?_) ?_ (.inr (noI_of hI))) r'⟩
        · rw [hs] at hfl; subst hfl
          exact fullB_ok (by simpa using hq)
        · obtain ⟨c3, fs3, e5⟩ := sk.2 ⟨_, _, er'⟩
          rw [e5]; exact kind_ins hst _ _
      · rw [if_neg hq]; trivial
  · rw [if_neg hc]; trivial
/-- x.f, a property of an instance with a dict -/
theorem ex_propM (A : Fam F P w base) (S : Sx F K mg N vis gl k) {j : Nat} {ff : FMf} {x : Str} {px : Pos} {p : Addr} (C : DCl K c) (G : PrM P w K mg base c m p f fd ps j ff) (fl : Bool) (i : Nat) {st : Stt} (hj : j + 1 ≤ k := by decide)
    (hN : N[i]? = some x := by rfl) (hv : vis[i]? = some true := by rfl) (ho : own[i]? = some st := by rfl) (hst : st.isO = true := by rfl) (hfl : st.fsh = fl := by rfl) (hI : noIB own = true := by rfl)
    (hab : ∀ X, F X → attributeBase (.Name x px) m X.env (eval (.Name x px) X.env) = eval (.Name x px) X.env := by intro _ _; rfl) : EX F K Z own (.Attribute (.Name x px) m pos) (callM c fl ff i nilD) := by
  refine ⟨tProp (He.ga K c) (spM K ps.length ff) [] E0 (tVar i), fun X hX => let ⟨v1, v2, v3⟩ := S.vis X hX i x hv hN; pe_prop (pe_var (by rw [S.hN X hX]; exact hN) v1 v2 v3) (by rw [S.hK X hX]; exact C.cls) (by rw [S.hK X hX]; exact G.pr) (fnAt A S hX G.ok) ((S.room X hX).mono hj) (by rw [S.hK X hX]; exact G.bd) (ds := []) (dvs := []) .nil (pass0 (X := X.nox)) (hab X hX), fun G' ρ σ H B R => ?_⟩
  obtain ⟨a, dx, c', us, fs, ea, er, o⟩ := R.insAt ho hst
  unfold callM bnd ofC
  rw [er]
  dsimp only
  by_cases hc : c' = c
  · subst hc
    rw [if_pos rfl]
    have la : MOk K H B a (look ρ i) := by rw [er]; exact ⟨dx, us, o⟩
    show Run K Z G' own (RV K) (match ff (look ρ i) [] with
      | some (d, d1) => if (!fl || fullB d1) = true then .ok d (ρ.set i d1) else .bad
      | none => .bad) σ B _
    cases hf : ff (look ρ i) [] with
    | none => trivial
    | some q =>
      obtain ⟨d, d1⟩ := q
      dsimp only
      by_cases hq : (!fl || fullB d1) = true
      · rw [if_pos hq]
        intro Q q
        refine ⟨.ref a, join_some ea, a, dx, _, rfl, o.hx, B, a, [], look ρ i, [], d, d1, by simpa using G.ar _ _ _ hf, rfl, ⟨R.keep.bh, R.keep.tab⟩, la, .nil, hf, fun v H' B' e1 e2 e3 tb e4 l' sk r' => q v H' B' e1 (R.changed ho (Stt.isO_own hst) ea e1 e2 e3 tb e4 l' (fun hs => ?_) ?_ (.inr (noI_of hI))) r'⟩
        · rw [hs] at hfl; subst hfl
          exact fullB_ok (by simpa using hq)
        · obtain ⟨c3, fs3, e5⟩ := sk.2 ⟨_, _, er⟩
          rw [e5]; exact kind_ins hst _ _
      · rw [if_neg hq]; trivial
  · rw [if_neg hc]; trivial
/-- self.f = y, return len(y): the list y is taken over by the field -/
def mvLenS (c : Str) (i j l : Nat) : SM := fun ρ => match look ρ l, look ρ j with
  | .lst ds, .ins c' fs => if c' = c ∧ i ≤ fs.length then .rt (.int ds.length) (ρ.set j (.ins c' (putI i (.lst ds) fs))) else .bad
  | _, _ => .bad
theorem sts_mvlen {C : Ctl} (S : Sx F K mg N vis gl k) {c : Str} (Cc : DCl K c) (i j l q : Nat) {st : Stt} {x y n : Str} {px pn py p1 p2 p3 p4 p5 : Pos} (hm : mg "len" = none) (hi : (flds c)[i]? = some n := by decide +kernel) (hn : LBOX.elem n = true := by decide +kernel) (hN : N[j]? = some x := by rfl) (hv : vis[j]? = some true := by rfl) (ho : own[j]? = some st := by rfl) (hst : st.isO = true := by rfl)
    (hN2 : N[l]? = some y := by rfl) (hv2 : vis[l]? = some true := by rfl) (ho2 : own[l]? = some .L := by rfl) (hI : noIB own = true := by rfl) (hfl : (flds c).length ≤ 900 := by decide +kernel) (hg : gl[q]? = some ("len" : Str) := by rfl) (hr : leB C.ro (own.set l .U) = true := by rfl)
    (hs : ∀ X, F X → swapsWith (.Name y py) (some (.Attribute (.Name x px) n pn)) p1.line X.env = pure false := by intro _ _; rfl)
    (hs1 : ∀ X, F X → starEach [.Name y p3] X.env = (false, eval (.Name y p3) X.env) :: starEach [] X.env := by intro _ _; rfl) :
    STs F K C own [.Assign [.Attribute (.Name x px) n pn] (.Name y py) p1, .Return (some (.Call (.Name "len" p2) [.Name y p3] [] p4)) p5] (mvLenS c i j l) own' := by
  have hlj : l ≠ j := fun z => by rw [z] at ho2; rw [ho] at ho2; cases ho2; cases hst
  have pl : ∀ X, F X → PE X (.Call (.Name "len" p2) [.Name y p3] [] p4) (tCB (fun xs H Q => ∃ x n, xs = [x] ∧ LenV K x H n ∧ Q (V.int (n : Nat)) H) (tCons (tVar l) tNil)) := fun X hX => let ⟨v1, v2, v3⟩ := S.vis X hX l y hv2 hN2; let ⟨g1, g2, g3⟩ := S.gl X hX q _ hg;
    pe_callB (atK (S.hK X hX) (fun K => CallR X _ fun xs H Q => ∃ x n, xs = [x] ∧ LenV K x H n ∧ Q (V.int (n : Nat)) H) call_len) g1 (by rw [S.hmg X hX]; exact hm) PySem.boot_len (pa_cons (pe_var (by rw [S.hN X hX]; exact hN2) v1 v2 v3) pa_nil (hs1 X hX)) g3 g2 (hs1 X hX) rfl
  have pf : ∀ X, F X → PS X (.Assign [.Attribute (.Name x px) n pn] (.Name y py) p1) (sFld K (tVar j) (tVar l) n) := fun X hX => let ⟨v1, v2, v3⟩ := S.vis X hX j x hv hN; let ⟨w1, w2, w3⟩ := S.vis X hX l y hv2 hN2; atK (S.hK X hX) (fun K => PS X _ (sFld K (tVar j) (tVar l) n)) (ps_fld (pe_var (by rw [S.hN X hX]; exact hN) v1 v2 v3) (pe_var (by rw [S.hN X hX]; exact hN2) w1 w2 w3) (hs X hX))
  refine ⟨_, fun X hX => pss_cons (pf X hX) (pss_one (ps_ret (pl X hX))), fun G ρ σ H B R E hE => ?_⟩
  obtain ⟨a, dx, c', us, fs, ea, er, o⟩ := R.insAt ho hst
  obtain ⟨⟨b, eb, ⟨mb, _⟩, gb⟩, ⟨ds, el⟩⟩ := (SlotOk.split (K := K) (st := .L) rfl).mp (R.slot l .L ho2)
  rw [el] at mb
  obtain ⟨vs, hvb, rvb, hzb, hbb⟩ := id (show LstOk K H B b ds from mb)
  have hE' : SPost K C G own' (mvLenS c i j l ρ) B E := hE
  unfold mvLenS at hE'
  rw [el, er] at hE'
  dsimp only at hE'
  by_cases hc : c' = c ∧ i ≤ fs.length
  · rw [if_pos hc] at hE'
    obtain ⟨rfl, hlen⟩ := hc
    have hbx : boxF n = true := by unfold boxF; rw [hn]; rfl
    have f1 : F1 K H B n (.ref b) (.lst ds) := by unfold F1; rw [if_pos hbx]; exact ⟨b, rfl, mb, hn⟩
    have R1 : Rel K G (own.set l .U) ρ σ H B := by
      have := R.drop (i := l) (d := look ρ l)
      rwa [set_look] at this
    have ho1 : (own.set l .U)[j]? = some st := by rw [List.getElem?_set_ne hlj]; exact ho
    have nI : noI (own.set l .U) := fun m e => by
      rcases own_set e with ⟨_, e, _⟩ | ⟨_, e⟩
      · cases e
      · exact noI_of hI m e
    have nr : NoRt (own.set l .U) σ H b := fun m sm hm' om rt => by
      rcases own_set hm' with ⟨_, e, _⟩ | ⟨ne, e⟩
      · subst e; cases om
      · exact ne (R.sep m l sm .L b e ho2 om rfl rt ⟨b, eb, .self⟩)
    obtain ⟨e1, R2⟩ := R1.putFld ho1 hst ea er o Cc hi hlen f1 (fun p z _ => by cases z; exact ⟨gb b .self, nr⟩) nI
    have hab : b ≠ a := fun z => by rw [z, o.hx] at hvb; cases hvb
    refine ⟨.ref b, join_some eb, .ref a, join_some ea, a, _, dx, _, rfl, o.hx, Cc.cls, Cc.no n (List.mem_of_getElem? hi), ?_, ?_⟩
    · rw [List.length_zip]; omega
    · rw [e1]
      exact ⟨.ref b, join_some eb, _, _, rfl, .inl ⟨vs, .inl (.inl (by rw [upd_ne hab]; exact hvb)), rvb.len.symm⟩, hE' _ σ _ B Ex.rfl (R2.less hr) (.int _)⟩
  · rw [if_neg hc] at hE'; exact hE'.elim
end
/-! ### what leaves the slots as they are -/
theorem pure_noP : PureM noP := pure_ret
theorem pure_someP {g : M D} (h : PureM g) : PureM (someP g) := pure_bnd h fun a => by
  intro ρ d ρ1 q
  cases a <;> first | exact pure_ret ρ d ρ1 q | exact pure_ofO ρ d ρ1 q | cases q
theorem pure_slM {g : M D} {lo hi : M (Option Int)} (h : PureM g) (h1 : PureM lo) (h2 : PureM hi) : PureM (slM g lo hi) := pure_bnd h fun _ => pure_bnd h1 fun _ => pure_bnd h2 fun _ => pure_ofO
theorem pure_tupD {g : M (List D)} (h : PureM g) : PureM (tupD g) := pure_bnd h fun _ => pure_bnd pure_ofO fun _ => pure_ret
theorem pure_lcT {i j l : Nat} {it : M (List D)} {c : M Bool} {g : M D} (hij : i ≠ j ∧ i ≠ l ∧ j ≠ l) (hi : PureM it) (hc : PureM c) (hg : PureM g) : PureM (lcD (bTup 3 (bCons (bName i) (bCons (bName j) (bCons (bName l) bNil)))) it c g [i, j, l]) := fun ρ d ρ1 h => by
  obtain ⟨hij, hil, hjl⟩ := hij
  unfold lcD bnd at h
  cases hm : it ρ with
  | ok a ρ2 =>
    rw [hm] at h
    have e := hi ρ a ρ2 hm
    subst e
    refine pure_of_restore (fun d ρ ρ1 hb => ?_) hc hg a ρ2 [] d ρ1 h
    have slk : ∀ (ρ : Env) (v : Nat), ρ.set v (look ρ v) = ρ := fun ρ v => by
      have := restore1 v (look ρ v) ρ
      change (ρ.set v (look ρ v)).set v (look ρ v) = ρ at this
      rwa [List.set_set] at this
    have key : ∀ x y z : D, restore [i, j, l] ρ (((ρ.set i x).set j y).set l z) = ρ := fun x y z => by
      show (((((ρ.set i x).set j y).set l z).set i (look ρ i)).set j (look ρ j)).set l (look ρ l) = ρ
      rw [List.set_comm _ _ (Ne.symm hil), List.set_comm _ _ (Ne.symm hij), List.set_set, slk, List.set_comm _ _ (Ne.symm hjl)]
      simp only [List.set_set, slk]
    have h2 : ∃ x y z, ρ1 = ((ρ.set i x).set j y).set l z := by
      cases d with
      | tup ds =>
        change (if ds.length = 3 then bCons (bName i) (bCons (bName j) (bCons (bName l) bNil)) ds ρ else none) = some ρ1 at hb
        by_cases hl : ds.length = 3
        · rw [if_pos hl] at hb
          match ds, hl with
          | [x, y, z], _ => exact ⟨x, y, z, (Option.some.inj hb).symm⟩
        · rw [if_neg hl] at hb; cases hb
      | _ => cases hb
    obtain ⟨x, y, z, rfl⟩ := h2
    exact key x y z
  | ex c fs ρ2 => rw [hm] at h; cases h
  | bad => rw [hm] at h; cases h
end MP
/-! xs[::-1] of a list -/
namespace MP
open PySem L2
theorem Reps.revR {K : PySem.W.Frag} {B : Hp} : ∀ {vs : List V} {ds : List D}, Reps K B vs ds → Reps K B vs.reverse ds.reverse
  | _, _, .nil => .nil
  | _, _, .cons r t => by
    rw [List.reverse_cons, List.reverse_cons]
    exact (Reps.revR t).append (.one r)
def revO : D → Option (List D)
  | .lst ds => some ds.reverse
  | _ => none
def revM (g : M D) : M (List D) := bnd g fun d => ofO (revO d)
section
variable {F : CF} {K : PySem.W.Frag} {mg : Str → Option Value} {Z : XC} {own : List Stt} {N : List Str} {vis : List Bool} {gl : List Str} {k : Nat} {a : Expr} {g : M D}
theorem el_rev (S : Sx F K mg N vis gl k) {n : Nat} {p1 p2 p3 pos : Pos} (ha : EX F K Z own a g) : EL F K Z own (.Subscript a (.Slice none none (some (.UnaryOp .USub (.Constant (.int 1) n p1) p2)) p3) pos) (revM g) := by
  obtain ⟨ta, pa, ha⟩ := ha
  refine ⟨tRevL K ta, fun X hX => atK (S.hK X hX) (fun K => PE X _ (tRevL K ta)) (pe_revL (pa X hX)), fun G ρ σ H B R => ?_⟩
  refine Run.thn (p2 := fun x H1 Q => ∃ a xs, x = .ref a ∧ SqL K H1 a xs ∧ ∀ p, H1 p = none → Q (.ref p) (upd H1 p (.lst xs.reverse))) (ha G ρ σ H B R) fun d ρ1 v H1 B1 _ e R1 l => ?_
  cases l with
  | lst hq rs hz =>
    intro Q q
    refine ⟨_, _, rfl, R1.keep.bh.seq hq, fun p hp => ?_⟩
    obtain ⟨R2, f2⟩ := R1.fresh hp rs.revR (by rw [List.length_reverse]; exact hz)
    exact q _ _ B1 Ex.rfl R2 f2
  | _ => trivial
theorem revM_ap {ρ : Env} : revM g ρ = (g ρ).bnd fun d => ofO (revO d) := rfl
end
end MP
/-! ### x in ts, ts a tuple of data of any depth -/
namespace MP
open PySem PySem.Spec PyProof.Rows L2
def rNotInU (K : PySem.W.Frag) : R2 := fun x y H Q => ∃ d ds, Dp K H x d ∧ Dp K H y (.tuple ds) ∧ SeqAt.shaped d = true ∧ SeqAt.shaped (.tuple ds) = true ∧ Q (.bl (!ds.any fun z => PyData.eqv z d)) H
section
variable {X : Cx}
theorem op_notInU (hu : X.A.units + 65 < cLine) : OpR X (compareOp .NotIn) (rNotInU X.K) := by
  intro pins s σ H x y v u Q I rx ry h
  obtain ⟨d, ds, hd, he, sd, se, q⟩ := h
  obtain ⟨as, r1⟩ := Dp.reads I d x v hd rx
  obtain ⟨bs, r2⟩ := Dp.reads I (.tuple ds) y u he ry
  exact SeqAt.notIn_tuple_reads r2 r1 (SeqAt.canLay_of_shaped se) (SeqAt.canLay_of_shaped sd) (room_in_shaped sd hu) ⟨.bl _, H, I, rfl, q⟩
end
def tupP : D → Option (List D)
  | .tup ds => some ds
  | _ => none
/-- x in a tuple of data -/
def inU (neg : Bool) (x y : D) : Option D := (tupP y).bind fun ds => if okD x && okD (.tup ds) then some (.bl (xor neg ((pys ds).any fun z => PyData.eqv z x.py))) else none
section
variable {K : PySem.W.Frag}
theorem od_notinU : OpD K (rNotInU K) (inU true) := fun x y d1 d2 H B bh rx ry => by
  unfold inU
  cases d2 with
  | tup ds =>
    show Prim K _ (if _ then _ else _) H B _
    split
    · rename_i h
      rw [Bool.and_eq_true] at h
      obtain ⟨a1, a2⟩ := shaped_of bh rx h.1
      obtain ⟨b1, b2⟩ := shaped_of bh ry h.2
      rw [D.py] at b1 b2
      exact Prim.now bh (.bl _) fun Q q => ⟨_, _, a1, b1, a2, b2, by simpa using q⟩
    · trivial
  | _ => trivial
end
section
variable {F : CF} {K : PySem.W.Frag} {mg : Str → Option Value} {Z : XC} {own : List Stt} {N : List Str} {vis : List Bool} {gl : List Str} {k : Nat} {a b : Expr} {g h : M D} {pos : Pos}
theorem et_notinU (S : Sx F K mg N vis gl k) (ha : EX F K Z own a g) (hb : EX F K Z own b h) (hm : behindInMarks .NotIn b = false := by rfl) : ET F K Z own (.Compare a [.NotIn] [b] pos) (asB (op2 (inU true) g h)) :=
  et_cmp (op := .NotIn) (fun X hX => atK (S.hK X hX) (fun K => OpR X _ (rNotInU K)) (op_notInU (by have := (S.room X hX).un; omega))) od_notinU hm ha hb
end
end MP
namespace MP.k61
open PySem L2 MP
def top (i : Nat) : Stmt := PySem.Challenge.pw_seerings_k61_whole_observers_and_lookups.main.body.getD i (.Pass ⟨0, 0, 0, 0⟩)
def clsOf : Stmt → List Stmt
  | .ClassDef _ _ _ b _ _ _ _ _ _ _ => b
  | _ => []
def g_RULES : D := .tup ((["all", "half", "leaf"] : List PySem.Str).map D.str)
structure Txt (K : PySem.W.Frag) (mg : Str → Option Value) : Prop where
  k_Card : Cl K "Card" (["facts"] : List PySem.Str)
  k_Drawer : Cl K "Drawer" (["row"] : List PySem.Str)
  c_HALF : ∃ t, mg "HALF" = some (.str "half" t)
  c_LEAF : ∃ t, mg "LEAF" = some (.str "leaf" t)
  c_LETTERS : ∃ t, mg "LETTERS" = some (.str "abcdefghijklmnopqrstuvwxyz" t)
  c_MAX_ALSO : ∃ t, mg "MAX_ALSO" = some (.int 4 t)
  c_MAX_BOOK : ∃ t, mg "MAX_BOOK" = some (.int 999 t)
  c_MAX_BOOKS : ∃ t, mg "MAX_BOOKS" = some (.int 6 t)
  c_MAX_CARDS : ∃ t, mg "MAX_CARDS" = some (.int 16 t)
  c_MAX_LETTERS : ∃ t, mg "MAX_LETTERS" = some (.int 8 t)
  c_RULES : ∃ a, mg "RULES" = some (.ref a) ∧ ∀ B, Rep K B (.ref a) g_RULES
  d_Observer : DCl K "Observer"
  f_all : mg "all" = none
  f_bool : mg "bool" = none
  f_enumerate : mg "enumerate" = none
  f_int : mg "int" = none
  f_isinstance : mg "isinstance" = none
  f_len : mg "len" = none
  f_max : mg "max" = none
  f_range : mg "range" = none
  f_set : mg "set" = none
  f_sorted : mg "sorted" = none
  f_str : mg "str" = none
  f_tuple : mg "tuple" = none
  f_zip : mg "zip" = none
/-! is_word -/
abbrev s_is_word : Stmt := top 17
def d_is_word : SM := (seqS (ifS (orB (notB (asB (op1 (isiD "str") (vD 0)))) (notB (asB (chain2 leD leD (kD (.int 1)) (callD lenD (consD (vD 0) nilD)) (kD (.int 8)))))) (seqS (retS (kD (.bl false))) nxS) nxS) (seqS (retS (callD allD (consD (lstM (lcD (bName 1) (itD (vD 0)) yesM (op2 (inD false) (vD 1) (kD (.str "abcdefghijklmnopqrstuvwxyz"))) [1])) nilD))) nxS))
def F_is_word : FV := runV 2 1 d_is_word
theorem t_is_word {P : Program} {w : World} {K : PySem.W.Frag} {mg : Str → Option Value} {base : Heap} {f : Addr} (T : Txt K mg)  :
    STs (bodyF P w K mg base (["value", "letter"] : List PySem.Str) "is_word" (defScope s_is_word) f 0) K (ctlV 2) [.V, .U] (defBody s_is_word) d_is_word [.U, .U] := by
  have nd : ((["value", "letter"] : List PySem.Str)).Nodup := by decide +kernel
  have S : Sx (bodyF P w K mg base (["value", "letter"] : List PySem.Str) "is_word" (defScope s_is_word) f 0) K mg (["value", "letter"] : List PySem.Str) [true, false] (["isinstance", "str", "len", "MAX_LETTERS", "all"] : List PySem.Str) 0 := sx_body (by decide +kernel) (by decide +kernel)
  have A : Fam (bodyF P w K mg base (["value", "letter"] : List PySem.Str) "is_word" (defScope s_is_word) f 0) P w base := fam_body
  have Q : Scp (bodyF P w K mg base (["value", "letter"] : List PySem.Str) "is_word" (defScope s_is_word) f 0) (["value", "letter"] : List PySem.Str) (defScope s_is_word) := scp_body
  have L : Lx (bodyF P w K mg base (["value", "letter"] : List PySem.Str) "is_word" (defScope s_is_word) f 0) (["value", "letter"] : List PySem.Str) [false, false] := lx_body nd (by decide +kernel)
  unfold d_is_word
  exact (ss_cons (own1 := [.V, .U]) (st_if (EW.et (ew_or (et_not (et_val (ex_isi S 0 1 "str" T.f_isinstance T.f_str PyProof.Rows.boot_str (ex_var S 0)))) (ew_or1 (et_not (et_chain (fun _ _ => or_le) (fun _ _ => or_le) od_le od_le ex_int (ex_len S 2 T.f_len (ex_var S 0)) (ex_gint S 3 T.c_MAX_LETTERS)))))) (ss_cons (own1 := [.V, .U]) (st_ret ex_bl (by decide))
    ss_nil) ss_nil)
    (ss_cons (own1 := [.U, .U]) (st_ret (ex_all S 4 T.f_all (EL.ex (el_lcB [("letter", 1)] [false, true] [false, true] (["LETTERS"] : List PySem.Str) S A Q nd [.V, .V] (it_seq S (ex_var S 0)) (fun S1 L1 => (tg_name S1.hN 1 L1)) (fun S1 A1 Q1 => ets_nil) (fun S1 A1 Q1 => (ex_in S1 (ex_var S1 1) (ex_gstr S1 0 T.c_LETTERS)))))) (by decide))
    ss_nil))
/-! check_heading -/
abbrev s_check_heading : Stmt := top 18
def d_check_heading : SM := (seqS (ifS (notB (asB (callD F_is_word (consD (vD 0) nilD)))) (seqS badS nxS) nxS) nxS)
def F_check_heading : FV := runV 1 1 d_check_heading
theorem t_check_heading {P : Program} {w : World} {K : PySem.W.Frag} {mg : Str → Option Value} {base : Heap} {f : Addr} (T : Txt K mg) {fd_is_word : FuncData} (h_is_word : FnV P w K mg base "is_word" (He.fAd K ("is_word", none)) fd_is_word (["value"] : List PySem.Str) 1 F_is_word) :
    STs (bodyF P w K mg base (["value"] : List PySem.Str) "check_heading" (defScope s_check_heading) f 1) K (ctlV 1) [.V] (defBody s_check_heading) d_check_heading [.U] := by
  have nd : ((["value"] : List PySem.Str)).Nodup := by decide +kernel
  have S : Sx (bodyF P w K mg base (["value"] : List PySem.Str) "check_heading" (defScope s_check_heading) f 1) K mg (["value"] : List PySem.Str) [true] (["is_word"] : List PySem.Str) 1 := sx_body (by decide +kernel) (by decide +kernel)
  have A : Fam (bodyF P w K mg base (["value"] : List PySem.Str) "check_heading" (defScope s_check_heading) f 1) P w base := fam_body
  have Q : Scp (bodyF P w K mg base (["value"] : List PySem.Str) "check_heading" (defScope s_check_heading) f 1) (["value"] : List PySem.Str) (defScope s_check_heading) := scp_body
  have L : Lx (bodyF P w K mg base (["value"] : List PySem.Str) "check_heading" (defScope s_check_heading) f 1) (["value"] : List PySem.Str) [false] := lx_body nd (by decide +kernel)
  unfold d_check_heading
  exact (ss_cons (own1 := [.V]) (st_if (et_not (et_val (ex_callV A S 0 h_is_word (es_cons (ex_var S 0) es_nil)))) (ss_cons (own1 := [.V]) st_bad
    ss_nil) ss_nil)
    (ss_nil (by decide)))
/-! check_rule -/
abbrev s_check_rule : Stmt := top 27
def d_check_rule : SM := (seqS (ifS (asB (op2 (inD true) (vD 0) (kD g_RULES))) (seqS badS nxS) nxS) nxS)
def F_check_rule : FV := runV 1 1 d_check_rule
theorem t_check_rule {P : Program} {w : World} {K : PySem.W.Frag} {mg : Str → Option Value} {base : Heap} {f : Addr} (T : Txt K mg)  :
    STs (bodyF P w K mg base (["rule"] : List PySem.Str) "check_rule" (defScope s_check_rule) f 0) K (ctlV 1) [.V] (defBody s_check_rule) d_check_rule [.U] := by
  have nd : ((["rule"] : List PySem.Str)).Nodup := by decide +kernel
  have S : Sx (bodyF P w K mg base (["rule"] : List PySem.Str) "check_rule" (defScope s_check_rule) f 0) K mg (["rule"] : List PySem.Str) [true] (["RULES"] : List PySem.Str) 0 := sx_body (by decide +kernel) (by decide +kernel)
  have A : Fam (bodyF P w K mg base (["rule"] : List PySem.Str) "check_rule" (defScope s_check_rule) f 0) P w base := fam_body
  have Q : Scp (bodyF P w K mg base (["rule"] : List PySem.Str) "check_rule" (defScope s_check_rule) f 0) (["rule"] : List PySem.Str) (defScope s_check_rule) := scp_body
  have L : Lx (bodyF P w K mg base (["rule"] : List PySem.Str) "check_rule" (defScope s_check_rule) f 0) (["rule"] : List PySem.Str) [false] := lx_body nd (by decide +kernel)
  unfold d_check_rule
  exact (ss_cons (own1 := [.V]) (st_if (et_cmp (rl_notin S) (od_in true) rfl (ex_var S 0) (ex_gref S 0 T.c_RULES)) (ss_cons (own1 := [.V]) st_bad
    ss_nil) ss_nil)
    (ss_nil (by decide)))
/-! Card_heading -/
abbrev s_Card_heading : Stmt := (clsOf (top 21)).getD 2 (.Pass ⟨0, 0, 0, 0⟩)
def d_Card_heading : SM := (seqS (retS (op2 ixD (op1 (fldD "Card" 0) (vD 0)) (kD (.int 0)))) nxS)
def F_Card_heading : FV := runV 1 1 d_Card_heading
theorem t_Card_heading {P : Program} {w : World} {K : PySem.W.Frag} {mg : Str → Option Value} {base : Heap} {f : Addr} (T : Txt K mg)  :
    STs (bodyF P w K mg base (["self"] : List PySem.Str) "Card.heading" (defScope s_Card_heading) f 0) K (ctlV 1) [.V] (defBody s_Card_heading) d_Card_heading [.U] := by
  have nd : ((["self"] : List PySem.Str)).Nodup := by decide +kernel
  have S : Sx (bodyF P w K mg base (["self"] : List PySem.Str) "Card.heading" (defScope s_Card_heading) f 0) K mg (["self"] : List PySem.Str) [true] ([] : List PySem.Str) 0 := sx_body (by decide +kernel) (by decide +kernel)
  have A : Fam (bodyF P w K mg base (["self"] : List PySem.Str) "Card.heading" (defScope s_Card_heading) f 0) P w base := fam_body
  have Q : Scp (bodyF P w K mg base (["self"] : List PySem.Str) "Card.heading" (defScope s_Card_heading) f 0) (["self"] : List PySem.Str) (defScope s_Card_heading) := scp_body
  have L : Lx (bodyF P w K mg base (["self"] : List PySem.Str) "Card.heading" (defScope s_Card_heading) f 0) (["self"] : List PySem.Str) [false] := lx_body nd (by decide +kernel)
  unfold d_Card_heading
  exact (ss_cons (own1 := [.U]) (st_ret (ex_ix S (ex_fld S T.k_Card 0 (ex_var S 0)) ex_int) (by decide))
    ss_nil)
/-! Drawer_cards -/
abbrev s_Drawer_cards : Stmt := (clsOf (top 36)).getD 2 (.Pass ⟨0, 0, 0, 0⟩)
def d_Drawer_cards : SM := (seqS (retS (op1 (fldD "Drawer" 0) (vD 0))) nxS)
def F_Drawer_cards : FV := runV 1 1 d_Drawer_cards
theorem t_Drawer_cards {P : Program} {w : World} {K : PySem.W.Frag} {mg : Str → Option Value} {base : Heap} {f : Addr} (T : Txt K mg)  :
    STs (bodyF P w K mg base (["self"] : List PySem.Str) "Drawer.cards" (defScope s_Drawer_cards) f 0) K (ctlV 1) [.V] (defBody s_Drawer_cards) d_Drawer_cards [.U] := by
  have nd : ((["self"] : List PySem.Str)).Nodup := by decide +kernel
  have S : Sx (bodyF P w K mg base (["self"] : List PySem.Str) "Drawer.cards" (defScope s_Drawer_cards) f 0) K mg (["self"] : List PySem.Str) [true] ([] : List PySem.Str) 0 := sx_body (by decide +kernel) (by decide +kernel)
  have A : Fam (bodyF P w K mg base (["self"] : List PySem.Str) "Drawer.cards" (defScope s_Drawer_cards) f 0) P w base := fam_body
  have Q : Scp (bodyF P w K mg base (["self"] : List PySem.Str) "Drawer.cards" (defScope s_Drawer_cards) f 0) (["self"] : List PySem.Str) (defScope s_Drawer_cards) := scp_body
  have L : Lx (bodyF P w K mg base (["self"] : List PySem.Str) "Drawer.cards" (defScope s_Drawer_cards) f 0) (["self"] : List PySem.Str) [false] := lx_body nd (by decide +kernel)
  unfold d_Drawer_cards
  exact (ss_cons (own1 := [.U]) (st_ret (ex_fld S T.k_Drawer 0 (ex_var S 0)) (by decide))
    ss_nil)
/-! by_halves -/
abbrev s_by_halves : Stmt := top 28
def b1_by_halves : SM := (seqS (setS 5 (op2 (intOp divC fun i j => .int (i / j)) (op2 addD (vD 3) (vD 4)) (kD (.int 2)))) (seqS (appS 2 (vD 5)) (seqS (setS 6 (op1 (isC "Card" F_Card_heading []) (op2 ixD (op1 (isC "Drawer" F_Drawer_cards []) (vD 0)) (vD 5)))) (seqS (ifS (asB (op2 eqD (vD 6) (vD 1))) (seqS (retS (tupD (consD (vD 5) (consD (callD tupleD (consD (vD 2) nilD)) nilD)))) nxS) nxS) (seqS (ifS (asB (op2 gtD (vD 6) (vD 1))) (seqS (setS 4 (op2 (intOp (fun _ _ => true) fun i j => .int (i - j)) (vD 5) (kD (.int 1)))) nxS) (seqS (setS 3 (op2 addD (vD 5) (kD (.int 1)))) nxS)) nxS)))))
def d_by_halves : SM := (seqS (setLS 2 (lstD nilD)) (seqS (setPar 3 4 (kD (.int 0)) (op2 (intOp (fun _ _ => true) fun i j => .int (i - j)) (callD lenD (consD (op1 (isC "Drawer" F_Drawer_cards []) (vD 0)) nilD)) (kD (.int 1)))) (seqS (whileS (asB (op2 leD (vD 3) (vD 4))) b1_by_halves 1000000) (seqS (retS (tupD (consD (kD .non) (consD (callD tupleD (consD (vD 2) nilD)) nilD)))) nxS))))
def F_by_halves : FV := runV 7 2 d_by_halves
theorem t_by_halves {P : Program} {w : World} {K : PySem.W.Frag} {mg : Str → Option Value} {base : Heap} {f : Addr} (T : Txt K mg) {fd_Card_heading : FuncData} (p_Card_heading : PrV P w K mg base "Card" "heading" (pOb K "Card" "heading") (pAd K "Card" "heading") fd_Card_heading (["self"] : List PySem.Str) 1 F_Card_heading) {fd_Drawer_cards : FuncData} (p_Drawer_cards : PrV P w K mg base "Drawer" "cards" (pOb K "Drawer" "cards") (pAd K "Drawer" "cards") fd_Drawer_cards (["self"] : List PySem.Str) 1 F_Drawer_cards) :
    STs (bodyF P w K mg base (["drawer", "heading", "looks", "first", "last", "middle", "here"] : List PySem.Str) "by_halves" (defScope s_by_halves) f 2) K (ctlV 7) [.V, .V, .U, .U, .U, .U, .U] (defBody s_by_halves) d_by_halves [.U, .U, .U, .U, .U, .U, .U] := by
  have nd : ((["drawer", "heading", "looks", "first", "last", "middle", "here"] : List PySem.Str)).Nodup := by decide +kernel
  have S : Sx (bodyF P w K mg base (["drawer", "heading", "looks", "first", "last", "middle", "here"] : List PySem.Str) "by_halves" (defScope s_by_halves) f 2) K mg (["drawer", "heading", "looks", "first", "last", "middle", "here"] : List PySem.Str) [true, true, true, true, true, true, true] (["len", "tuple"] : List PySem.Str) 2 := sx_body (by decide +kernel) (by decide +kernel)
  have A : Fam (bodyF P w K mg base (["drawer", "heading", "looks", "first", "last", "middle", "here"] : List PySem.Str) "by_halves" (defScope s_by_halves) f 2) P w base := fam_body
  have Q : Scp (bodyF P w K mg base (["drawer", "heading", "looks", "first", "last", "middle", "here"] : List PySem.Str) "by_halves" (defScope s_by_halves) f 2) (["drawer", "heading", "looks", "first", "last", "middle", "here"] : List PySem.Str) (defScope s_by_halves) := scp_body
  have L : Lx (bodyF P w K mg base (["drawer", "heading", "looks", "first", "last", "middle", "here"] : List PySem.Str) "by_halves" (defScope s_by_halves) f 2) (["drawer", "heading", "looks", "first", "last", "middle", "here"] : List PySem.Str) [false, false, true, true, true, true, true] := lx_body nd (by decide +kernel)
  unfold d_by_halves
  exact (ss_cons (own1 := [.V, .V, .L, .U, .U, .U, .U]) (st_setL S 2 L (el_lst es_nil))
    (ss_cons (own1 := [.V, .V, .L, .V, .V, .U, .U]) (st_parVV S L 3 4 ex_int (ex_sub (ex_len S 0 T.f_len (ex_prop A S T.k_Drawer p_Drawer_cards (ex_var S 0))) ex_int) (loc_body (by decide +kernel)) (loc_body (by decide +kernel)) (hw := (by rintro _ ⟨_, _, _, _, _, _, _, rfl⟩; rfl)))
    (ss_cons (own1 := [.V, .V, .L, .V, .V, .U, .U]) (st_while 1000000 pass_body (et_cmp (fun _ _ => or_le) od_le (nomark _) (ex_var S 3) (ex_var S 4))
    (ss_cons (own1 := [.V, .V, .L, .V, .V, .V, .U]) (st_set S 5 L (ex_fdiv (ex_add S (ex_var S 3) (ex_var S 4)) ex_int))
    (ss_cons (own1 := [.V, .V, .L, .V, .V, .V, .U]) (st_append S 2 (ex_var S 5))
    (ss_cons (own1 := [.V, .V, .L, .V, .V, .V, .V]) (st_set S 6 L (ex_prop A S T.k_Card p_Card_heading (ex_ix S (ex_prop A S T.k_Drawer p_Drawer_cards (ex_var S 0)) (ex_var S 5))))
    (ss_cons (own1 := [.V, .V, .L, .V, .V, .V, .V]) (st_if (et_cmp (rl_eq S) od_eq (nomark _) (ex_var S 6) (ex_var S 1)) (ss_freeze 2 (ss_cons (own1 := [.V, .V, .L, .V, .V, .V, .V]) (st_ret (ex_tup (es_cons (ex_var S 5) (es_cons (ex_tuple S 1 T.f_tuple (ex_var S 2)) es_nil))) (by decide))
    ss_nil)) ss_nil)
    (ss_cons (own1 := [.V, .V, .L, .V, .V, .V, .V]) (st_if (et_cmp (fun _ _ => or_gt) od_gt (nomark _) (ex_var S 6) (ex_var S 1)) (ss_cons (own1 := [.V, .V, .L, .V, .V, .V, .V]) (st_set S 4 L (ex_sub (ex_var S 5) ex_int))
    ss_nil) (ss_cons (own1 := [.V, .V, .L, .V, .V, .V, .V]) (st_set S 3 L (ex_add S (ex_var S 5) ex_int))
    ss_nil))
    (ss_nil (by decide))))))))
    (ss_freeze 2 (ss_cons (own1 := [.U, .U, .U, .U, .U, .U, .U]) (st_ret (ex_tup (es_cons ex_non (es_cons (ex_tuple S 1 T.f_tuple (ex_var S 2)) es_nil))) (by decide))
    ss_nil)))))
/-! one_by_one -/
abbrev s_one_by_one : Stmt := top 29
def b1_one_by_one : SM := (seqS (ifS (asB (op2 eqD (op1 (isC "Card" F_Card_heading []) (vD 4)) (vD 1))) (seqS (retS (tupD (consD (vD 3) (consD (op1 (fun d => (rgD d).map .tup) (op2 addD (vD 3) (kD (.int 1)))) nilD)))) nxS) nxS) (seqS (ifS (andB (asB (vD 2)) (asB (op2 gtD (op1 (isC "Card" F_Card_heading []) (vD 4)) (vD 1)))) (seqS (retS (tupD (consD (kD .non) (consD (op1 (fun d => (rgD d).map .tup) (op2 addD (vD 3) (kD (.int 1)))) nilD)))) nxS) nxS) nxS))
def d_one_by_one : SM := (seqS (forS (bTup 2 (bCons (bName 3) (bCons (bName 4) bNil))) (enumD (op1 (isC "Drawer" F_Drawer_cards []) (vD 0))) b1_one_by_one) (seqS (retS (tupD (consD (kD .non) (consD (op1 (fun d => (rgD d).map .tup) (callD lenD (consD (op1 (isC "Drawer" F_Drawer_cards []) (vD 0)) nilD))) nilD)))) nxS))
def F_one_by_one : FV := runV 5 3 d_one_by_one
theorem t_one_by_one {P : Program} {w : World} {K : PySem.W.Frag} {mg : Str → Option Value} {base : Heap} {f : Addr} (T : Txt K mg) {fd_Card_heading : FuncData} (p_Card_heading : PrV P w K mg base "Card" "heading" (pOb K "Card" "heading") (pAd K "Card" "heading") fd_Card_heading (["self"] : List PySem.Str) 1 F_Card_heading) {fd_Drawer_cards : FuncData} (p_Drawer_cards : PrV P w K mg base "Drawer" "cards" (pOb K "Drawer" "cards") (pAd K "Drawer" "cards") fd_Drawer_cards (["self"] : List PySem.Str) 1 F_Drawer_cards) :
    STs (bodyF P w K mg base (["drawer", "heading", "is_leafing", "place", "card"] : List PySem.Str) "one_by_one" (defScope s_one_by_one) f 2) K (ctlV 5) [.V, .V, .V, .U, .U] (defBody s_one_by_one) d_one_by_one [.U, .U, .U, .U, .U] := by
  have nd : ((["drawer", "heading", "is_leafing", "place", "card"] : List PySem.Str)).Nodup := by decide +kernel
  have S : Sx (bodyF P w K mg base (["drawer", "heading", "is_leafing", "place", "card"] : List PySem.Str) "one_by_one" (defScope s_one_by_one) f 2) K mg (["drawer", "heading", "is_leafing", "place", "card"] : List PySem.Str) [true, true, true, true, true] (["enumerate", "tuple", "range", "len"] : List PySem.Str) 2 := sx_body (by decide +kernel) (by decide +kernel)
  have A : Fam (bodyF P w K mg base (["drawer", "heading", "is_leafing", "place", "card"] : List PySem.Str) "one_by_one" (defScope s_one_by_one) f 2) P w base := fam_body
  have Q : Scp (bodyF P w K mg base (["drawer", "heading", "is_leafing", "place", "card"] : List PySem.Str) "one_by_one" (defScope s_one_by_one) f 2) (["drawer", "heading", "is_leafing", "place", "card"] : List PySem.Str) (defScope s_one_by_one) := scp_body
  have L : Lx (bodyF P w K mg base (["drawer", "heading", "is_leafing", "place", "card"] : List PySem.Str) "one_by_one" (defScope s_one_by_one) f 2) (["drawer", "heading", "is_leafing", "place", "card"] : List PySem.Str) [false, false, false, true, true] := lx_body nd (by decide +kernel)
  unfold d_one_by_one
  exact (ss_cons (own1 := [.V, .V, .V, .U, .U]) (st_for S pass_body (it_enum S 0 T.f_enumerate (ex_prop A S T.k_Drawer p_Drawer_cards (ex_var S 0))) (vs := [3, 4]) (tg_tup S (tgs_cons (tg_name S.hN 3 L) (tgs_cons (tg_name S.hN 4 L) tgs_nil)))
    (ss_cons (own1 := [.V, .V, .V, .V, .V]) (st_if (et_cmp (rl_eq S) od_eq (nomark _) (ex_prop A S T.k_Card p_Card_heading (ex_var S 4)) (ex_var S 1)) (ss_cons (own1 := [.V, .V, .V, .V, .V]) (st_ret (ex_tup (es_cons (ex_var S 3) (es_cons (ex_tupRg S 1 2 T.f_tuple T.f_range (ex_add S (ex_var S 3) ex_int)) es_nil))) (by decide))
    ss_nil) ss_nil)
    (ss_cons (own1 := [.V, .V, .V, .V, .V]) (st_if (EW.et (ew_and (et_val (ex_var S 2)) (ew_and1 (et_cmp (fun _ _ => or_gt) od_gt (nomark _) (ex_prop A S T.k_Card p_Card_heading (ex_var S 4)) (ex_var S 1))))) (ss_cons (own1 := [.V, .V, .V, .V, .V]) (st_ret (ex_tup (es_cons ex_non (es_cons (ex_tupRg S 1 2 T.f_tuple T.f_range (ex_add S (ex_var S 3) ex_int)) es_nil))) (by decide))
    ss_nil) ss_nil)
    (ss_nil (by decide)))))
    (ss_cons (own1 := [.U, .U, .U, .U, .U]) (st_ret (ex_tup (es_cons ex_non (es_cons (ex_tupRg S 1 2 T.f_tuple T.f_range (ex_len S 3 T.f_len (ex_prop A S T.k_Drawer p_Drawer_cards (ex_var S 0)))) es_nil))) (by decide))
    ss_nil))
/-! looked_up -/
abbrev s_looked_up : Stmt := top 30
def d_looked_up : SM := (seqS (ifS (asB (op2 eqD (vD 1) (kD (.str "half")))) (seqS (retS (callD F_by_halves (consD (vD 0) (consD (vD 2) nilD)))) nxS) nxS) (seqS (retS (callD F_one_by_one (consD (vD 0) (consD (vD 2) (consD (op2 eqD (vD 1) (kD (.str "leaf"))) nilD))))) nxS))
def F_looked_up : FV := runV 3 3 d_looked_up
theorem t_looked_up {P : Program} {w : World} {K : PySem.W.Frag} {mg : Str → Option Value} {base : Heap} {f : Addr} (T : Txt K mg) {fd_by_halves : FuncData} (h_by_halves : FnV P w K mg base "by_halves" (He.fAd K ("by_halves", none)) fd_by_halves (["drawer", "heading"] : List PySem.Str) 3 F_by_halves) {fd_one_by_one : FuncData} (h_one_by_one : FnV P w K mg base "one_by_one" (He.fAd K ("one_by_one", none)) fd_one_by_one (["drawer", "heading", "is_leafing"] : List PySem.Str) 3 F_one_by_one) :
    STs (bodyF P w K mg base (["drawer", "rule", "heading"] : List PySem.Str) "looked_up" (defScope s_looked_up) f 3) K (ctlV 3) [.V, .V, .V] (defBody s_looked_up) d_looked_up [.U, .U, .U] := by
  have nd : ((["drawer", "rule", "heading"] : List PySem.Str)).Nodup := by decide +kernel
  have S : Sx (bodyF P w K mg base (["drawer", "rule", "heading"] : List PySem.Str) "looked_up" (defScope s_looked_up) f 3) K mg (["drawer", "rule", "heading"] : List PySem.Str) [true, true, true] (["HALF", "by_halves", "one_by_one", "LEAF"] : List PySem.Str) 3 := sx_body (by decide +kernel) (by decide +kernel)
  have A : Fam (bodyF P w K mg base (["drawer", "rule", "heading"] : List PySem.Str) "looked_up" (defScope s_looked_up) f 3) P w base := fam_body
  have Q : Scp (bodyF P w K mg base (["drawer", "rule", "heading"] : List PySem.Str) "looked_up" (defScope s_looked_up) f 3) (["drawer", "rule", "heading"] : List PySem.Str) (defScope s_looked_up) := scp_body
  have L : Lx (bodyF P w K mg base (["drawer", "rule", "heading"] : List PySem.Str) "looked_up" (defScope s_looked_up) f 3) (["drawer", "rule", "heading"] : List PySem.Str) [false, false, false] := lx_body nd (by decide +kernel)
  unfold d_looked_up
  exact (ss_cons (own1 := [.V, .V, .V]) (st_if (et_cmp (rl_eq S) od_eq (nomark _) (ex_var S 1) (ex_gstr S 0 T.c_HALF)) (ss_cons (own1 := [.V, .V, .V]) (st_ret (ex_callV A S 1 h_by_halves (es_cons (ex_var S 0) (es_cons (ex_var S 2) es_nil))) (by decide))
    ss_nil) ss_nil)
    (ss_cons (own1 := [.U, .U, .U]) (st_ret (ex_callV A S 2 h_one_by_one (es_cons (ex_var S 0) (es_cons (ex_var S 2) (es_cons (ex_eq S (ex_var S 1) (ex_gstr S 3 T.c_LEAF)) es_nil)))) (by decide))
    ss_nil))
/-! Observer -/
abbrev s_Observer : Stmt := (clsOf (top 33)).getD 0 (.Pass ⟨0, 0, 0, 0⟩)
def b1_Observer : SM := (seqS (exprS (callD F_check_rule (consD (vD 4) nilD))) nxS)
def b2_Observer : SM := (seqS (exprS (callD F_check_heading (consD (vD 5) nilD))) nxS)
def b3_Observer : SM := (seqS (extF "Observer" 0 0 (lcD (bName 5) (itD (vD 3)) yesM (tupD (consD (tupD (consD (vD 4) (consD (vD 5) nilD))) (starD (callD F_looked_up (consD (vD 1) (consD (vD 4) (consD (vD 5) nilD)))) nilD))) [5])) nxS)
def d_Observer : SM := (seqS (forS (bName 4) (itD (vD 2)) b1_Observer) (seqS (forS (bName 5) (itD (vD 3)) b2_Observer) (seqS (setFL "Observer" 0 0 (lstD nilD)) (seqS (forS (bName 4) (itD (vD 2)) b3_Observer) (seqS (setF "Observer" 1 0 (tupD nilD)) (seqS (setF "Observer" 2 0 (kD (.bl false))) (seqS (ifS (asB (nilOL false (boxL "Observer" 0 0))) (seqS badS nxS) nxS) nxS)))))))
def F_Observer : FMf := onIns (runM 6 3 d_Observer)
theorem t_Observer {P : Program} {w : World} {K : PySem.W.Frag} {mg : Str → Option Value} {base : Heap} {f : Addr} (T : Txt K mg) {fd_check_heading : FuncData} (h_check_heading : FnV P w K mg base "check_heading" (He.fAd K ("check_heading", none)) fd_check_heading (["value"] : List PySem.Str) 2 F_check_heading) {fd_check_rule : FuncData} (h_check_rule : FnV P w K mg base "check_rule" (He.fAd K ("check_rule", none)) fd_check_rule (["rule"] : List PySem.Str) 1 F_check_rule) {fd_looked_up : FuncData} (h_looked_up : FnV P w K mg base "looked_up" (He.fAd K ("looked_up", none)) fd_looked_up (["drawer", "rule", "heading"] : List PySem.Str) 4 F_looked_up) :
    STs (bodyF P w K mg base (["self", "drawer", "rules", "headings", "rule", "heading"] : List PySem.Str) "Observer.__init__" (defScope s_Observer) f 4) K (ctlM 6) [.M, .V, .V, .V, .U, .U] (defBody s_Observer) d_Observer [.M, .U, .U, .U, .U, .U] := by
  have nd : ((["self", "drawer", "rules", "headings", "rule", "heading"] : List PySem.Str)).Nodup := by decide +kernel
  have S : Sx (bodyF P w K mg base (["self", "drawer", "rules", "headings", "rule", "heading"] : List PySem.Str) "Observer.__init__" (defScope s_Observer) f 4) K mg (["self", "drawer", "rules", "headings", "rule", "heading"] : List PySem.Str) [true, true, true, true, true, true] (["check_rule", "check_heading"] : List PySem.Str) 4 := sx_body (by decide +kernel) (by decide +kernel)
  have A : Fam (bodyF P w K mg base (["self", "drawer", "rules", "headings", "rule", "heading"] : List PySem.Str) "Observer.__init__" (defScope s_Observer) f 4) P w base := fam_body
  have Q : Scp (bodyF P w K mg base (["self", "drawer", "rules", "headings", "rule", "heading"] : List PySem.Str) "Observer.__init__" (defScope s_Observer) f 4) (["self", "drawer", "rules", "headings", "rule", "heading"] : List PySem.Str) (defScope s_Observer) := scp_body
  have L : Lx (bodyF P w K mg base (["self", "drawer", "rules", "headings", "rule", "heading"] : List PySem.Str) "Observer.__init__" (defScope s_Observer) f 4) (["self", "drawer", "rules", "headings", "rule", "heading"] : List PySem.Str) [false, false, false, false, true, true] := lx_body nd (by decide +kernel)
  unfold d_Observer
  exact (ss_cons (own1 := [.M, .V, .V, .V, .U, .U]) (st_for S pass_body (it_seq S (ex_var S 2)) (vs := [4]) (tg_name S.hN 4 L)
    (ss_cons (own1 := [.M, .V, .V, .V, .V, .U]) (st_expr (ex_callV A S 0 h_check_rule (es_cons (ex_var S 4) es_nil)))
    (ss_nil (by decide))))
    (ss_cons (own1 := [.M, .V, .V, .V, .U, .U]) (st_for S pass_body (it_seq S (ex_var S 3)) (vs := [5]) (tg_name S.hN 5 L)
    (ss_cons (own1 := [.M, .V, .V, .V, .U, .V]) (st_expr (ex_callV A S 1 h_check_heading (es_cons (ex_var S 5) es_nil)))
    (ss_nil (by decide))))
    (ss_cons (own1 := [.M, .V, .V, .V, .U, .U]) (st_setFL S T.d_Observer 0 0 (el_lst es_nil))
    (ss_cons (own1 := [.M, .V, .V, .V, .U, .U]) (st_for S pass_body (it_seq S (ex_var S 2)) (vs := [4]) (tg_name S.hN 4 L)
    (ss_cons (own1 := [.M, .V, .V, .V, .V, .U]) (st_extF S (Z1 := Z0 []) T.d_Observer 0 0 (el_lcB [("heading", 5)] [false, true, false, false, true, true] [false, false, false, false, false, true] (["looked_up"] : List PySem.Str) S A Q nd [.U, .V, .V, .V, .V, .V] (it_seq S (ex_var S 3)) (fun S1 L1 => (tg_name S1.hN 5 L1)) (fun S1 A1 Q1 => ets_nil) (fun S1 A1 Q1 => (ex_tup (es_cons (ex_tup (es_cons (ex_var S1 4) (es_cons (ex_var S1 5) es_nil))) (es_star S1 (ex_callV A1 S1 0 h_looked_up (es_cons (ex_var S1 1) (es_cons (ex_var S1 4) (es_cons (ex_var S1 5) es_nil)))) es_nil))))))
    (ss_nil (by decide))))
    (ss_cons (own1 := [.M, .V, .V, .V, .U, .U]) (st_setF S T.d_Observer 1 0 (ex_tup es_nil))
    (ss_cons (own1 := [.M, .V, .V, .V, .U, .U]) (st_setF S T.d_Observer 2 0 ex_bl)
    (ss_cons (own1 := [.M, .V, .V, .V, .U, .U]) (st_if (et_eqNil S (ol_fld S T.d_Observer 0 0)) (ss_cons (own1 := [.M, .V, .V, .V, .U, .U]) st_bad
    ss_nil) ss_nil)
    (ss_nil (by decide)))))))))
/-! Drawer -/
abbrev s_Drawer : Stmt := (clsOf (top 36)).getD 1 (.Pass ⟨0, 0, 0, 0⟩)
def d_Drawer : SM := (seqS (ifS (asB (op2 gtD (callD lenD (consD (vD 1) nilD)) (kD (.int 16)))) (seqS badS nxS) nxS) (seqS (slotS "Drawer" 0 (vD 1)) nxS))
def F_Drawer : FI := runI "Drawer" 2 1 d_Drawer
theorem t_Drawer {P : Program} {w : World} {K : PySem.W.Frag} {mg : Str → Option Value} {base : Heap} {f : Addr} (T : Txt K mg)  :
    STs (bodyF P w K mg base (["self", "cards"] : List PySem.Str) "Drawer.__init__" (defScope s_Drawer) f 0) K (ctlV 2) [.I, .V] (defBody s_Drawer) d_Drawer [.I, .U] := by
  have nd : ((["self", "cards"] : List PySem.Str)).Nodup := by decide +kernel
  have S : Sx (bodyF P w K mg base (["self", "cards"] : List PySem.Str) "Drawer.__init__" (defScope s_Drawer) f 0) K mg (["self", "cards"] : List PySem.Str) [true, true] (["len", "MAX_CARDS"] : List PySem.Str) 0 := sx_body (by decide +kernel) (by decide +kernel)
  have A : Fam (bodyF P w K mg base (["self", "cards"] : List PySem.Str) "Drawer.__init__" (defScope s_Drawer) f 0) P w base := fam_body
  have Q : Scp (bodyF P w K mg base (["self", "cards"] : List PySem.Str) "Drawer.__init__" (defScope s_Drawer) f 0) (["self", "cards"] : List PySem.Str) (defScope s_Drawer) := scp_body
  have L : Lx (bodyF P w K mg base (["self", "cards"] : List PySem.Str) "Drawer.__init__" (defScope s_Drawer) f 0) (["self", "cards"] : List PySem.Str) [false, false] := lx_body nd (by decide +kernel)
  unfold d_Drawer
  exact (ss_cons (own1 := [.I, .V]) (st_if (et_cmp (fun _ _ => or_gt) od_gt (nomark _) (ex_len S 0 T.f_len (ex_var S 1)) (ex_gint S 1 T.c_MAX_CARDS)) (ss_cons (own1 := [.I, .V]) st_bad
    ss_nil) ss_nil)
    (ss_cons (own1 := [.I, .V]) (st_slot S T.k_Drawer 0 (ex_var S 1))
    (ss_nil (by decide))))
/-! is_number -/
abbrev s_is_number : Stmt := top 16
def d_is_number : SM := (seqS (retS (andD (op1 (isiD "int") (vD 0)) (andD (notD (op1 (isiD "bool") (vD 0))) (chain2 leD leD (vD 1) (vD 0) (vD 2))))) nxS)
def F_is_number : FV := runV 3 3 d_is_number
theorem t_is_number {P : Program} {w : World} {K : PySem.W.Frag} {mg : Str → Option Value} {base : Heap} {f : Addr} (T : Txt K mg)  :
    STs (bodyF P w K mg base (["value", "smallest", "largest"] : List PySem.Str) "is_number" (defScope s_is_number) f 0) K (ctlV 3) [.V, .V, .V] (defBody s_is_number) d_is_number [.U, .U, .U] := by
  have nd : ((["value", "smallest", "largest"] : List PySem.Str)).Nodup := by decide +kernel
  have S : Sx (bodyF P w K mg base (["value", "smallest", "largest"] : List PySem.Str) "is_number" (defScope s_is_number) f 0) K mg (["value", "smallest", "largest"] : List PySem.Str) [true, true, true] (["isinstance", "int", "bool"] : List PySem.Str) 0 := sx_body (by decide +kernel) (by decide +kernel)
  have A : Fam (bodyF P w K mg base (["value", "smallest", "largest"] : List PySem.Str) "is_number" (defScope s_is_number) f 0) P w base := fam_body
  have Q : Scp (bodyF P w K mg base (["value", "smallest", "largest"] : List PySem.Str) "is_number" (defScope s_is_number) f 0) (["value", "smallest", "largest"] : List PySem.Str) (defScope s_is_number) := scp_body
  have L : Lx (bodyF P w K mg base (["value", "smallest", "largest"] : List PySem.Str) "is_number" (defScope s_is_number) f 0) (["value", "smallest", "largest"] : List PySem.Str) [false, false, false] := lx_body nd (by decide +kernel)
  unfold d_is_number
  exact (ss_cons (own1 := [.U, .U, .U]) (st_ret (ex_and (ex_isi S 0 1 "int" T.f_isinstance T.f_int PyProof.Rows.boot_int (ex_var S 0)) (ex_and (ex_not (ex_isi S 0 2 "bool" T.f_isinstance T.f_bool PyProof.Rows.boot_bool (ex_var S 0))) (ex_one (ex_chain (fun _ _ => or_le) (fun _ _ => or_le) od_le od_le (ex_var S 1) (ex_var S 0) (ex_var S 2))))) (by decide))
    ss_nil)
/-! are_books -/
abbrev s_are_books : Stmt := top 19
def d_are_books : SM := (seqS (ifS (orB (asB (op2 gtD (callD lenD (consD (vD 0) nilD)) (kD (.int 6)))) (notB (asB (callD allD (consD (lstM (lcD (bName 1) (itD (vD 0)) yesM (callD F_is_number (consD (vD 1) (consD (kD (.int 1)) (consD (kD (.int 999)) nilD)))) [1])) nilD))))) (seqS (retS (kD (.bl false))) nxS) nxS) (seqS (retS (callD allD (consD (lstM (lcD (bTup 2 (bCons (bName 2) (bCons (bName 3) bNil))) (zipM (consD (vD 0) (consD (slM (vD 0) (someP (kD (.int 1))) noP) nilD))) yesM (op2 ltD (vD 2) (vD 3)) [2, 3])) nilD))) nxS))
def F_are_books : FV := runV 4 1 d_are_books
theorem t_are_books {P : Program} {w : World} {K : PySem.W.Frag} {mg : Str → Option Value} {base : Heap} {f : Addr} (T : Txt K mg) {fd_is_number : FuncData} (h_is_number : FnV P w K mg base "is_number" (He.fAd K ("is_number", none)) fd_is_number (["value", "smallest", "largest"] : List PySem.Str) 1 F_is_number) :
    STs (bodyF P w K mg base (["row", "book", "one", "other"] : List PySem.Str) "are_books" (defScope s_are_books) f 1) K (ctlV 4) [.V, .U, .U, .U] (defBody s_are_books) d_are_books [.U, .U, .U, .U] := by
  have nd : ((["row", "book", "one", "other"] : List PySem.Str)).Nodup := by decide +kernel
  have S : Sx (bodyF P w K mg base (["row", "book", "one", "other"] : List PySem.Str) "are_books" (defScope s_are_books) f 1) K mg (["row", "book", "one", "other"] : List PySem.Str) [true, false, false, false] (["len", "MAX_BOOKS", "all", "zip"] : List PySem.Str) 1 := sx_body (by decide +kernel) (by decide +kernel)
  have A : Fam (bodyF P w K mg base (["row", "book", "one", "other"] : List PySem.Str) "are_books" (defScope s_are_books) f 1) P w base := fam_body
  have Q : Scp (bodyF P w K mg base (["row", "book", "one", "other"] : List PySem.Str) "are_books" (defScope s_are_books) f 1) (["row", "book", "one", "other"] : List PySem.Str) (defScope s_are_books) := scp_body
  have L : Lx (bodyF P w K mg base (["row", "book", "one", "other"] : List PySem.Str) "are_books" (defScope s_are_books) f 1) (["row", "book", "one", "other"] : List PySem.Str) [false, false, false, false] := lx_body nd (by decide +kernel)
  unfold d_are_books
  exact (ss_cons (own1 := [.V, .U, .U, .U]) (st_if (EW.et (ew_or (et_cmp (fun _ _ => or_gt) od_gt (nomark _) (ex_len S 0 T.f_len (ex_var S 0)) (ex_gint S 1 T.c_MAX_BOOKS)) (ew_or1 (et_not (et_val (ex_all S 2 T.f_all (EL.ex (el_lcB [("book", 1)] [false, true, false, false] [false, true, false, false] (["is_number", "MAX_BOOK"] : List PySem.Str) S A Q nd [.V, .V, .U, .U] (it_seq S (ex_var S 0)) (fun S1 L1 => (tg_name S1.hN 1 L1)) (fun S1 A1 Q1 => ets_nil) (fun S1 A1 Q1 => (ex_callV A1 S1 0 h_is_number (es_cons (ex_var S1 1) (es_cons ex_int (es_cons (ex_gint S1 1 T.c_MAX_BOOK) es_nil))))))))))))) (ss_cons (own1 := [.V, .U, .U, .U]) (st_ret ex_bl (by decide))
    ss_nil) ss_nil)
    (ss_cons (own1 := [.U, .U, .U, .U]) (st_ret (ex_all S 2 T.f_all (EL.ex (el_lcB [("one", 2), ("other", 3)] [false, false, true, true] [false, false, true, true] ([] : List PySem.Str) S A Q nd [.V, .U, .V, .V] (it_zip S 3 T.f_zip (es_cons (ex_var S 0) (es_cons (ex_slice S (ex_var S 0) (eo_some ex_int) eo_none) es_nil))) (fun S1 L1 => (tg_tup S1 (tgs_cons (tg_name S1.hN 2 L1) (tgs_cons (tg_name S1.hN 3 L1) tgs_nil)))) (fun S1 A1 Q1 => ets_nil) (fun S1 A1 Q1 => (ex_lt (ex_var S1 2) (ex_var S1 3)))))) (by decide))
    ss_nil))
/-! are_others -/
abbrev s_are_others : Stmt := top 20
def d_are_others : SM := (seqS (ifS (orB (asB (op2 gtD (callD lenD (consD (vD 1) nilD)) (kD (.int 4)))) (asB (op2 ltD (op1 lenSetD (vD 1)) (callD lenD (consD (vD 1) nilD))))) (seqS (retS (kD (.bl false))) nxS) nxS) (seqS (retS (callD allD (consD (lstM (lcD (bName 2) (itD (vD 1)) yesM (andD (callD F_is_word (consD (vD 2) nilD)) (op2 neD (vD 2) (vD 0))) [2])) nilD))) nxS))
def F_are_others : FV := runV 3 2 d_are_others
theorem t_are_others {P : Program} {w : World} {K : PySem.W.Frag} {mg : Str → Option Value} {base : Heap} {f : Addr} (T : Txt K mg) {fd_is_word : FuncData} (h_is_word : FnV P w K mg base "is_word" (He.fAd K ("is_word", none)) fd_is_word (["value"] : List PySem.Str) 1 F_is_word) :
    STs (bodyF P w K mg base (["heading", "row", "other"] : List PySem.Str) "are_others" (defScope s_are_others) f 1) K (ctlV 3) [.V, .V, .U] (defBody s_are_others) d_are_others [.U, .U, .U] := by
  have nd : ((["heading", "row", "other"] : List PySem.Str)).Nodup := by decide +kernel
  have S : Sx (bodyF P w K mg base (["heading", "row", "other"] : List PySem.Str) "are_others" (defScope s_are_others) f 1) K mg (["heading", "row", "other"] : List PySem.Str) [true, true, false] (["len", "MAX_ALSO", "set", "all"] : List PySem.Str) 1 := sx_body (by decide +kernel) (by decide +kernel)
  have A : Fam (bodyF P w K mg base (["heading", "row", "other"] : List PySem.Str) "are_others" (defScope s_are_others) f 1) P w base := fam_body
  have Q : Scp (bodyF P w K mg base (["heading", "row", "other"] : List PySem.Str) "are_others" (defScope s_are_others) f 1) (["heading", "row", "other"] : List PySem.Str) (defScope s_are_others) := scp_body
  have L : Lx (bodyF P w K mg base (["heading", "row", "other"] : List PySem.Str) "are_others" (defScope s_are_others) f 1) (["heading", "row", "other"] : List PySem.Str) [false, false, false] := lx_body nd (by decide +kernel)
  unfold d_are_others
  exact (ss_cons (own1 := [.V, .V, .U]) (st_if (EW.et (ew_or (et_cmp (fun _ _ => or_gt) od_gt (nomark _) (ex_len S 0 T.f_len (ex_var S 1)) (ex_gint S 1 T.c_MAX_ALSO)) (ew_or1 (et_cmp (fun _ _ => or_lt) od_lt (nomark _) (ex_lenSet S 0 2 T.f_len T.f_set (ex_var S 1)) (ex_len S 0 T.f_len (ex_var S 1)))))) (ss_cons (own1 := [.V, .V, .U]) (st_ret ex_bl (by decide))
    ss_nil) ss_nil)
    (ss_cons (own1 := [.U, .U, .U]) (st_ret (ex_all S 3 T.f_all (EL.ex (el_lcB [("other", 2)] [true, false, true] [false, false, true] (["is_word"] : List PySem.Str) S A Q nd [.V, .V, .V] (it_seq S (ex_var S 1)) (fun S1 L1 => (tg_name S1.hN 2 L1)) (fun S1 A1 Q1 => ets_nil) (fun S1 A1 Q1 => (ex_and (ex_callV A1 S1 0 h_is_word (es_cons (ex_var S1 2) es_nil)) (ex_one (ex_ne S1 (ex_var S1 2) (ex_var S1 0)))))))) (by decide))
    ss_nil))
/-! Card -/
abbrev s_Card : Stmt := (clsOf (top 21)).getD 1 (.Pass ⟨0, 0, 0, 0⟩)
def d_Card : SM := (seqS (ifS (notB (asB (callD F_is_word (consD (vD 1) nilD)))) (seqS badS nxS) nxS) (seqS (ifS (notB (asB (callD F_are_books (consD (vD 2) nilD)))) (seqS badS nxS) nxS) (seqS (setS 5 (andD (op2 eqD (vD 2) (tupD nilD)) (andD (op2 eqD (vD 4) (tupD nilD)) (andD (callD F_is_word (consD (vD 3) nilD)) (op2 neD (vD 3) (vD 1)))))) (seqS (ifS (andB (asB (op2 neD (vD 3) (kD (.str "")))) (notB (asB (vD 5)))) (seqS badS nxS) nxS) (seqS (ifS (notB (asB (callD F_are_others (consD (vD 1) (consD (vD 4) nilD))))) (seqS badS nxS) nxS) (seqS (slotS "Card" 0 (tupD (consD (vD 1) (consD (vD 2) (consD (vD 3) (consD (vD 4) nilD)))))) nxS))))))
def F_Card : FI := runI "Card" 6 4 d_Card
theorem t_Card {P : Program} {w : World} {K : PySem.W.Frag} {mg : Str → Option Value} {base : Heap} {f : Addr} (T : Txt K mg) {fd_are_books : FuncData} (h_are_books : FnV P w K mg base "are_books" (He.fAd K ("are_books", none)) fd_are_books (["row"] : List PySem.Str) 2 F_are_books) {fd_are_others : FuncData} (h_are_others : FnV P w K mg base "are_others" (He.fAd K ("are_others", none)) fd_are_others (["heading", "row"] : List PySem.Str) 2 F_are_others) {fd_is_word : FuncData} (h_is_word : FnV P w K mg base "is_word" (He.fAd K ("is_word", none)) fd_is_word (["value"] : List PySem.Str) 1 F_is_word) :
    STs (bodyF P w K mg base (["self", "heading", "books", "see", "also", "is_free"] : List PySem.Str) "Card.__init__" (defScope s_Card) f 2) K (ctlV 6) [.I, .V, .V, .V, .V, .U] (defBody s_Card) d_Card [.I, .U, .U, .U, .U, .U] := by
  have nd : ((["self", "heading", "books", "see", "also", "is_free"] : List PySem.Str)).Nodup := by decide +kernel
  have S : Sx (bodyF P w K mg base (["self", "heading", "books", "see", "also", "is_free"] : List PySem.Str) "Card.__init__" (defScope s_Card) f 2) K mg (["self", "heading", "books", "see", "also", "is_free"] : List PySem.Str) [true, true, true, true, true, true] (["is_word", "are_books", "are_others"] : List PySem.Str) 2 := sx_body (by decide +kernel) (by decide +kernel)
  have A : Fam (bodyF P w K mg base (["self", "heading", "books", "see", "also", "is_free"] : List PySem.Str) "Card.__init__" (defScope s_Card) f 2) P w base := fam_body
  have Q : Scp (bodyF P w K mg base (["self", "heading", "books", "see", "also", "is_free"] : List PySem.Str) "Card.__init__" (defScope s_Card) f 2) (["self", "heading", "books", "see", "also", "is_free"] : List PySem.Str) (defScope s_Card) := scp_body
  have L : Lx (bodyF P w K mg base (["self", "heading", "books", "see", "also", "is_free"] : List PySem.Str) "Card.__init__" (defScope s_Card) f 2) (["self", "heading", "books", "see", "also", "is_free"] : List PySem.Str) [false, false, false, false, false, true] := lx_body nd (by decide +kernel)
  unfold d_Card
  exact (ss_cons (own1 := [.I, .V, .V, .V, .V, .U]) (st_if (et_not (et_val (ex_callV A S 0 h_is_word (es_cons (ex_var S 1) es_nil)))) (ss_cons (own1 := [.I, .V, .V, .V, .V, .U]) st_bad
    ss_nil) ss_nil)
    (ss_cons (own1 := [.I, .V, .V, .V, .V, .U]) (st_if (et_not (et_val (ex_callV A S 1 h_are_books (es_cons (ex_var S 2) es_nil)))) (ss_cons (own1 := [.I, .V, .V, .V, .V, .U]) st_bad
    ss_nil) ss_nil)
    (ss_cons (own1 := [.I, .V, .V, .V, .V, .V]) (st_set S 5 L (ex_and (ex_eq S (ex_var S 2) (ex_tup es_nil)) (ex_and (ex_eq S (ex_var S 4) (ex_tup es_nil)) (ex_and (ex_callV A S 0 h_is_word (es_cons (ex_var S 3) es_nil)) (ex_one (ex_ne S (ex_var S 3) (ex_var S 1)))))))
    (ss_cons (own1 := [.I, .V, .V, .V, .V, .V]) (st_if (EW.et (ew_and (et_cmp (rl_ne S) od_ne (nomark _) (ex_var S 3) ex_str) (ew_and1 (et_not (et_val (ex_var S 5)))))) (ss_cons (own1 := [.I, .V, .V, .V, .V, .V]) st_bad
    ss_nil) ss_nil)
    (ss_cons (own1 := [.I, .V, .V, .V, .V, .V]) (st_if (et_not (et_val (ex_callV A S 2 h_are_others (es_cons (ex_var S 1) (es_cons (ex_var S 4) es_nil))))) (ss_cons (own1 := [.I, .V, .V, .V, .V, .V]) st_bad
    ss_nil) ss_nil)
    (ss_cons (own1 := [.I, .V, .V, .V, .V, .V]) (st_slot S T.k_Card 0 (ex_tup (es_cons (ex_var S 1) (es_cons (ex_var S 2) (es_cons (ex_var S 3) (es_cons (ex_var S 4) es_nil))))))
    (ss_nil (by decide))))))))
/-! _law_taken -/
abbrev s__law_taken : Stmt := top 38
def d__law_taken : SM := (seqS (ifS (asB (op2 gtD (ixOwn 0 (kD (.int 3))) (kD (.int 0)))) (seqS (setS 2 (op2 (intOp (fun _ j => decide (0 < j)) fun i j => .int (i % j)) (callD intD (consD (ixOwn 0 (kD (.int 3))) nilD)) (vD 1))) (seqS (setIxS 0 (kD (.int 3)) (op2 (intOp divC fun i j => .int (i / j)) (ixOwn 0 (kD (.int 3))) (vD 1))) (seqS (retS (vD 2)) nxS))) nxS) (seqS (setIxS 0 (kD (.int 1)) (op2 addD (ixOwn 0 (kD (.int 1))) (kD (.int 1)))) (seqS (ifS (asB (op2 gtD (ixOwn 0 (kD (.int 1))) (callD lenD (consD (ixOwn 0 (kD (.int 0))) nilD)))) (seqS (setIxS 0 (kD (.int 2)) (op2 (intOp (fun _ j => decide (0 < j)) fun i j => .int (i % j)) (callD intD (consD (op2 addD (op2 (intOp mulC fun i j => .int (i * j)) (ixOwn 0 (kD (.int 2))) (kD (.int 48271))) (kD (.int 11))) nilD)) (kD (.int 2147483647)))) (seqS (retS (op2 (intOp (fun _ j => decide (0 < j)) fun i j => .int (i % j)) (callD intD (consD (op2 (intOp divC fun i j => .int (i / j)) (ixOwn 0 (kD (.int 2))) (kD (.int 7))) nilD)) (vD 1))) nxS)) nxS) (seqS (setS 3 (op2 ixD (ixOwn 0 (kD (.int 0))) (op2 (intOp (fun _ _ => true) fun i j => .int (i - j)) (ixOwn 0 (kD (.int 1))) (kD (.int 1))))) (seqS (setIxS 0 (kD (.int 2)) (op2 (intOp (fun _ j => decide (0 < j)) fun i j => .int (i % j)) (callD intD (consD (op2 addD (op2 addD (op2 (intOp mulC fun i j => .int (i * j)) (ixOwn 0 (kD (.int 2))) (kD (.int 48271))) (vD 3)) (kD (.int 11))) nilD)) (kD (.int 2147483647)))) (seqS (ifS (asB (op2 geD (vD 3) (op2 (intOp powC fun i j => .int (i ^ j.toNat)) (kD (.int 10)) (kD (.int 18))))) (seqS (setIxS 0 (kD (.int 3)) (op2 (intOp divC fun i j => .int (i / j)) (vD 3) (vD 1))) nxS) nxS) (seqS (retS (op2 (intOp (fun _ j => decide (0 < j)) fun i j => .int (i % j)) (callD intD (consD (vD 3) nilD)) (vD 1))) nxS)))))))
def F__law_taken : FRf := runR 4 1 d__law_taken
theorem t__law_taken {P : Program} {w : World} {K : PySem.W.Frag} {mg : Str → Option Value} {base : Heap} {f : Addr} (T : Txt K mg)  :
    STs (bodyF P w K mg base (["_law_row", "_law_many", "_law_found", "_law_cell"] : List PySem.Str) "_law_taken" (defScope s__law_taken) f 0) K (ctlR 4) [.R, .V, .U, .U] (defBody s__law_taken) d__law_taken [.R, .U, .U, .U] := by
  have nd : ((["_law_row", "_law_many", "_law_found", "_law_cell"] : List PySem.Str)).Nodup := by decide +kernel
  have S : Sx (bodyF P w K mg base (["_law_row", "_law_many", "_law_found", "_law_cell"] : List PySem.Str) "_law_taken" (defScope s__law_taken) f 0) K mg (["_law_row", "_law_many", "_law_found", "_law_cell"] : List PySem.Str) [true, true, true, true] (["int", "len"] : List PySem.Str) 0 := sx_body (by decide +kernel) (by decide +kernel)
  have A : Fam (bodyF P w K mg base (["_law_row", "_law_many", "_law_found", "_law_cell"] : List PySem.Str) "_law_taken" (defScope s__law_taken) f 0) P w base := fam_body
  have Q : Scp (bodyF P w K mg base (["_law_row", "_law_many", "_law_found", "_law_cell"] : List PySem.Str) "_law_taken" (defScope s__law_taken) f 0) (["_law_row", "_law_many", "_law_found", "_law_cell"] : List PySem.Str) (defScope s__law_taken) := scp_body
  have L : Lx (bodyF P w K mg base (["_law_row", "_law_many", "_law_found", "_law_cell"] : List PySem.Str) "_law_taken" (defScope s__law_taken) f 0) (["_law_row", "_law_many", "_law_found", "_law_cell"] : List PySem.Str) [false, false, true, true] := lx_body nd (by decide +kernel)
  unfold d__law_taken
  exact (ss_cons (own1 := [.R, .V, .U, .U]) (st_if (et_cmp (fun _ _ => or_gt) od_gt (nomark _) (ex_ixOwn S 0 ex_int) ex_int) (ss_cons (own1 := [.R, .V, .V, .U]) (st_set S 2 L (ex_mod (ex_intc S 0 T.f_int (ex_ixOwn S 0 ex_int)) (ex_var S 1)))
    (ss_cons (own1 := [.R, .V, .V, .U]) (st_setIx S 0 ex_int (ex_fdiv (ex_ixOwn S 0 ex_int) (ex_var S 1)))
    (ss_cons (own1 := [.R, .V, .U, .U]) (st_ret (ex_var S 2) (by decide))
    ss_nil))) ss_nil)
    (ss_cons (own1 := [.R, .V, .U, .U]) (st_setIx S 0 ex_int (ex_add S (ex_ixOwn S 0 ex_int) ex_int))
    (ss_cons (own1 := [.R, .V, .U, .U]) (st_if (et_cmp (fun _ _ => or_gt) od_gt (nomark _) (ex_ixOwn S 0 ex_int) (ex_len S 1 T.f_len (ex_ixOwn S 0 ex_int))) (ss_cons (own1 := [.R, .V, .U, .U]) (st_setIx S 0 ex_int (ex_mod (ex_intc S 0 T.f_int (ex_add S (ex_mul (ex_ixOwn S 0 ex_int) ex_int) ex_int)) ex_int))
    (ss_cons (own1 := [.R, .V, .U, .U]) (st_ret (ex_mod (ex_intc S 0 T.f_int (ex_fdiv (ex_ixOwn S 0 ex_int) ex_int)) (ex_var S 1)) (by decide))
    ss_nil)) ss_nil)
    (ss_cons (own1 := [.R, .V, .U, .V]) (st_set S 3 L (ex_ix S (ex_ixOwn S 0 ex_int) (ex_sub (ex_ixOwn S 0 ex_int) ex_int)))
    (ss_cons (own1 := [.R, .V, .U, .V]) (st_setIx S 0 ex_int (ex_mod (ex_intc S 0 T.f_int (ex_add S (ex_add S (ex_mul (ex_ixOwn S 0 ex_int) ex_int) (ex_var S 3)) ex_int)) ex_int))
    (ss_cons (own1 := [.R, .V, .U, .V]) (st_if (et_cmp (fun _ _ => or_ge) od_ge (nomark _) (ex_var S 3) (ex_pow ex_int ex_int)) (ss_cons (own1 := [.R, .V, .U, .V]) (st_setIx S 0 ex_int (ex_fdiv (ex_var S 3) (ex_var S 1)))
    ss_nil) ss_nil)
    (ss_cons (own1 := [.R, .U, .U, .U]) (st_ret (ex_mod (ex_intc S 0 T.f_int (ex_var S 3)) (ex_var S 1)) (by decide))
    ss_nil)))))))
/-! _law_card -/
abbrev s__law_card : Stmt := top 39
def d__law_card : SM := (seqS (setS 1 (lstM (lstD (consD (kD (.str "ant")) (consD (kD (.str "bee")) (consD (kD (.str "cat")) (consD (kD (.str "dog")) (consD (kD (.str "elk")) nilD)))))))) (seqS (unpS (bTup 2 (bCons (bName 2) (bCons (bName 3) bNil))) (tupD (consD (op2 ixD (vD 1) (callR F__law_taken 0 (consD (kD (.int 5)) nilD))) (consD (callR F__law_taken 0 (consD (kD (.int 3)) nilD)) nilD)))) (seqS (setLS 4 (lcD (bName 6) (itD (op2 addD (vD 1) (lstM (lstD (consD (kD (.str "fox")) nilD))))) (asB (op2 neD (vD 6) (vD 2))) (vD 6) [6])) (seqS (ifS (asB (op2 eqD (vD 3) (kD (.int 0)))) (seqS (retS (callD (fun xs => makeD "Card" F_Card (xs ++ [.tup []])) (consD (vD 2) (consD (tupD nilD) (consD (ixOwn 4 (callR F__law_taken 0 (consD (kD (.int 5)) nilD))) nilD))))) nxS) nxS) (seqS (setS 5 (callD tupleD (consD (slM (lstM (lcD (bName 6) (itD (vD 4)) (asB (op2 eqD (callR F__law_taken 0 (consD (kD (.int 4)) nilD)) (kD (.int 0)))) (vD 6) [6])) noP (someP (kD (.int 4)))) nilD))) (seqS (retS (callD (fun xs => makeD "Card" F_Card (xs ++ [])) (consD (vD 2) (consD (callD tupleD (consD (lstM (lcD (bName 7) (itD (tupD (consD (kD (.int 1)) (consD (kD (.int 2)) (consD (kD (.int 3)) (consD (kD (.int 300)) nilD)))))) (asB (op2 eqD (callR F__law_taken 0 (consD (kD (.int 3)) nilD)) (kD (.int 0)))) (vD 7) [7])) nilD)) (consD (kD (.str "")) (consD (vD 5) nilD)))))) nxS))))))
def F__law_card : FRf := runR 8 0 d__law_card
theorem t__law_card {P : Program} {w : World} {K : PySem.W.Frag} {mg : Str → Option Value} {base : Heap} {f : Addr} (T : Txt K mg) {fd_Card : FuncData} (i_Card : ClI P w K mg base "Card" (He.fAd K ("Card", some "__init__")) fd_Card (["self", "heading", "books", "see", "also"] : List PySem.Str) 3 F_Card) (b_Card_p3 : BdD K fd_Card (["self", "heading", "books", "see", "also"] : List PySem.Str) [.tup []]) (b_Card_p4 : BdD K fd_Card (["self", "heading", "books", "see", "also"] : List PySem.Str) []) {fd__law_taken : FuncData} (h__law_taken : FnRr P w K mg base "_law_taken" (He.fAd K ("_law_taken", none)) fd__law_taken (["_law_row", "_law_many"] : List PySem.Str) 1 F__law_taken) :
    STs (bodyF P w K mg base (["_law_row", "_law_names", "_law_name", "_law_pick", "_law_others", "_law_more", "_law_other", "_law_one"] : List PySem.Str) "_law_card" (defScope s__law_card) f 4) K (ctlR 8) [.R, .U, .U, .U, .U, .U, .U, .U] (defBody s__law_card) d__law_card [.R, .U, .U, .U, .U, .U, .U, .U] := by
  have nd : ((["_law_row", "_law_names", "_law_name", "_law_pick", "_law_others", "_law_more", "_law_other", "_law_one"] : List PySem.Str)).Nodup := by decide +kernel
  have S : Sx (bodyF P w K mg base (["_law_row", "_law_names", "_law_name", "_law_pick", "_law_others", "_law_more", "_law_other", "_law_one"] : List PySem.Str) "_law_card" (defScope s__law_card) f 4) K mg (["_law_row", "_law_names", "_law_name", "_law_pick", "_law_others", "_law_more", "_law_other", "_law_one"] : List PySem.Str) [true, true, true, true, true, true, false, false] (["_law_taken", "Card", "tuple"] : List PySem.Str) 4 := sx_body (by decide +kernel) (by decide +kernel)
  have A : Fam (bodyF P w K mg base (["_law_row", "_law_names", "_law_name", "_law_pick", "_law_others", "_law_more", "_law_other", "_law_one"] : List PySem.Str) "_law_card" (defScope s__law_card) f 4) P w base := fam_body
  have Q : Scp (bodyF P w K mg base (["_law_row", "_law_names", "_law_name", "_law_pick", "_law_others", "_law_more", "_law_other", "_law_one"] : List PySem.Str) "_law_card" (defScope s__law_card) f 4) (["_law_row", "_law_names", "_law_name", "_law_pick", "_law_others", "_law_more", "_law_other", "_law_one"] : List PySem.Str) (defScope s__law_card) := scp_body
  have L : Lx (bodyF P w K mg base (["_law_row", "_law_names", "_law_name", "_law_pick", "_law_others", "_law_more", "_law_other", "_law_one"] : List PySem.Str) "_law_card" (defScope s__law_card) f 4) (["_law_row", "_law_names", "_law_name", "_law_pick", "_law_others", "_law_more", "_law_other", "_law_one"] : List PySem.Str) [false, true, true, true, true, true, false, false] := lx_body nd (by decide +kernel)
  unfold d__law_card
  exact (ss_cons (own1 := [.R, .V, .U, .U, .U, .U, .U, .U]) (st_set S 1 L (EL.ex (el_lst (es_cons ex_str (es_cons ex_str (es_cons ex_str (es_cons ex_str (es_cons ex_str es_nil))))))))
    (ss_cons (own1 := [.R, .V, .V, .V, .U, .U, .U, .U]) (st_unp (ex_tup (es_cons (ex_ix S (ex_var S 1) (ex_callR A S 0 0 h__law_taken (es_cons ex_int es_nil))) (es_cons (ex_callR A S 0 0 h__law_taken (es_cons ex_int es_nil)) es_nil))) (vs := [2, 3]) (tg_tup S (tgs_cons (tg_name S.hN 2 L) (tgs_cons (tg_name S.hN 3 L) tgs_nil))) (h3 := (by rintro _ ⟨_, _, _, _, _, _, _, rfl⟩; rfl)))
    (ss_cons (own1 := [.R, .V, .V, .V, .L, .U, .U, .U]) (st_setLcB 4 [("_law_other", 6)] [false, false, true, false, false, false, true, false] [false, false, false, false, false, false, true, false] ([] : List PySem.Str) S A Q L [.R, .V, .V, .V, .U, .U, .V, .U] (loc_body (by decide +kernel)) (it_seq S (ex_add S (ex_var S 1) (EL.ex (el_lst (es_cons ex_str es_nil))))) (fun S1 L1 => (tg_name S1.hN 6 L1)) (fun S1 A1 Q1 => (ets_one (et_cmp (rl_ne S1) od_ne (nomark _) (ex_var S1 6) (ex_var S1 2)))) (fun S1 A1 Q1 => (ex_var S1 6)) (kind_body (by decide +kernel)))
    (ss_cons (own1 := [.R, .V, .V, .V, .L, .U, .U, .U]) (st_if (et_cmp (rl_eq S) od_eq (nomark _) (ex_var S 3) ex_int) (ss_cons (own1 := [.R, .V, .V, .V, .L, .U, .U, .U]) (st_ret (ex_makeB A S 1 i_Card b_Card_p3 (es_cons (ex_var S 2) (es_cons (ex_tup es_nil) (es_cons (ex_ixOwn S 4 (ex_callR A S 0 0 h__law_taken (es_cons ex_int es_nil))) es_nil)))) (by decide))
    ss_nil) ss_nil)
    (ss_freeze 4 (ss_cons (own1 := [.R, .V, .V, .V, .V, .V, .U, .U]) (st_set S 5 L (ex_tuple S 2 T.f_tuple (ex_slice S (EL.ex (el_lcB [("_law_other", 6)] [true, false, false, false, false, false, true, false] [false, false, false, false, false, false, true, false] (["_law_taken"] : List PySem.Str) S A Q nd [.R, .V, .V, .V, .V, .U, .V, .U] (it_seq S (ex_var S 4)) (fun S1 L1 => (tg_name S1.hN 6 L1)) (fun S1 A1 Q1 => (ets_one (et_cmp (rl_eq S1) od_eq (nomark _) (ex_callR A1 S1 0 0 h__law_taken (es_cons ex_int es_nil)) ex_int))) (fun S1 A1 Q1 => (ex_var S1 6)))) eo_none (eo_some ex_int))))
    (ss_cons (own1 := [.R, .U, .U, .U, .U, .U, .U, .U]) (st_ret (ex_makeB A S 1 i_Card b_Card_p4 (es_cons (ex_var S 2) (es_cons (ex_tuple S 2 T.f_tuple (EL.ex (el_lcB [("_law_one", 7)] [true, false, false, false, false, false, false, true] [false, false, false, false, false, false, false, true] (["_law_taken"] : List PySem.Str) S A Q nd [.R, .V, .V, .V, .V, .V, .U, .V] (it_seq S (ex_tup (es_cons ex_int (es_cons ex_int (es_cons ex_int (es_cons ex_int es_nil)))))) (fun S1 L1 => (tg_name S1.hN 7 L1)) (fun S1 A1 Q1 => (ets_one (et_cmp (rl_eq S1) od_eq (nomark _) (ex_callR A1 S1 0 0 h__law_taken (es_cons ex_int es_nil)) ex_int))) (fun S1 A1 Q1 => (ex_var S1 7))))) (es_cons ex_str (es_cons (ex_var S 5) es_nil))))) (by decide))
    ss_nil)))))))
/-! _law_drawer -/
abbrev s__law_drawer : Stmt := top 40
def d__law_drawer : SM := (seqS (setLS 2 (lcD (bName 3) (rngD rng1 (consD (callR F__law_taken 0 (consD (op2 addD (vD 1) (kD (.int 1))) nilD)) nilD)) yesM (callR F__law_card 0 nilD) [3])) (seqS (ifS (asB (op2 eqD (callR F__law_taken 0 (consD (kD (.int 2)) nilD)) (kD (.int 0)))) (seqS (setS 2 (lstM (sortLM (op1 (isC "Card" F_Card_heading []) (vD 0)) (vD 2)))) nxS) nxS) (seqS (retS (callD (fun xs => makeD "Drawer" F_Drawer (xs ++ [])) (consD (callD tupleD (consD (vD 2) nilD)) nilD))) nxS)))
def F__law_drawer : FRf := runR 4 1 d__law_drawer
theorem t__law_drawer {P : Program} {w : World} {K : PySem.W.Frag} {mg : Str → Option Value} {base : Heap} (T : Txt K mg) (LT : LamT (bodyF P w K mg base (["_law_row", "_law_most", "_law_found", "_law_k"] : List PySem.Str) "_law_drawer" (defScope s__law_drawer) (He.fAd K ("_law_drawer", none)) 5) K) {fd_Drawer : FuncData} (i_Drawer : ClI P w K mg base "Drawer" (He.fAd K ("Drawer", some "__init__")) fd_Drawer (["self", "cards"] : List PySem.Str) 1 F_Drawer) (b_Drawer : Binds K fd_Drawer (["self", "cards"] : List PySem.Str) []) {fd_Card_heading : FuncData} (p_Card_heading : PrV P w K mg base "Card" "heading" (pOb K "Card" "heading") (pAd K "Card" "heading") fd_Card_heading (["self"] : List PySem.Str) 1 F_Card_heading) {fd__law_card : FuncData} (h__law_card : FnRr P w K mg base "_law_card" (He.fAd K ("_law_card", none)) fd__law_card (["_law_row"] : List PySem.Str) 5 F__law_card) {fd__law_taken : FuncData} (h__law_taken : FnRr P w K mg base "_law_taken" (He.fAd K ("_law_taken", none)) fd__law_taken (["_law_row", "_law_many"] : List PySem.Str) 1 F__law_taken) :
    STs (bodyF P w K mg base (["_law_row", "_law_most", "_law_found", "_law_k"] : List PySem.Str) "_law_drawer" (defScope s__law_drawer) (He.fAd K ("_law_drawer", none)) 5) K (ctlR 4) [.R, .V, .U, .U] (defBody s__law_drawer) d__law_drawer [.R, .U, .U, .U] := by
  have nd : ((["_law_row", "_law_most", "_law_found", "_law_k"] : List PySem.Str)).Nodup := by decide +kernel
  have S : Sx (bodyF P w K mg base (["_law_row", "_law_most", "_law_found", "_law_k"] : List PySem.Str) "_law_drawer" (defScope s__law_drawer) (He.fAd K ("_law_drawer", none)) 5) K mg (["_law_row", "_law_most", "_law_found", "_law_k"] : List PySem.Str) [true, true, true, false] (["_law_taken", "range", "sorted", "Drawer", "tuple"] : List PySem.Str) 5 := sx_body (by decide +kernel) (by decide +kernel)
  have A : Fam (bodyF P w K mg base (["_law_row", "_law_most", "_law_found", "_law_k"] : List PySem.Str) "_law_drawer" (defScope s__law_drawer) (He.fAd K ("_law_drawer", none)) 5) P w base := fam_body
  have Q : Scp (bodyF P w K mg base (["_law_row", "_law_most", "_law_found", "_law_k"] : List PySem.Str) "_law_drawer" (defScope s__law_drawer) (He.fAd K ("_law_drawer", none)) 5) (["_law_row", "_law_most", "_law_found", "_law_k"] : List PySem.Str) (defScope s__law_drawer) := scp_body
  have L : Lx (bodyF P w K mg base (["_law_row", "_law_most", "_law_found", "_law_k"] : List PySem.Str) "_law_drawer" (defScope s__law_drawer) (He.fAd K ("_law_drawer", none)) 5) (["_law_row", "_law_most", "_law_found", "_law_k"] : List PySem.Str) [false, false, true, false] := lx_body nd (by decide +kernel)
  unfold d__law_drawer
  exact (ss_cons (own1 := [.R, .V, .L, .U]) (st_setLcB 2 [("_law_k", 3)] [true, false, false, true] [false, false, false, true] (["_law_card"] : List PySem.Str) S A Q L [.R, .V, .U, .V] (loc_body (by decide +kernel)) (it_range1 S 1 T.f_range (es_cons (ex_callR A S 0 0 h__law_taken (es_cons (ex_add S (ex_var S 1) ex_int) es_nil)) es_nil)) (fun S1 L1 => (tg_name S1.hN 3 L1)) (fun S1 A1 Q1 => ets_nil) (fun S1 A1 Q1 => (ex_callR A1 S1 0 0 h__law_card es_nil)) (kind_body (by decide +kernel)))
    (ss_cons (own1 := [.R, .V, .V, .U]) (st_if (et_cmp (rl_eq S) od_eq (nomark _) (ex_callR A S 0 0 h__law_taken (es_cons ex_int es_nil)) ex_int) (ss_freeze 2 (ss_cons (own1 := [.R, .V, .V, .U]) (st_set S 2 L (EL.ex (el_sortLamB "_law_one" 2 ([] : List PySem.Str) 2 S A LT T.f_sorted (ex_var S 2) (fun S1 A1 => (ex_prop A1 S1 T.k_Card p_Card_heading (ex_var S1 0))))))
    ss_nil)) (ss_freeze 2 ss_nil))
    (ss_cons (own1 := [.R, .U, .U, .U]) (st_ret (ex_make A S 3 i_Drawer b_Drawer .nil (fun _ => .nil) (es_cons (ex_tuple S 4 T.f_tuple (ex_var S 2)) es_nil)) (by decide))
    ss_nil)))
/-! _law_rule -/
abbrev s__law_rule : Stmt := top 41
def d__law_rule : SM := (seqS (retS (op2 ixD (lstM (lstD (consD (kD (.str "all")) (consD (kD (.str "half")) (consD (kD (.str "leaf")) nilD))))) (callR F__law_taken 0 (consD (kD (.int 3)) nilD)))) nxS)
def F__law_rule : FRf := runR 1 0 d__law_rule
theorem t__law_rule {P : Program} {w : World} {K : PySem.W.Frag} {mg : Str → Option Value} {base : Heap} {f : Addr} (T : Txt K mg) {fd__law_taken : FuncData} (h__law_taken : FnRr P w K mg base "_law_taken" (He.fAd K ("_law_taken", none)) fd__law_taken (["_law_row", "_law_many"] : List PySem.Str) 1 F__law_taken) :
    STs (bodyF P w K mg base (["_law_row"] : List PySem.Str) "_law_rule" (defScope s__law_rule) f 1) K (ctlR 1) [.R] (defBody s__law_rule) d__law_rule [.R] := by
  have nd : ((["_law_row"] : List PySem.Str)).Nodup := by decide +kernel
  have S : Sx (bodyF P w K mg base (["_law_row"] : List PySem.Str) "_law_rule" (defScope s__law_rule) f 1) K mg (["_law_row"] : List PySem.Str) [true] (["_law_taken"] : List PySem.Str) 1 := sx_body (by decide +kernel) (by decide +kernel)
  have A : Fam (bodyF P w K mg base (["_law_row"] : List PySem.Str) "_law_rule" (defScope s__law_rule) f 1) P w base := fam_body
  have Q : Scp (bodyF P w K mg base (["_law_row"] : List PySem.Str) "_law_rule" (defScope s__law_rule) f 1) (["_law_row"] : List PySem.Str) (defScope s__law_rule) := scp_body
  have L : Lx (bodyF P w K mg base (["_law_row"] : List PySem.Str) "_law_rule" (defScope s__law_rule) f 1) (["_law_row"] : List PySem.Str) [false] := lx_body nd (by decide +kernel)
  unfold d__law_rule
  exact (ss_cons (own1 := [.R]) (st_ret (ex_ix S (EL.ex (el_lst (es_cons ex_str (es_cons ex_str (es_cons ex_str es_nil))))) (ex_callR A S 0 0 h__law_taken (es_cons ex_int es_nil))) (by decide))
    ss_nil)
/-! look_up -/
abbrev s_look_up : Stmt := top 31
def d_look_up : SM := (seqS (exprS (callD F_check_rule (consD (vD 1) nilD))) (seqS (exprS (callD F_check_heading (consD (vD 2) nilD))) (seqS (retS (callD F_looked_up (consD (vD 0) (consD (vD 1) (consD (vD 2) nilD))))) nxS)))
def F_look_up : FV := runV 3 3 d_look_up
theorem t_look_up {P : Program} {w : World} {K : PySem.W.Frag} {mg : Str → Option Value} {base : Heap} {f : Addr} (T : Txt K mg) {fd_check_heading : FuncData} (h_check_heading : FnV P w K mg base "check_heading" (He.fAd K ("check_heading", none)) fd_check_heading (["value"] : List PySem.Str) 2 F_check_heading) {fd_check_rule : FuncData} (h_check_rule : FnV P w K mg base "check_rule" (He.fAd K ("check_rule", none)) fd_check_rule (["rule"] : List PySem.Str) 1 F_check_rule) {fd_looked_up : FuncData} (h_looked_up : FnV P w K mg base "looked_up" (He.fAd K ("looked_up", none)) fd_looked_up (["drawer", "rule", "heading"] : List PySem.Str) 4 F_looked_up) :
    STs (bodyF P w K mg base (["drawer", "rule", "heading"] : List PySem.Str) "look_up" (defScope s_look_up) f 4) K (ctlV 3) [.V, .V, .V] (defBody s_look_up) d_look_up [.U, .U, .U] := by
  have nd : ((["drawer", "rule", "heading"] : List PySem.Str)).Nodup := by decide +kernel
  have S : Sx (bodyF P w K mg base (["drawer", "rule", "heading"] : List PySem.Str) "look_up" (defScope s_look_up) f 4) K mg (["drawer", "rule", "heading"] : List PySem.Str) [true, true, true] (["check_rule", "check_heading", "looked_up"] : List PySem.Str) 4 := sx_body (by decide +kernel) (by decide +kernel)
  have A : Fam (bodyF P w K mg base (["drawer", "rule", "heading"] : List PySem.Str) "look_up" (defScope s_look_up) f 4) P w base := fam_body
  have Q : Scp (bodyF P w K mg base (["drawer", "rule", "heading"] : List PySem.Str) "look_up" (defScope s_look_up) f 4) (["drawer", "rule", "heading"] : List PySem.Str) (defScope s_look_up) := scp_body
  have L : Lx (bodyF P w K mg base (["drawer", "rule", "heading"] : List PySem.Str) "look_up" (defScope s_look_up) f 4) (["drawer", "rule", "heading"] : List PySem.Str) [false, false, false] := lx_body nd (by decide +kernel)
  unfold d_look_up
  exact (ss_cons (own1 := [.V, .V, .V]) (st_expr (ex_callV A S 0 h_check_rule (es_cons (ex_var S 1) es_nil)))
    (ss_cons (own1 := [.V, .V, .V]) (st_expr (ex_callV A S 1 h_check_heading (es_cons (ex_var S 2) es_nil)))
    (ss_cons (own1 := [.U, .U, .U]) (st_ret (ex_callV A S 2 h_looked_up (es_cons (ex_var S 0) (es_cons (ex_var S 1) (es_cons (ex_var S 2) es_nil)))) (by decide))
    ss_nil)))
/-! Observer_could_find_x -/
abbrev s_Observer_could_find_x : Stmt := (clsOf (top 33)).getD 9 (.Pass ⟨0, 0, 0, 0⟩)
def d_Observer_could_find_x : SM := (seqS (retS (lstM (bnd (lstM (sclL [.M, .U, .U, .U] (lcD (bTup 3 (bCons (bName 1) (bCons (bName 2) (bCons (bName 3) bNil)))) (itD (op1 (fldD "Observer" 0) (vD 0))) (asB (op2 notND (vD 2) (kD .non))) (vD 2) [1, 2, 3]))) fun d => ofO (sortSetD d)))) nxS)
def F_Observer_could_find_x : FMf := onIns (runM 4 0 d_Observer_could_find_x)
theorem t_Observer_could_find_x {P : Program} {w : World} {K : PySem.W.Frag} {mg : Str → Option Value} {base : Heap} {f : Addr} (T : Txt K mg)  :
    STs (bodyF P w K mg base (["self", "pair", "place", "seen"] : List PySem.Str) "Observer.could_find" (defScope s_Observer_could_find_x) f 0) K (ctlM 4) [.M, .U, .U, .U] (defBody s_Observer_could_find_x) d_Observer_could_find_x [.M, .U, .U, .U] := by
  have nd : ((["self", "pair", "place", "seen"] : List PySem.Str)).Nodup := by decide +kernel
  have S : Sx (bodyF P w K mg base (["self", "pair", "place", "seen"] : List PySem.Str) "Observer.could_find" (defScope s_Observer_could_find_x) f 0) K mg (["self", "pair", "place", "seen"] : List PySem.Str) [true, false, false, false] (["sorted", "set"] : List PySem.Str) 0 := sx_body (by decide +kernel) (by decide +kernel)
  have A : Fam (bodyF P w K mg base (["self", "pair", "place", "seen"] : List PySem.Str) "Observer.could_find" (defScope s_Observer_could_find_x) f 0) P w base := fam_body
  have Q : Scp (bodyF P w K mg base (["self", "pair", "place", "seen"] : List PySem.Str) "Observer.could_find" (defScope s_Observer_could_find_x) f 0) (["self", "pair", "place", "seen"] : List PySem.Str) (defScope s_Observer_could_find_x) := scp_body
  have L : Lx (bodyF P w K mg base (["self", "pair", "place", "seen"] : List PySem.Str) "Observer.could_find" (defScope s_Observer_could_find_x) f 0) (["self", "pair", "place", "seen"] : List PySem.Str) [false, false, false, false] := lx_body nd (by decide +kernel)
  unfold d_Observer_could_find_x
  exact (ss_cons (own1 := [.M, .U, .U, .U]) (st_ret (EL.ex (el_sortedSet S 0 1 T.f_sorted T.f_set (EL.ex (el_lendO [.V, .U, .U, .U] (el_lcB [("pair", 1), ("place", 2), ("seen", 3)] [false, true, true, true] [false, true, true, true] ([] : List PySem.Str) S A Q nd [.V, .V, .V, .V] (it_seq S (ex_fldV S T.d_Observer 0 (ex_var S 0))) (fun S1 L1 => (tg_tup S1 (tgs_cons (tg_name S1.hN 1 L1) (tgs_cons (tg_name S1.hN 2 L1) (tgs_cons (tg_name S1.hN 3 L1) tgs_nil))))) (fun S1 A1 Q1 => (ets_one (et_cmp (fun _ _ => op_notN) od_notN (nomark _) (ex_var S1 2) ex_non))) (fun S1 A1 Q1 => (ex_var S1 2))) (hp := (by repeat (first | apply pure_asB | apply pure_callD | apply pure_consD | apply pure_op2 | apply pure_op1 | apply pure_lstM | apply pure_lcN | (apply pure_lcP (by decide)) | (apply pure_lcT (by decide)) | apply pure_slM | apply pure_someP | apply pure_noP | apply pure_tupD | apply pure_itD | apply pure_zipM | apply pure_yes | apply pure_vD | apply pure_kD | apply pure_nilD))))))) (by decide))
    ss_nil)
/-! Observer_narrow_l -/
abbrev s_Observer_narrow_l : Stmt := (clsOf (top 33)).getD 4 (.Pass ⟨0, 0, 0, 0⟩)
def d_Observer_narrow_l : SM := (seqS (ifS (asB (cmpOwn eqD 1 (lstM (lstD nilD)))) (seqS badS nxS) nxS) (mvLenS "Observer" 0 0 1))
def F_Observer_narrow_l : FMf := onIns (runM 2 1 d_Observer_narrow_l)
theorem t_Observer_narrow_l {P : Program} {w : World} {K : PySem.W.Frag} {mg : Str → Option Value} {base : Heap} {f : Addr} (T : Txt K mg)  :
    STs (bodyF P w K mg base (["self", "rows"] : List PySem.Str) "Observer.narrow" (defScope s_Observer_narrow_l) f 0) K (ctlM 2) [.M, .L] (defBody s_Observer_narrow_l) d_Observer_narrow_l [.M, .U] := by
  have nd : ((["self", "rows"] : List PySem.Str)).Nodup := by decide +kernel
  have S : Sx (bodyF P w K mg base (["self", "rows"] : List PySem.Str) "Observer.narrow" (defScope s_Observer_narrow_l) f 0) K mg (["self", "rows"] : List PySem.Str) [true, true] (["len"] : List PySem.Str) 0 := sx_body (by decide +kernel) (by decide +kernel)
  have A : Fam (bodyF P w K mg base (["self", "rows"] : List PySem.Str) "Observer.narrow" (defScope s_Observer_narrow_l) f 0) P w base := fam_body
  have Q : Scp (bodyF P w K mg base (["self", "rows"] : List PySem.Str) "Observer.narrow" (defScope s_Observer_narrow_l) f 0) (["self", "rows"] : List PySem.Str) (defScope s_Observer_narrow_l) := scp_body
  have L : Lx (bodyF P w K mg base (["self", "rows"] : List PySem.Str) "Observer.narrow" (defScope s_Observer_narrow_l) f 0) (["self", "rows"] : List PySem.Str) [false, false] := lx_body nd (by decide +kernel)
  unfold d_Observer_narrow_l
  exact (ss_cons (own1 := [.M, .L]) (st_if (et_eqOwn S 1 (EL.ex (el_lst es_nil))) (ss_cons (own1 := [.M, .L]) st_bad
    ss_nil) ss_nil)
    (sts_mvlen S T.d_Observer 0 0 1 0 T.f_len))
/-! Observer_check_open_x -/
abbrev s_Observer_check_open_x : Stmt := (clsOf (top 33)).getD 5 (.Pass ⟨0, 0, 0, 0⟩)
def d_Observer_check_open_x : SM := (seqS (ifS (asB (fldO "Observer" 2 0)) (seqS badS nxS) nxS) nxS)
def F_Observer_check_open_x : FMf := onIns (runM 1 0 d_Observer_check_open_x)
theorem t_Observer_check_open_x {P : Program} {w : World} {K : PySem.W.Frag} {mg : Str → Option Value} {base : Heap} {f : Addr} (T : Txt K mg)  :
    STs (bodyF P w K mg base (["self"] : List PySem.Str) "Observer.check_open" (defScope s_Observer_check_open_x) f 0) K (ctlM 1) [.M] (defBody s_Observer_check_open_x) d_Observer_check_open_x [.M] := by
  have nd : ((["self"] : List PySem.Str)).Nodup := by decide +kernel
  have S : Sx (bodyF P w K mg base (["self"] : List PySem.Str) "Observer.check_open" (defScope s_Observer_check_open_x) f 0) K mg (["self"] : List PySem.Str) [true] ([] : List PySem.Str) 0 := sx_body (by decide +kernel) (by decide +kernel)
  have A : Fam (bodyF P w K mg base (["self"] : List PySem.Str) "Observer.check_open" (defScope s_Observer_check_open_x) f 0) P w base := fam_body
  have Q : Scp (bodyF P w K mg base (["self"] : List PySem.Str) "Observer.check_open" (defScope s_Observer_check_open_x) f 0) (["self"] : List PySem.Str) (defScope s_Observer_check_open_x) := scp_body
  have L : Lx (bodyF P w K mg base (["self"] : List PySem.Str) "Observer.check_open" (defScope s_Observer_check_open_x) f 0) (["self"] : List PySem.Str) [false] := lx_body nd (by decide +kernel)
  unfold d_Observer_check_open_x
  exact (ss_cons (own1 := [.M]) (st_if (et_val (ex_fldO S T.d_Observer 2 0)) (ss_cons (own1 := [.M]) st_bad
    ss_nil) ss_nil)
    ss_nil)
/-! Observer_ended_x -/
abbrev s_Observer_ended_x : Stmt := (clsOf (top 33)).getD 7 (.Pass ⟨0, 0, 0, 0⟩)
def d_Observer_ended_x : SM := (seqS (exprS (callM "Observer" false F_Observer_check_open_x 0 nilD)) (seqS (setS 1 (callN "Observer" false F_Observer_narrow_l 0 (sclL [.M, .U, .U] (lcD (bName 2) (itD (op1 (fldD "Observer" 0) (vD 0))) (asB (op2 eqD (callD lenD (consD (op2 ixD (vD 2) (kD (.int 2))) nilD)) (callD lenD (consD (op1 (fldD "Observer" 1) (vD 0)) nilD)))) (vD 2) [2])))) (seqS (setF "Observer" 2 0 (kD (.bl true))) (seqS (retS (vD 1)) nxS))))
def F_Observer_ended_x : FMf := onIns (runM 3 0 d_Observer_ended_x)
theorem t_Observer_ended_x {P : Program} {w : World} {K : PySem.W.Frag} {mg : Str → Option Value} {base : Heap} {f : Addr} (T : Txt K mg) {fd_Observer_narrow_l : FuncData} (m_Observer_narrow_l : MtN P w K mg base "Observer" "narrow" (He.fAd K ("Observer", some "narrow")) fd_Observer_narrow_l (["self", "rows"] : List PySem.Str) 1 F_Observer_narrow_l) {fd_Observer_check_open_x : FuncData} (m_Observer_check_open_x : MtM P w K mg base "Observer" "check_open" (He.fAd K ("Observer", some "check_open")) fd_Observer_check_open_x (["self"] : List PySem.Str) 1 F_Observer_check_open_x) :
    STs (bodyF P w K mg base (["self", "found", "row"] : List PySem.Str) "Observer.ended" (defScope s_Observer_ended_x) f 1) K (ctlM 3) [.M, .U, .U] (defBody s_Observer_ended_x) d_Observer_ended_x [.M, .U, .U] := by
  have nd : ((["self", "found", "row"] : List PySem.Str)).Nodup := by decide +kernel
  have S : Sx (bodyF P w K mg base (["self", "found", "row"] : List PySem.Str) "Observer.ended" (defScope s_Observer_ended_x) f 1) K mg (["self", "found", "row"] : List PySem.Str) [true, true, false] ([] : List PySem.Str) 1 := sx_body (by decide +kernel) (by decide +kernel)
  have A : Fam (bodyF P w K mg base (["self", "found", "row"] : List PySem.Str) "Observer.ended" (defScope s_Observer_ended_x) f 1) P w base := fam_body
  have Q : Scp (bodyF P w K mg base (["self", "found", "row"] : List PySem.Str) "Observer.ended" (defScope s_Observer_ended_x) f 1) (["self", "found", "row"] : List PySem.Str) (defScope s_Observer_ended_x) := scp_body
  have L : Lx (bodyF P w K mg base (["self", "found", "row"] : List PySem.Str) "Observer.ended" (defScope s_Observer_ended_x) f 1) (["self", "found", "row"] : List PySem.Str) [false, true, false] := lx_body nd (by decide +kernel)
  unfold d_Observer_ended_x
  exact (ss_cons (own1 := [.M, .U, .U]) (st_expr (ex_methM0 A S T.d_Observer m_Observer_check_open_x false 0))
    (ss_cons (own1 := [.M, .V, .U]) (st_set S 1 L (ex_methN A S T.d_Observer m_Observer_narrow_l false 0 (el_lendO [.V, .U, .U] (el_lcB [("row", 2)] [true, false, true] [false, false, true] (["len"] : List PySem.Str) S A Q nd [.V, .U, .V] (it_seq S (ex_fldV S T.d_Observer 0 (ex_var S 0))) (fun S1 L1 => (tg_name S1.hN 2 L1)) (fun S1 A1 Q1 => (ets_one (et_cmp (rl_eq S1) od_eq (nomark _) (ex_len S1 0 T.f_len (ex_ix S1 (ex_var S1 2) ex_int)) (ex_len S1 0 T.f_len (ex_fldV S1 T.d_Observer 1 (ex_var S1 0)))))) (fun S1 A1 Q1 => (ex_var S1 2))) (hp := (by repeat (first | apply pure_asB | apply pure_callD | apply pure_consD | apply pure_op2 | apply pure_op1 | apply pure_lstM | apply pure_lcN | (apply pure_lcP (by decide)) | (apply pure_lcT (by decide)) | apply pure_slM | apply pure_someP | apply pure_noP | apply pure_tupD | apply pure_itD | apply pure_zipM | apply pure_yes | apply pure_vD | apply pure_kD | apply pure_nilD))))))
    (ss_cons (own1 := [.M, .V, .U]) (st_setF S T.d_Observer 2 0 ex_bl)
    (ss_cons (own1 := [.M, .U, .U]) (st_ret (ex_var S 1) (by decide))
    ss_nil))))
/-! Observer_most_looks_x -/
abbrev s_Observer_most_looks_x : Stmt := (clsOf (top 33)).getD 10 (.Pass ⟨0, 0, 0, 0⟩)
def d_Observer_most_looks_x : SM := (seqS (retS (op2 (intOp (fun _ _ => true) fun i j => .int (i - j)) (callD maxC (consD (lstM (sclL [.M, .U, .U, .U] (lcD (bTup 3 (bCons (bName 1) (bCons (bName 2) (bCons (bName 3) bNil)))) (itD (op1 (fldD "Observer" 0) (vD 0))) yesM (callD lenD (consD (vD 3) nilD)) [1, 2, 3]))) nilD)) (callD lenD (consD (fldO "Observer" 1 0) nilD)))) nxS)
def F_Observer_most_looks_x : FMf := onIns (runM 4 0 d_Observer_most_looks_x)
theorem t_Observer_most_looks_x {P : Program} {w : World} {K : PySem.W.Frag} {mg : Str → Option Value} {base : Heap} {f : Addr} (T : Txt K mg)  :
    STs (bodyF P w K mg base (["self", "pair", "place", "seen"] : List PySem.Str) "Observer.most_looks" (defScope s_Observer_most_looks_x) f 0) K (ctlM 4) [.M, .U, .U, .U] (defBody s_Observer_most_looks_x) d_Observer_most_looks_x [.M, .U, .U, .U] := by
  have nd : ((["self", "pair", "place", "seen"] : List PySem.Str)).Nodup := by decide +kernel
  have S : Sx (bodyF P w K mg base (["self", "pair", "place", "seen"] : List PySem.Str) "Observer.most_looks" (defScope s_Observer_most_looks_x) f 0) K mg (["self", "pair", "place", "seen"] : List PySem.Str) [true, false, false, false] (["max", "len"] : List PySem.Str) 0 := sx_body (by decide +kernel) (by decide +kernel)
  have A : Fam (bodyF P w K mg base (["self", "pair", "place", "seen"] : List PySem.Str) "Observer.most_looks" (defScope s_Observer_most_looks_x) f 0) P w base := fam_body
  have Q : Scp (bodyF P w K mg base (["self", "pair", "place", "seen"] : List PySem.Str) "Observer.most_looks" (defScope s_Observer_most_looks_x) f 0) (["self", "pair", "place", "seen"] : List PySem.Str) (defScope s_Observer_most_looks_x) := scp_body
  have L : Lx (bodyF P w K mg base (["self", "pair", "place", "seen"] : List PySem.Str) "Observer.most_looks" (defScope s_Observer_most_looks_x) f 0) (["self", "pair", "place", "seen"] : List PySem.Str) [false, false, false, false] := lx_body nd (by decide +kernel)
  unfold d_Observer_most_looks_x
  exact (ss_cons (own1 := [.M, .U, .U, .U]) (st_ret (ex_sub (ex_max S 0 T.f_max (EL.ex (el_lendO [.V, .U, .U, .U] (el_lcB [("pair", 1), ("place", 2), ("seen", 3)] [false, true, true, true] [false, true, true, true] (["len"] : List PySem.Str) S A Q nd [.V, .V, .V, .V] (it_seq S (ex_fldV S T.d_Observer 0 (ex_var S 0))) (fun S1 L1 => (tg_tup S1 (tgs_cons (tg_name S1.hN 1 L1) (tgs_cons (tg_name S1.hN 2 L1) (tgs_cons (tg_name S1.hN 3 L1) tgs_nil))))) (fun S1 A1 Q1 => ets_nil) (fun S1 A1 Q1 => (ex_len S1 0 T.f_len (ex_var S1 3)))) (hp := (by repeat (first | apply pure_asB | apply pure_callD | apply pure_consD | apply pure_op2 | apply pure_op1 | apply pure_lstM | apply pure_lcN | (apply pure_lcP (by decide)) | (apply pure_lcT (by decide)) | apply pure_slM | apply pure_someP | apply pure_noP | apply pure_tupD | apply pure_itD | apply pure_zipM | apply pure_yes | apply pure_vD | apply pure_kD | apply pure_nilD)))))) (ex_len S 1 T.f_len (ex_fldO S T.d_Observer 1 0))) (by decide))
    ss_nil)
/-! Observer_next_places_x -/
abbrev s_Observer_next_places_x : Stmt := (clsOf (top 33)).getD 8 (.Pass ⟨0, 0, 0, 0⟩)
def d_Observer_next_places_x : SM := (seqS (setS 1 (callD lenD (consD (fldO "Observer" 1 0) nilD))) (seqS (retS (lstM (bnd (lstM (sclL [.M, .V, .U, .U, .U] (lcD (bTup 3 (bCons (bName 2) (bCons (bName 3) (bCons (bName 4) bNil)))) (itD (op1 (fldD "Observer" 0) (vD 0))) (asB (op2 gtD (callD lenD (consD (vD 4) nilD)) (vD 1))) (op2 ixD (vD 4) (vD 1)) [2, 3, 4]))) fun d => ofO (sortSetD d)))) nxS))
def F_Observer_next_places_x : FMf := onIns (runM 5 0 d_Observer_next_places_x)
theorem t_Observer_next_places_x {P : Program} {w : World} {K : PySem.W.Frag} {mg : Str → Option Value} {base : Heap} {f : Addr} (T : Txt K mg)  :
    STs (bodyF P w K mg base (["self", "number", "pair", "place", "seen"] : List PySem.Str) "Observer.next_places" (defScope s_Observer_next_places_x) f 0) K (ctlM 5) [.M, .U, .U, .U, .U] (defBody s_Observer_next_places_x) d_Observer_next_places_x [.M, .U, .U, .U, .U] := by
  have nd : ((["self", "number", "pair", "place", "seen"] : List PySem.Str)).Nodup := by decide +kernel
  have S : Sx (bodyF P w K mg base (["self", "number", "pair", "place", "seen"] : List PySem.Str) "Observer.next_places" (defScope s_Observer_next_places_x) f 0) K mg (["self", "number", "pair", "place", "seen"] : List PySem.Str) [true, true, false, false, false] (["len", "sorted", "set"] : List PySem.Str) 0 := sx_body (by decide +kernel) (by decide +kernel)
  have A : Fam (bodyF P w K mg base (["self", "number", "pair", "place", "seen"] : List PySem.Str) "Observer.next_places" (defScope s_Observer_next_places_x) f 0) P w base := fam_body
  have Q : Scp (bodyF P w K mg base (["self", "number", "pair", "place", "seen"] : List PySem.Str) "Observer.next_places" (defScope s_Observer_next_places_x) f 0) (["self", "number", "pair", "place", "seen"] : List PySem.Str) (defScope s_Observer_next_places_x) := scp_body
  have L : Lx (bodyF P w K mg base (["self", "number", "pair", "place", "seen"] : List PySem.Str) "Observer.next_places" (defScope s_Observer_next_places_x) f 0) (["self", "number", "pair", "place", "seen"] : List PySem.Str) [false, true, false, false, false] := lx_body nd (by decide +kernel)
  unfold d_Observer_next_places_x
  exact (ss_cons (own1 := [.M, .V, .U, .U, .U]) (st_set S 1 L (ex_len S 0 T.f_len (ex_fldO S T.d_Observer 1 0)))
    (ss_cons (own1 := [.M, .U, .U, .U, .U]) (st_ret (EL.ex (el_sortedSet S 1 2 T.f_sorted T.f_set (EL.ex (el_lendO [.V, .V, .U, .U, .U] (el_lcB [("pair", 2), ("place", 3), ("seen", 4)] [false, true, true, true, true] [false, false, true, true, true] (["len"] : List PySem.Str) S A Q nd [.V, .V, .V, .V, .V] (it_seq S (ex_fldV S T.d_Observer 0 (ex_var S 0))) (fun S1 L1 => (tg_tup S1 (tgs_cons (tg_name S1.hN 2 L1) (tgs_cons (tg_name S1.hN 3 L1) (tgs_cons (tg_name S1.hN 4 L1) tgs_nil))))) (fun S1 A1 Q1 => (ets_one (et_cmp (fun _ _ => or_gt) od_gt (nomark _) (ex_len S1 0 T.f_len (ex_var S1 4)) (ex_var S1 1)))) (fun S1 A1 Q1 => (ex_ix S1 (ex_var S1 4) (ex_var S1 1)))) (hp := (by repeat (first | apply pure_asB | apply pure_callD | apply pure_consD | apply pure_op2 | apply pure_op1 | apply pure_lstM | apply pure_lcN | (apply pure_lcP (by decide)) | (apply pure_lcT (by decide)) | apply pure_slM | apply pure_someP | apply pure_noP | apply pure_tupD | apply pure_itD | apply pure_zipM | apply pure_yes | apply pure_vD | apply pure_kD | apply pure_nilD))))))) (by decide))
    ss_nil))
/-! Observer_saw_x -/
abbrev s_Observer_saw_x : Stmt := (clsOf (top 33)).getD 6 (.Pass ⟨0, 0, 0, 0⟩)
def d_Observer_saw_x : SM := (seqS (exprS (callM "Observer" false F_Observer_check_open_x 0 nilD)) (seqS (setS 2 (callD lenD (consD (fldO "Observer" 1 0) nilD))) (seqS (setS 3 (callN "Observer" false F_Observer_narrow_l 0 (sclL [.M, .V, .V, .U, .U] (lcD (bName 4) (itD (op1 (fldD "Observer" 0) (vD 0))) (asB (op2 eqD (slM (op2 ixD (vD 4) (kD (.int 2))) (someP (vD 2)) (someP (op2 addD (vD 2) (kD (.int 1))))) (tupD (consD (vD 1) nilD)))) (vD 4) [4])))) (seqS (setF "Observer" 1 0 (tupD (starD (fldO "Observer" 1 0) (consD (vD 1) nilD)))) (seqS (retS (vD 3)) nxS)))))
def F_Observer_saw_x : FMf := onIns (runM 5 1 d_Observer_saw_x)
theorem t_Observer_saw_x {P : Program} {w : World} {K : PySem.W.Frag} {mg : Str → Option Value} {base : Heap} {f : Addr} (T : Txt K mg) {fd_Observer_narrow_l : FuncData} (m_Observer_narrow_l : MtN P w K mg base "Observer" "narrow" (He.fAd K ("Observer", some "narrow")) fd_Observer_narrow_l (["self", "rows"] : List PySem.Str) 1 F_Observer_narrow_l) {fd_Observer_check_open_x : FuncData} (m_Observer_check_open_x : MtM P w K mg base "Observer" "check_open" (He.fAd K ("Observer", some "check_open")) fd_Observer_check_open_x (["self"] : List PySem.Str) 1 F_Observer_check_open_x) :
    STs (bodyF P w K mg base (["self", "place", "number", "found", "row"] : List PySem.Str) "Observer.saw" (defScope s_Observer_saw_x) f 1) K (ctlM 5) [.M, .V, .U, .U, .U] (defBody s_Observer_saw_x) d_Observer_saw_x [.M, .U, .U, .U, .U] := by
  have nd : ((["self", "place", "number", "found", "row"] : List PySem.Str)).Nodup := by decide +kernel
  have S : Sx (bodyF P w K mg base (["self", "place", "number", "found", "row"] : List PySem.Str) "Observer.saw" (defScope s_Observer_saw_x) f 1) K mg (["self", "place", "number", "found", "row"] : List PySem.Str) [true, true, true, true, false] (["len"] : List PySem.Str) 1 := sx_body (by decide +kernel) (by decide +kernel)
  have A : Fam (bodyF P w K mg base (["self", "place", "number", "found", "row"] : List PySem.Str) "Observer.saw" (defScope s_Observer_saw_x) f 1) P w base := fam_body
  have Q : Scp (bodyF P w K mg base (["self", "place", "number", "found", "row"] : List PySem.Str) "Observer.saw" (defScope s_Observer_saw_x) f 1) (["self", "place", "number", "found", "row"] : List PySem.Str) (defScope s_Observer_saw_x) := scp_body
  have L : Lx (bodyF P w K mg base (["self", "place", "number", "found", "row"] : List PySem.Str) "Observer.saw" (defScope s_Observer_saw_x) f 1) (["self", "place", "number", "found", "row"] : List PySem.Str) [false, false, true, true, false] := lx_body nd (by decide +kernel)
  unfold d_Observer_saw_x
  exact (ss_cons (own1 := [.M, .V, .U, .U, .U]) (st_expr (ex_methM0 A S T.d_Observer m_Observer_check_open_x false 0))
    (ss_cons (own1 := [.M, .V, .V, .U, .U]) (st_set S 2 L (ex_len S 0 T.f_len (ex_fldO S T.d_Observer 1 0)))
    (ss_cons (own1 := [.M, .V, .V, .V, .U]) (st_set S 3 L (ex_methN A S T.d_Observer m_Observer_narrow_l false 0 (el_lendO [.V, .V, .V, .U, .U] (el_lcB [("row", 4)] [false, true, true, false, true] [false, false, false, false, true] ([] : List PySem.Str) S A Q nd [.V, .V, .V, .U, .V] (it_seq S (ex_fldV S T.d_Observer 0 (ex_var S 0))) (fun S1 L1 => (tg_name S1.hN 4 L1)) (fun S1 A1 Q1 => (ets_one (et_cmp (rl_eq S1) od_eq (nomark _) (ex_slice S1 (ex_ix S1 (ex_var S1 4) ex_int) (eo_some (ex_var S1 2)) (eo_some (ex_add S1 (ex_var S1 2) ex_int))) (ex_tup (es_cons (ex_var S1 1) es_nil))))) (fun S1 A1 Q1 => (ex_var S1 4))) (hp := (by repeat (first | apply pure_asB | apply pure_callD | apply pure_consD | apply pure_op2 | apply pure_op1 | apply pure_lstM | apply pure_lcN | (apply pure_lcP (by decide)) | (apply pure_lcT (by decide)) | apply pure_slM | apply pure_someP | apply pure_noP | apply pure_tupD | apply pure_itD | apply pure_zipM | apply pure_yes | apply pure_vD | apply pure_kD | apply pure_nilD))))))
    (ss_cons (own1 := [.M, .V, .V, .V, .U]) (st_setF S T.d_Observer 1 0 (ex_tup (es_star S (ex_fldO S T.d_Observer 1 0) (es_cons (ex_var S 1) es_nil))))
    (ss_cons (own1 := [.M, .U, .U, .U, .U]) (st_ret (ex_var S 3) (by decide))
    ss_nil)))))
/-! Observer_is_closed_x -/
abbrev s_Observer_is_closed_x : Stmt := (clsOf (top 33)).getD 3 (.Pass ⟨0, 0, 0, 0⟩)
def d_Observer_is_closed_x : SM := (seqS (retS (fldO "Observer" 2 0)) nxS)
def F_Observer_is_closed_x : FMf := onIns (runM 1 0 d_Observer_is_closed_x)
theorem t_Observer_is_closed_x {P : Program} {w : World} {K : PySem.W.Frag} {mg : Str → Option Value} {base : Heap} {f : Addr} (T : Txt K mg)  :
    STs (bodyF P w K mg base (["self"] : List PySem.Str) "Observer.is_closed" (defScope s_Observer_is_closed_x) f 0) K (ctlM 1) [.M] (defBody s_Observer_is_closed_x) d_Observer_is_closed_x [.M] := by
  have nd : ((["self"] : List PySem.Str)).Nodup := by decide +kernel
  have S : Sx (bodyF P w K mg base (["self"] : List PySem.Str) "Observer.is_closed" (defScope s_Observer_is_closed_x) f 0) K mg (["self"] : List PySem.Str) [true] ([] : List PySem.Str) 0 := sx_body (by decide +kernel) (by decide +kernel)
  have A : Fam (bodyF P w K mg base (["self"] : List PySem.Str) "Observer.is_closed" (defScope s_Observer_is_closed_x) f 0) P w base := fam_body
  have Q : Scp (bodyF P w K mg base (["self"] : List PySem.Str) "Observer.is_closed" (defScope s_Observer_is_closed_x) f 0) (["self"] : List PySem.Str) (defScope s_Observer_is_closed_x) := scp_body
  have L : Lx (bodyF P w K mg base (["self"] : List PySem.Str) "Observer.is_closed" (defScope s_Observer_is_closed_x) f 0) (["self"] : List PySem.Str) [false] := lx_body nd (by decide +kernel)
  unfold d_Observer_is_closed_x
  exact (ss_cons (own1 := [.M]) (st_ret (ex_fldO S T.d_Observer 2 0) (by decide))
    ss_nil)
/-! Observer_pairs_x -/
abbrev s_Observer_pairs_x : Stmt := (clsOf (top 33)).getD 1 (.Pass ⟨0, 0, 0, 0⟩)
def d_Observer_pairs_x : SM := (seqS (retS (callD tupleD (consD (lstM (sclL [.M, .U, .U, .U] (lcD (bTup 3 (bCons (bName 1) (bCons (bName 2) (bCons (bName 3) bNil)))) (itD (op1 (fldD "Observer" 0) (vD 0))) yesM (vD 1) [1, 2, 3]))) nilD))) nxS)
def F_Observer_pairs_x : FMf := onIns (runM 4 0 d_Observer_pairs_x)
theorem t_Observer_pairs_x {P : Program} {w : World} {K : PySem.W.Frag} {mg : Str → Option Value} {base : Heap} {f : Addr} (T : Txt K mg)  :
    STs (bodyF P w K mg base (["self", "pair", "place", "seen"] : List PySem.Str) "Observer.pairs" (defScope s_Observer_pairs_x) f 0) K (ctlM 4) [.M, .U, .U, .U] (defBody s_Observer_pairs_x) d_Observer_pairs_x [.M, .U, .U, .U] := by
  have nd : ((["self", "pair", "place", "seen"] : List PySem.Str)).Nodup := by decide +kernel
  have S : Sx (bodyF P w K mg base (["self", "pair", "place", "seen"] : List PySem.Str) "Observer.pairs" (defScope s_Observer_pairs_x) f 0) K mg (["self", "pair", "place", "seen"] : List PySem.Str) [true, false, false, false] (["tuple"] : List PySem.Str) 0 := sx_body (by decide +kernel) (by decide +kernel)
  have A : Fam (bodyF P w K mg base (["self", "pair", "place", "seen"] : List PySem.Str) "Observer.pairs" (defScope s_Observer_pairs_x) f 0) P w base := fam_body
  have Q : Scp (bodyF P w K mg base (["self", "pair", "place", "seen"] : List PySem.Str) "Observer.pairs" (defScope s_Observer_pairs_x) f 0) (["self", "pair", "place", "seen"] : List PySem.Str) (defScope s_Observer_pairs_x) := scp_body
  have L : Lx (bodyF P w K mg base (["self", "pair", "place", "seen"] : List PySem.Str) "Observer.pairs" (defScope s_Observer_pairs_x) f 0) (["self", "pair", "place", "seen"] : List PySem.Str) [false, false, false, false] := lx_body nd (by decide +kernel)
  unfold d_Observer_pairs_x
  exact (ss_cons (own1 := [.M, .U, .U, .U]) (st_ret (ex_tuple S 0 T.f_tuple (EL.ex (el_lendO [.V, .U, .U, .U] (el_lcB [("pair", 1), ("place", 2), ("seen", 3)] [false, true, true, true] [false, true, true, true] ([] : List PySem.Str) S A Q nd [.V, .V, .V, .V] (it_seq S (ex_fldV S T.d_Observer 0 (ex_var S 0))) (fun S1 L1 => (tg_tup S1 (tgs_cons (tg_name S1.hN 1 L1) (tgs_cons (tg_name S1.hN 2 L1) (tgs_cons (tg_name S1.hN 3 L1) tgs_nil))))) (fun S1 A1 Q1 => ets_nil) (fun S1 A1 Q1 => (ex_var S1 1))) (hp := (by repeat (first | apply pure_asB | apply pure_callD | apply pure_consD | apply pure_op2 | apply pure_op1 | apply pure_lstM | apply pure_lcN | (apply pure_lcP (by decide)) | (apply pure_lcT (by decide)) | apply pure_slM | apply pure_someP | apply pure_noP | apply pure_tupD | apply pure_itD | apply pure_zipM | apply pure_yes | apply pure_vD | apply pure_kD | apply pure_nilD)))))) (by decide))
    ss_nil)
/-! Observer_places_x -/
abbrev s_Observer_places_x : Stmt := (clsOf (top 33)).getD 2 (.Pass ⟨0, 0, 0, 0⟩)
def d_Observer_places_x : SM := (seqS (retS (fldO "Observer" 1 0)) nxS)
def F_Observer_places_x : FMf := onIns (runM 1 0 d_Observer_places_x)
theorem t_Observer_places_x {P : Program} {w : World} {K : PySem.W.Frag} {mg : Str → Option Value} {base : Heap} {f : Addr} (T : Txt K mg)  :
    STs (bodyF P w K mg base (["self"] : List PySem.Str) "Observer.places" (defScope s_Observer_places_x) f 0) K (ctlM 1) [.M] (defBody s_Observer_places_x) d_Observer_places_x [.M] := by
  have nd : ((["self"] : List PySem.Str)).Nodup := by decide +kernel
  have S : Sx (bodyF P w K mg base (["self"] : List PySem.Str) "Observer.places" (defScope s_Observer_places_x) f 0) K mg (["self"] : List PySem.Str) [true] ([] : List PySem.Str) 0 := sx_body (by decide +kernel) (by decide +kernel)
  have A : Fam (bodyF P w K mg base (["self"] : List PySem.Str) "Observer.places" (defScope s_Observer_places_x) f 0) P w base := fam_body
  have Q : Scp (bodyF P w K mg base (["self"] : List PySem.Str) "Observer.places" (defScope s_Observer_places_x) f 0) (["self"] : List PySem.Str) (defScope s_Observer_places_x) := scp_body
  have L : Lx (bodyF P w K mg base (["self"] : List PySem.Str) "Observer.places" (defScope s_Observer_places_x) f 0) (["self"] : List PySem.Str) [false] := lx_body nd (by decide +kernel)
  unfold d_Observer_places_x
  exact (ss_cons (own1 := [.M]) (st_ret (ex_fldO S T.d_Observer 1 0) (by decide))
    ss_nil)
/-! law -/
abbrev s_law : Stmt := top 42
def b1_law : SM := (seqS (ifS (orB (asB (op2 (inU true) (tupD (consD (vD 5) (consD (vD 6) nilD))) (callM "Observer" true F_Observer_pairs_x 9 nilD))) (orB (asB (op2 (inD true) (op2 ixD (vD 8) (vD 11)) (callM "Observer" true F_Observer_next_places_x 9 nilD))) (asB (op2 neD (callM "Observer" true F_Observer_places_x 9 nilD) (slM (vD 8) noP (someP (vD 11))))))) (seqS (retS (kD (.bl false))) nxS) nxS) (seqS (appS 10 (callM "Observer" true F_Observer_saw_x 9 (consD (op2 ixD (vD 8) (vD 11)) nilD))) nxS))
def b2_law : SM := (seqS (setS 12 (op2 addD (vD 12) (lstM (lcD (bName 15) (itD (vD 2)) (asB (op2 eqD (op2 ixD (callD F_look_up (consD (vD 4) (consD (vD 13) (consD (vD 15) nilD)))) (kD (.int 1))) (vD 8))) (tupD (consD (vD 13) (consD (vD 15) nilD))) [15])))) nxS)
def b3_law : SM := (seqS (unpS (bTup 2 (bCons (bName 4) (bCons (bName 5) bNil))) (tupD (consD (callR F__law_drawer 1 (consD (kD (.int 10)) nilD)) (consD (callR F__law_rule 1 nilD) nilD)))) (seqS (setS 6 (op2 ixD (vD 2) (callR F__law_taken 1 (consD (kD (.int 6)) nilD)))) (seqS (unpS (bTup 2 (bCons (bName 7) (bCons (bName 8) bNil))) (callD F_look_up (consD (vD 4) (consD (vD 5) (consD (vD 6) nilD))))) (seqS (parS [9, 10] (consD (callD (makeM "Observer" F_Observer) (consD (vD 4) (consD (tupD (consD (kD (.str "all")) (consD (kD (.str "half")) (consD (kD (.str "leaf")) nilD)))) (consD (vD 2) nilD)))) (consD (lstM (lstD (consD (kD (.int 18)) nilD))) nilD))) (seqS (ifS (asB (op2 neD (callM "Observer" true F_Observer_most_looks_x 9 nilD) (callD maxC (consD (lstM (lcD (bName 13) (itD (callM "Observer" true F_Observer_pairs_x 9 nilD)) yesM (callD lenD (consD (op2 ixD (callD F_look_up (consD (vD 4) (consD (op2 ixD (vD 13) (kD (.int 0))) (consD (op2 ixD (vD 13) (kD (.int 1))) nilD)))) (kD (.int 1))) nilD)) [13])) nilD)))) (seqS (retS (kD (.bl false))) nxS) nxS) (seqS (forS (bName 11) (rngD rng1 (consD (callD lenD (consD (vD 8) nilD)) nilD)) b1_law) (seqS (appS 10 (callM "Observer" true F_Observer_ended_x 9 nilD)) (seqS (ifS (orB (asB (op2 neD (vD 10) (lstM (revM (lstM (sortM (vD 10))))))) (orB (asB (op2 neD (op2 ixD (vD 10) (op1 negD (kD (.int 1)))) (callD lenD (consD (callM "Observer" true F_Observer_pairs_x 9 nilD) nilD)))) (asB (op2 (inU true) (tupD (consD (vD 5) (consD (vD 6) nilD))) (callM "Observer" true F_Observer_pairs_x 9 nilD))))) (seqS (retS (kD (.bl false))) nxS) nxS) (seqS (setS 12 (lstM (lstD nilD))) (seqS (forS (bName 13) (itD (tupD (consD (kD (.str "all")) (consD (kD (.str "half")) (consD (kD (.str "leaf")) nilD))))) b2_law) (seqS (ifS (orB (asB (op2 neD (callM "Observer" true F_Observer_pairs_x 9 nilD) (callD tupleD (consD (vD 12) nilD)))) (orB (asB (op2 neD (callM "Observer" true F_Observer_next_places_x 9 nilD) (lstM (lstD nilD)))) (orB (asB (op2 neD (callM "Observer" true F_Observer_most_looks_x 9 nilD) (kD (.int 0)))) (notB (asB (callM "Observer" true F_Observer_is_closed_x 9 nilD)))))) (seqS (retS (kD (.bl false))) nxS) nxS) (seqS (setLS 14 (lcD (bTup 2 (bCons (bName 13) (bCons (bName 15) bNil))) (itD (vD 12)) yesM (op2 ixD (callD F_look_up (consD (vD 4) (consD (vD 13) (consD (vD 15) nilD)))) (kD (.int 0))) [13, 15])) (seqS (ifS (asB (op2 neD (callM "Observer" true F_Observer_could_find_x 9 nilD) (lstM (bnd (lstM (lcD (bName 11) (itD (vD 14)) (asB (op2 notND (vD 11) (kD .non))) (vD 11) [11])) fun d => ofO (sortSetD d))))) (seqS (retS (kD (.bl false))) nxS) nxS) (seqS (ifS (andB (asB (op2 notND (vD 7) (kD .non))) (asB (op2 (inD true) (vD 7) (callM "Observer" true F_Observer_could_find_x 9 nilD)))) (seqS (retS (kD (.bl false))) nxS) nxS) nxS))))))))))))))
def d_law : SM := (seqS (setLS 1 (lstD (consD (vD 0) (consD (kD (.int 0)) (consD (kD (.int 0)) (consD (kD (.int 0)) nilD)))))) (seqS (setS 2 (tupD (consD (kD (.str "ant")) (consD (kD (.str "bee")) (consD (kD (.str "cat")) (consD (kD (.str "dog")) (consD (kD (.str "elk")) (consD (kD (.str "fox")) nilD)))))))) (seqS (forS (bName 3) (rngD rng1 (consD (kD (.int 5)) nilD)) b3_law) (seqS (retS (kD (.bl true))) nxS))))
def F_law : FV := runV 16 1 d_law
theorem t_law {P : Program} {w : World} {K : PySem.W.Frag} {mg : Str → Option Value} {base : Heap} {f : Addr} (T : Txt K mg) {fd_Observer : FuncData} (i_Observer : ClM P w K mg base "Observer" (He.fAd K ("Observer", some "__init__")) fd_Observer (["self", "drawer", "rules", "headings"] : List PySem.Str) 5 F_Observer) {fd__law_drawer : FuncData} (h__law_drawer : FnRr P w K mg base "_law_drawer" (He.fAd K ("_law_drawer", none)) fd__law_drawer (["_law_row", "_law_most"] : List PySem.Str) 6 F__law_drawer) {fd__law_rule : FuncData} (h__law_rule : FnRr P w K mg base "_law_rule" (He.fAd K ("_law_rule", none)) fd__law_rule (["_law_row"] : List PySem.Str) 2 F__law_rule) {fd__law_taken : FuncData} (h__law_taken : FnRr P w K mg base "_law_taken" (He.fAd K ("_law_taken", none)) fd__law_taken (["_law_row", "_law_many"] : List PySem.Str) 1 F__law_taken) {fd_look_up : FuncData} (h_look_up : FnV P w K mg base "look_up" (He.fAd K ("look_up", none)) fd_look_up (["drawer", "rule", "heading"] : List PySem.Str) 5 F_look_up) {fd_Observer_could_find_x : FuncData} (m_Observer_could_find_x : MtM P w K mg base "Observer" "could_find" (He.fAd K ("Observer", some "could_find")) fd_Observer_could_find_x (["self"] : List PySem.Str) 1 F_Observer_could_find_x) {fd_Observer_ended_x : FuncData} (m_Observer_ended_x : MtM P w K mg base "Observer" "ended" (He.fAd K ("Observer", some "ended")) fd_Observer_ended_x (["self"] : List PySem.Str) 2 F_Observer_ended_x) {fd_Observer_most_looks_x : FuncData} (m_Observer_most_looks_x : MtM P w K mg base "Observer" "most_looks" (He.fAd K ("Observer", some "most_looks")) fd_Observer_most_looks_x (["self"] : List PySem.Str) 1 F_Observer_most_looks_x) {fd_Observer_next_places_x : FuncData} (m_Observer_next_places_x : MtM P w K mg base "Observer" "next_places" (He.fAd K ("Observer", some "next_places")) fd_Observer_next_places_x (["self"] : List PySem.Str) 1 F_Observer_next_places_x) {fd_Observer_saw_x : FuncData} (m_Observer_saw_x : MtM P w K mg base "Observer" "saw" (He.fAd K ("Observer", some "saw")) fd_Observer_saw_x (["self", "place"] : List PySem.Str) 2 F_Observer_saw_x) {fd_Observer_is_closed_x : FuncData} (p_Observer_is_closed_x : PrM P w K mg base "Observer" "is_closed" (pOb K "Observer" "is_closed") (pAd K "Observer" "is_closed") fd_Observer_is_closed_x (["self"] : List PySem.Str) 1 F_Observer_is_closed_x) {fd_Observer_pairs_x : FuncData} (p_Observer_pairs_x : PrM P w K mg base "Observer" "pairs" (pOb K "Observer" "pairs") (pAd K "Observer" "pairs") fd_Observer_pairs_x (["self"] : List PySem.Str) 1 F_Observer_pairs_x) {fd_Observer_places_x : FuncData} (p_Observer_places_x : PrM P w K mg base "Observer" "places" (pOb K "Observer" "places") (pAd K "Observer" "places") fd_Observer_places_x (["self"] : List PySem.Str) 1 F_Observer_places_x) :
    STs (bodyF P w K mg base (["_law_script", "_law_row", "_law_names", "_law_turn", "_law_drawer_here", "_law_rule_here", "_law_name", "_law_place", "_law_seen", "_law_watch", "_law_counts", "_law_k", "_law_due", "_law_one", "_law_found", "_law_other"] : List PySem.Str) "law" (defScope s_law) f 6) K (ctlV 16) [.V, .U, .U, .U, .U, .U, .U, .U, .U, .U, .U, .U, .U, .U, .U, .U] (defBody s_law) d_law [.U, .U, .U, .U, .U, .U, .U, .U, .U, .U, .U, .U, .U, .U, .U, .U] := by
  have nd : ((["_law_script", "_law_row", "_law_names", "_law_turn", "_law_drawer_here", "_law_rule_here", "_law_name", "_law_place", "_law_seen", "_law_watch", "_law_counts", "_law_k", "_law_due", "_law_one", "_law_found", "_law_other"] : List PySem.Str)).Nodup := by decide +kernel
  have S : Sx (bodyF P w K mg base (["_law_script", "_law_row", "_law_names", "_law_turn", "_law_drawer_here", "_law_rule_here", "_law_name", "_law_place", "_law_seen", "_law_watch", "_law_counts", "_law_k", "_law_due", "_law_one", "_law_found", "_law_other"] : List PySem.Str) "law" (defScope s_law) f 6) K mg (["_law_script", "_law_row", "_law_names", "_law_turn", "_law_drawer_here", "_law_rule_here", "_law_name", "_law_place", "_law_seen", "_law_watch", "_law_counts", "_law_k", "_law_due", "_law_one", "_law_found", "_law_other"] : List PySem.Str) [true, true, true, true, true, true, true, true, true, true, true, true, true, true, true, false] (["range", "_law_rule", "_law_drawer", "_law_taken", "look_up", "Observer", "max", "len", "sorted", "tuple", "set"] : List PySem.Str) 6 := sx_body (by decide +kernel) (by decide +kernel)
  have A : Fam (bodyF P w K mg base (["_law_script", "_law_row", "_law_names", "_law_turn", "_law_drawer_here", "_law_rule_here", "_law_name", "_law_place", "_law_seen", "_law_watch", "_law_counts", "_law_k", "_law_due", "_law_one", "_law_found", "_law_other"] : List PySem.Str) "law" (defScope s_law) f 6) P w base := fam_body
  have Q : Scp (bodyF P w K mg base (["_law_script", "_law_row", "_law_names", "_law_turn", "_law_drawer_here", "_law_rule_here", "_law_name", "_law_place", "_law_seen", "_law_watch", "_law_counts", "_law_k", "_law_due", "_law_one", "_law_found", "_law_other"] : List PySem.Str) "law" (defScope s_law) f 6) (["_law_script", "_law_row", "_law_names", "_law_turn", "_law_drawer_here", "_law_rule_here", "_law_name", "_law_place", "_law_seen", "_law_watch", "_law_counts", "_law_k", "_law_due", "_law_one", "_law_found", "_law_other"] : List PySem.Str) (defScope s_law) := scp_body
  have L : Lx (bodyF P w K mg base (["_law_script", "_law_row", "_law_names", "_law_turn", "_law_drawer_here", "_law_rule_here", "_law_name", "_law_place", "_law_seen", "_law_watch", "_law_counts", "_law_k", "_law_due", "_law_one", "_law_found", "_law_other"] : List PySem.Str) "law" (defScope s_law) f 6) (["_law_script", "_law_row", "_law_names", "_law_turn", "_law_drawer_here", "_law_rule_here", "_law_name", "_law_place", "_law_seen", "_law_watch", "_law_counts", "_law_k", "_law_due", "_law_one", "_law_found", "_law_other"] : List PySem.Str) [false, true, true, true, true, true, true, true, true, true, true, true, true, true, true, false] := lx_body nd (by decide +kernel)
  unfold d_law
  exact (ss_cons (own1 := [.V, .L, .U, .U, .U, .U, .U, .U, .U, .U, .U, .U, .U, .U, .U, .U]) (st_setL S 1 L (el_lst (es_cons (ex_var S 0) (es_cons ex_int (es_cons ex_int (es_cons ex_int es_nil))))))
    (ss_cons (own1 := [.V, .L, .V, .U, .U, .U, .U, .U, .U, .U, .U, .U, .U, .U, .U, .U]) (st_set S 2 L (ex_tup (es_cons ex_str (es_cons ex_str (es_cons ex_str (es_cons ex_str (es_cons ex_str (es_cons ex_str es_nil))))))))
    (ss_cons (own1 := [.V, .L, .V, .U, .U, .U, .U, .U, .U, .U, .U, .U, .U, .U, .U, .U]) (st_for S pass_body (it_range1 S 0 T.f_range (es_cons ex_int es_nil)) (vs := [3]) (tg_name S.hN 3 L)
    (ss_cons (own1 := [.V, .L, .V, .V, .V, .V, .U, .U, .U, .U, .U, .U, .U, .U, .U, .U]) (st_unp (ex_tup (es_cons (ex_callR A S 2 1 h__law_drawer (es_cons ex_int es_nil)) (es_cons (ex_callR A S 1 1 h__law_rule es_nil) es_nil))) (vs := [4, 5]) (tg_tup S (tgs_cons (tg_name S.hN 4 L) (tgs_cons (tg_name S.hN 5 L) tgs_nil))) (h3 := (by rintro _ ⟨_, _, _, _, _, _, _, rfl⟩; rfl)))
    (ss_cons (own1 := [.V, .L, .V, .V, .V, .V, .V, .U, .U, .U, .U, .U, .U, .U, .U, .U]) (st_set S 6 L (ex_ix S (ex_var S 2) (ex_callR A S 3 1 h__law_taken (es_cons ex_int es_nil))))
    (ss_cons (own1 := [.V, .L, .V, .V, .V, .V, .V, .V, .V, .U, .U, .U, .U, .U, .U, .U]) (st_unp (ex_callV A S 4 h_look_up (es_cons (ex_var S 4) (es_cons (ex_var S 5) (es_cons (ex_var S 6) es_nil)))) (vs := [7, 8]) (tg_tup S (tgs_cons (tg_name S.hN 7 L) (tgs_cons (tg_name S.hN 8 L) tgs_nil))))
    (ss_cons (own1 := [.V, .L, .V, .V, .V, .V, .V, .V, .V, .O, .L, .U, .U, .U, .U, .U]) (st_parQ S L 9 10 (eq_new .O (em_make A S 5 T.d_Observer i_Observer (es_cons (ex_var S 4) (es_cons (ex_tup (es_cons ex_str (es_cons ex_str (es_cons ex_str es_nil)))) (es_cons (ex_var S 2) es_nil)))) (eq_newL (el_lst (es_cons ex_int es_nil)) eq_nil) (fun _ _ _ h => kd_make h)) (loc_body (by decide +kernel)) (loc_body (by decide +kernel)) (hw := (by rintro _ ⟨_, _, _, _, _, _, _, rfl⟩; rfl)))
    (ss_cons (own1 := [.V, .L, .V, .V, .V, .V, .V, .V, .V, .O, .L, .U, .U, .U, .U, .U]) (st_if (et_cmp (rl_ne S) od_ne (nomark _) (ex_methM0 A S T.d_Observer m_Observer_most_looks_x true 9) (ex_max S 6 T.f_max (EL.ex (el_lcB [("_law_one", 13)] [false, false, false, false, true, false, false, false, false, false, false, false, false, true, false, false] [false, false, false, false, false, false, false, false, false, false, false, false, false, true, false, false] (["len", "look_up"] : List PySem.Str) S A Q nd [.V, .L, .V, .V, .V, .V, .V, .V, .V, .O, .L, .U, .U, .V, .U, .U] (it_seq S (ex_propM A S T.d_Observer p_Observer_pairs_x true 9)) (fun S1 L1 => (tg_name S1.hN 13 L1)) (fun S1 A1 Q1 => ets_nil) (fun S1 A1 Q1 => (ex_len S1 0 T.f_len (ex_ix S1 (ex_callV A1 S1 1 h_look_up (es_cons (ex_var S1 4) (es_cons (ex_ix S1 (ex_var S1 13) ex_int) (es_cons (ex_ix S1 (ex_var S1 13) ex_int) es_nil)))) ex_int))))))) (ss_cons (own1 := [.V, .L, .V, .V, .V, .V, .V, .V, .V, .O, .L, .U, .U, .U, .U, .U]) (st_ret ex_bl (by decide))
    ss_nil) ss_nil)
    (ss_cons (own1 := [.V, .L, .V, .V, .V, .V, .V, .V, .V, .O, .L, .U, .U, .U, .U, .U]) (st_for S pass_body (it_range1 S 0 T.f_range (es_cons (ex_len S 7 T.f_len (ex_var S 8)) es_nil)) (vs := [11]) (tg_name S.hN 11 L)
    (ss_cons (own1 := [.V, .L, .V, .V, .V, .V, .V, .V, .V, .O, .L, .V, .U, .U, .U, .U]) (st_if (EW.et (ew_or (et_notinU S (ex_tup (es_cons (ex_var S 5) (es_cons (ex_var S 6) es_nil))) (ex_propM A S T.d_Observer p_Observer_pairs_x true 9)) (ew_or (et_cmp (rl_notin S) (od_in true) rfl (ex_ix S (ex_var S 8) (ex_var S 11)) (ex_methM0 A S T.d_Observer m_Observer_next_places_x true 9)) (ew_or1 (et_cmp (rl_ne S) od_ne (nomark _) (ex_propM A S T.d_Observer p_Observer_places_x true 9) (ex_slice S (ex_var S 8) eo_none (eo_some (ex_var S 11)))))))) (ss_cons (own1 := [.V, .L, .V, .V, .V, .V, .V, .V, .V, .O, .L, .V, .U, .U, .U, .U]) (st_ret ex_bl (by decide))
    ss_nil) ss_nil)
    (ss_cons (own1 := [.V, .L, .V, .V, .V, .V, .V, .V, .V, .O, .L, .V, .U, .U, .U, .U]) (st_append S 10 (ex_methM A S T.d_Observer m_Observer_saw_x true 9 (es_cons (ex_ix S (ex_var S 8) (ex_var S 11)) es_nil)))
    (ss_nil (by decide)))))
    (ss_cons (own1 := [.V, .L, .V, .V, .V, .V, .V, .V, .V, .O, .L, .U, .U, .U, .U, .U]) (st_append S 10 (ex_methM0 A S T.d_Observer m_Observer_ended_x true 9))
    (ss_freeze 10 (ss_cons (own1 := [.V, .L, .V, .V, .V, .V, .V, .V, .V, .O, .V, .U, .U, .U, .U, .U]) (st_if (EW.et (ew_or (et_cmp (rl_ne S) od_ne (nomark _) (ex_var S 10) (EL.ex (el_rev S (EL.ex (el_sort1 S 8 T.f_sorted (ex_var S 10)))))) (ew_or (et_cmp (rl_ne S) od_ne (nomark _) (ex_ix S (ex_var S 10) (ex_neg ex_int)) (ex_len S 7 T.f_len (ex_propM A S T.d_Observer p_Observer_pairs_x true 9))) (ew_or1 (et_notinU S (ex_tup (es_cons (ex_var S 5) (es_cons (ex_var S 6) es_nil))) (ex_propM A S T.d_Observer p_Observer_pairs_x true 9)))))) (ss_cons (own1 := [.V, .L, .V, .V, .V, .V, .V, .V, .V, .O, .V, .U, .U, .U, .U, .U]) (st_ret ex_bl (by decide))
    ss_nil) ss_nil)
    (ss_cons (own1 := [.V, .L, .V, .V, .V, .V, .V, .V, .V, .O, .V, .U, .V, .U, .U, .U]) (st_set S 12 L (EL.ex (el_lst es_nil)))
    (ss_cons (own1 := [.V, .L, .V, .V, .V, .V, .V, .V, .V, .O, .V, .U, .V, .U, .U, .U]) (st_for S pass_body (it_seq S (ex_tup (es_cons ex_str (es_cons ex_str (es_cons ex_str es_nil))))) (vs := [13]) (tg_name S.hN 13 L)
    (ss_cons (own1 := [.V, .L, .V, .V, .V, .V, .V, .V, .V, .O, .V, .U, .V, .V, .U, .U]) (st_set S 12 L (ex_add S (ex_var S 12) (EL.ex (el_lcB [("_law_other", 15)] [false, false, false, false, true, false, false, false, true, false, false, false, false, true, false, true] [false, false, false, false, false, false, false, false, false, false, false, false, false, false, false, true] (["look_up"] : List PySem.Str) S A Q nd [.V, .L, .V, .V, .V, .V, .V, .V, .V, .O, .V, .U, .V, .V, .U, .V] (it_seq S (ex_var S 2)) (fun S1 L1 => (tg_name S1.hN 15 L1)) (fun S1 A1 Q1 => (ets_one (et_cmp (rl_eq S1) od_eq (nomark _) (ex_ix S1 (ex_callV A1 S1 0 h_look_up (es_cons (ex_var S1 4) (es_cons (ex_var S1 13) (es_cons (ex_var S1 15) es_nil)))) ex_int) (ex_var S1 8)))) (fun S1 A1 Q1 => (ex_tup (es_cons (ex_var S1 13) (es_cons (ex_var S1 15) es_nil))))))))
    (ss_nil (by decide))))
    (ss_cons (own1 := [.V, .L, .V, .V, .V, .V, .V, .V, .V, .O, .V, .U, .V, .U, .U, .U]) (st_if (EW.et (ew_or (et_cmp (rl_ne S) od_ne (nomark _) (ex_propM A S T.d_Observer p_Observer_pairs_x true 9) (ex_tuple S 9 T.f_tuple (ex_var S 12))) (ew_or (et_cmp (rl_ne S) od_ne (nomark _) (ex_methM0 A S T.d_Observer m_Observer_next_places_x true 9) (EL.ex (el_lst es_nil))) (ew_or (et_cmp (rl_ne S) od_ne (nomark _) (ex_methM0 A S T.d_Observer m_Observer_most_looks_x true 9) ex_int) (ew_or1 (et_not (et_val (ex_propM A S T.d_Observer p_Observer_is_closed_x true 9)))))))) (ss_cons (own1 := [.V, .L, .V, .V, .V, .V, .V, .V, .V, .O, .V, .U, .V, .U, .U, .U]) (st_ret ex_bl (by decide))
    ss_nil) ss_nil)
    (ss_cons (own1 := [.V, .L, .V, .V, .V, .V, .V, .V, .V, .O, .V, .U, .V, .U, .L, .U]) (st_setLcB 14 [("_law_one", 13), ("_law_other", 15)] [false, false, false, false, true, false, false, false, false, false, false, false, false, true, false, true] [false, false, false, false, false, false, false, false, false, false, false, false, false, true, false, true] (["look_up"] : List PySem.Str) S A Q L [.V, .L, .V, .V, .V, .V, .V, .V, .V, .O, .V, .U, .V, .V, .U, .V] (loc_body (by decide +kernel)) (it_seq S (ex_var S 12)) (fun S1 L1 => (tg_tup S1 (tgs_cons (tg_name S1.hN 13 L1) (tgs_cons (tg_name S1.hN 15 L1) tgs_nil)))) (fun S1 A1 Q1 => ets_nil) (fun S1 A1 Q1 => (ex_ix S1 (ex_callV A1 S1 0 h_look_up (es_cons (ex_var S1 4) (es_cons (ex_var S1 13) (es_cons (ex_var S1 15) es_nil)))) ex_int)) (kind_body (by decide +kernel)))
    (ss_freeze 14 (ss_cons (own1 := [.V, .L, .V, .V, .V, .V, .V, .V, .V, .O, .V, .U, .V, .U, .V, .U]) (st_if (et_cmp (rl_ne S) od_ne (nomark _) (ex_methM0 A S T.d_Observer m_Observer_could_find_x true 9) (EL.ex (el_sortedSet S 8 10 T.f_sorted T.f_set (EL.ex (el_lcB [("_law_k", 11)] [false, false, false, false, false, false, false, false, false, false, false, true, false, false, false, false] [false, false, false, false, false, false, false, false, false, false, false, true, false, false, false, false] ([] : List PySem.Str) S A Q nd [.V, .L, .V, .V, .V, .V, .V, .V, .V, .O, .V, .V, .V, .U, .V, .U] (it_seq S (ex_var S 14)) (fun S1 L1 => (tg_name S1.hN 11 L1)) (fun S1 A1 Q1 => (ets_one (et_cmp (fun _ _ => op_notN) od_notN (nomark _) (ex_var S1 11) ex_non))) (fun S1 A1 Q1 => (ex_var S1 11))))))) (ss_cons (own1 := [.V, .L, .V, .V, .V, .V, .V, .V, .V, .O, .V, .U, .V, .U, .V, .U]) (st_ret ex_bl (by decide))
    ss_nil) ss_nil)
    (ss_cons (own1 := [.V, .L, .V, .V, .V, .V, .V, .V, .V, .O, .V, .U, .V, .U, .V, .U]) (st_if (EW.et (ew_and (et_cmp (fun _ _ => op_notN) od_notN (nomark _) (ex_var S 7) ex_non) (ew_and1 (et_cmp (rl_notin S) (od_in true) rfl (ex_var S 7) (ex_methM0 A S T.d_Observer m_Observer_could_find_x true 9))))) (ss_cons (own1 := [.V, .L, .V, .V, .V, .V, .V, .V, .V, .O, .V, .U, .V, .U, .V, .U]) (st_ret ex_bl (by decide))
    ss_nil) ss_nil)
    (ss_nil (by decide)))))))))))))))))))
    (ss_cons (own1 := [.U, .U, .U, .U, .U, .U, .U, .U, .U, .U, .U, .U, .U, .U, .U, .U]) (st_ret ex_bl (by decide))
    ss_nil))))
end MP.k61
namespace MP
open PySem PySem.Spec PyProof.Rows L2
/-! ### the head's addresses: level by level, each once; those met are the bits of a number -/
def addZ : List Addr → Nat → List Addr → Nat × List Addr
  | [], s, acc => (s, acc)
  | a :: t, s, acc => match Nat.beq (Nat.land (Nat.shiftRight s a) 1) 0 with
    | true => addZ t (Nat.lor s (Nat.shiftLeft 1 a)) (a :: acc)
    | false => addZ t s acc
def lvZ (g : Addr → Option Obj) : Nat → Nat → List Addr → List Addr
  | 0, _, f => f
  | n + 1, s, f => match addZ (f.flatMap fun a => match g a with | some o => He.refsD o | none => []) s [] with
    | (s', f') => f ++ lvZ g n s' f'
def asZ (n : Nat) (g : Addr → Option Obj) : List Addr := lvZ g n (Nat.shiftLeft 1 mainGlobals) [mainGlobals] ++ [cStatics]
def obsZ (n : Nat) (fa : List He.Fa) (fn : List He.DefD) (prs : List PrD) (tf : List He.Defn) (ex : PySem.W.Frag → Bool) (g : Addr → Option Obj) : AlY :=
  ((He.obsT fa fn [] (He.frT g (asZ n g)), exY prs ex (He.frT g (asZ n g)) && He.tabsB g tf (He.frT g (asZ n g))), prs.map fun d => fnA (He.frT g (asZ n g)) (pAd (He.frT g (asZ n g)) d.c d.m))
theorem saysZ_of {as : List Addr} {fa : List He.Fa} {fn : List He.DefD} {tf : List He.Defn} {ex : PySem.W.Frag → Bool} {w : World} {h : Heap}
    (e1 : He.obsT fa fn [] (He.frT h.get? as) = He.valT fn [] w) (e2 : (ex (He.frT h.get? as) && He.tabsB h.get? tf (He.frT h.get? as)) = true) : He.SaysX fa fn [] tf ex w h (He.frT h.get? as) := by
  obtain ⟨h1, h2⟩ := He.ba e2
  have key : ∀ p ∈ tf, PySem.W.codeHdIn (He.frT h.get? as) (He.cT (He.frT h.get? as) p).1 (He.cT (He.frT h.get? as) p).2 = true ∧ ∃ o, h.get? (He.cT (He.frT h.get? as) p).2 = some o ∧ He.emptyTab o = true := by
    intro p hp
    have z := List.all_eq_true.mp h2 p hp
    rw [Bool.and_eq_true] at z
    obtain ⟨z1, z2⟩ := z
    refine ⟨z1, ?_⟩
    cases q : h.get? (He.cT (He.frT h.get? as) p).2 with
    | none => rw [q] at z2; cases z2
    | some o => rw [q] at z2; exact ⟨o, rfl, z2⟩
  refine ⟨e1, h1, fun p hp => (key p hp).1, fun p hp => ?_, fun p hp => ?_⟩
  · obtain ⟨o, q1, q2⟩ := (key p hp).2
    exact He.frT_none q1 q2
  · obtain ⟨o, q1, q2⟩ := (key p hp).2
    rw [q1, He.emptyTab_eq q2]
def hookZ (n : Nat) (fa : List He.Fa) (fn : List He.DefD) (prs : List PrD) (tf : List He.Defn) (ex : PySem.W.Frag → Bool) : PySem.W.Hook where
  α := AlY
  obs := fun s => obsZ n fa fn prs tf ex s.heap.get?
  val := fun w => (He.valX fn [] w, prs.map PrD.val)
  says := fun w h => ∃ K : PySem.W.Frag, K.In h ∧ SaysY fa fn prs tf ex w h K
  of := fun _ _ e => ⟨_, He.frT_in, saysZ_of (congrArg (fun z : AlY => z.1.1) e) (congrArg (fun z : AlY => z.1.2) e), congrArg (fun z : AlY => z.2) e⟩
  keeps := fun _ _ _ ⟨K, hK, c⟩ k => ⟨K, PySem.W.Frag.In.keeps hK k, ⟨c.x.t, c.x.more, c.x.hd, c.x.out, fun p hp => k _ _ (c.x.empty p hp)⟩, c.p⟩
theorem obsZ_eq {n : Nat} {fa : List He.Fa} {fn : List He.DefD} {prs : List PrD} {tf : List He.Defn} {ex : PySem.W.Frag → Bool} {g : Addr → Option Obj} {s : Shared} (h : ∀ a, g a = s.heap.get? a) : obsZ n fa fn prs tf ex g = (hookZ n fa fn prs tf ex).obs s := by
  have e : g = s.heap.get? := funext h
  subst e
  rfl
/-! ### the run's equation in parts -/
abbrev obY (n : Nat) (fa : List He.Fa) (fn : List He.DefD) (prs : List PrD) (tf : List He.Defn) (ex : PySem.W.Frag → Bool) (s : PySem.W.SharedT) : AlY := obsZ n fa fn prs tf ex (HandSHeadRun.getT s)
end MP
namespace MP.k61
open PySem PySem.Spec PyProof.Rows L2 MP
def pr_Card_heading : PrD := ⟨"Card", "heading", "heading", "Card.heading", defArgs s_Card_heading, defBody s_Card_heading, defScope s_Card_heading⟩
def pr_Drawer_cards : PrD := ⟨"Drawer", "cards", "cards", "Drawer.cards", defArgs s_Drawer_cards, defBody s_Drawer_cards, defScope s_Drawer_cards⟩
def pr_Observer_is_closed_x : PrD := ⟨"Observer", "is_closed", "is_closed", "Observer.is_closed", defArgs s_Observer_is_closed_x, defBody s_Observer_is_closed_x, defScope s_Observer_is_closed_x⟩
def pr_Observer_pairs_x : PrD := ⟨"Observer", "pairs", "pairs", "Observer.pairs", defArgs s_Observer_pairs_x, defBody s_Observer_pairs_x, defScope s_Observer_pairs_x⟩
def pr_Observer_places_x : PrD := ⟨"Observer", "places", "places", "Observer.places", defArgs s_Observer_places_x, defBody s_Observer_places_x, defScope s_Observer_places_x⟩
/-- what the walk leans on -/
structure Fx (K : PySem.W.Frag) (mg : Str → Option Value) : Prop where
  T : Txt K mg
  D_is_word : ∃ fd, FunD K "is_word" "is_word" (defArgs s_is_word) (defBody s_is_word) (defScope s_is_word) [] [] (He.fAd K ("is_word", none)) fd
  g_is_word : mg "is_word" = some (.ref (He.ga K "is_word"))
  D_check_heading : ∃ fd, FunD K "check_heading" "check_heading" (defArgs s_check_heading) (defBody s_check_heading) (defScope s_check_heading) [] [] (He.fAd K ("check_heading", none)) fd
  g_check_heading : mg "check_heading" = some (.ref (He.ga K "check_heading"))
  D_check_rule : ∃ fd, FunD K "check_rule" "check_rule" (defArgs s_check_rule) (defBody s_check_rule) (defScope s_check_rule) [] [] (He.fAd K ("check_rule", none)) fd
  g_check_rule : mg "check_rule" = some (.ref (He.ga K "check_rule"))
  P_Card_heading : PrF K pr_Card_heading
  P_Drawer_cards : PrF K pr_Drawer_cards
  D_by_halves : ∃ fd, FunD K "by_halves" "by_halves" (defArgs s_by_halves) (defBody s_by_halves) (defScope s_by_halves) [] [] (He.fAd K ("by_halves", none)) fd
  g_by_halves : mg "by_halves" = some (.ref (He.ga K "by_halves"))
  D_one_by_one : ∃ fd, FunD K "one_by_one" "one_by_one" (defArgs s_one_by_one) (defBody s_one_by_one) (defScope s_one_by_one) [] [] (He.fAd K ("one_by_one", none)) fd
  g_one_by_one : mg "one_by_one" = some (.ref (He.ga K "one_by_one"))
  D_looked_up : ∃ fd, FunD K "looked_up" "looked_up" (defArgs s_looked_up) (defBody s_looked_up) (defScope s_looked_up) [] [] (He.fAd K ("looked_up", none)) fd
  g_looked_up : mg "looked_up" = some (.ref (He.ga K "looked_up"))
  D_Observer : ∃ fd, FunD K "__init__" "Observer.__init__" (defArgs s_Observer) (defBody s_Observer) (defScope s_Observer) [] [] (He.fAd K ("Observer", some "__init__")) fd
  g_Observer : mg "Observer" = some (.ref (He.ga K "Observer"))
  mk_Observer : Mk K (He.ga K "Observer") (He.fAd K ("Observer", some "__init__"))
  D_Drawer : ∃ fd, FunD K "__init__" "Drawer.__init__" (defArgs s_Drawer) (defBody s_Drawer) (defScope s_Drawer) [] [] (He.fAd K ("Drawer", some "__init__")) fd
  g_Drawer : mg "Drawer" = some (.ref (He.ga K "Drawer"))
  mk_Drawer : Mk K (He.ga K "Drawer") (He.fAd K ("Drawer", some "__init__"))
  D_is_number : ∃ fd, FunD K "is_number" "is_number" (defArgs s_is_number) (defBody s_is_number) (defScope s_is_number) [] [] (He.fAd K ("is_number", none)) fd
  g_is_number : mg "is_number" = some (.ref (He.ga K "is_number"))
  D_are_books : ∃ fd, FunD K "are_books" "are_books" (defArgs s_are_books) (defBody s_are_books) (defScope s_are_books) [] [] (He.fAd K ("are_books", none)) fd
  g_are_books : mg "are_books" = some (.ref (He.ga K "are_books"))
  D_are_others : ∃ fd, FunD K "are_others" "are_others" (defArgs s_are_others) (defBody s_are_others) (defScope s_are_others) [] [] (He.fAd K ("are_others", none)) fd
  g_are_others : mg "are_others" = some (.ref (He.ga K "are_others"))
  D_Card : ∃ dvs fd, dvs.length = 3 ∧ (∀ B, Reps K B dvs [.tup [], .str "", .tup []]) ∧ FunD K "__init__" "Card.__init__" (defArgs s_Card) (defBody s_Card) (defScope s_Card) dvs [] (He.fAd K ("Card", some "__init__")) fd
  g_Card : mg "Card" = some (.ref (He.ga K "Card"))
  mk_Card : Mk K (He.ga K "Card") (He.fAd K ("Card", some "__init__"))
  D__law_taken : ∃ fd, FunD K "_law_taken" "_law_taken" (defArgs s__law_taken) (defBody s__law_taken) (defScope s__law_taken) [] [] (He.fAd K ("_law_taken", none)) fd
  g__law_taken : mg "_law_taken" = some (.ref (He.ga K "_law_taken"))
  D__law_card : ∃ fd, FunD K "_law_card" "_law_card" (defArgs s__law_card) (defBody s__law_card) (defScope s__law_card) [] [] (He.fAd K ("_law_card", none)) fd
  g__law_card : mg "_law_card" = some (.ref (He.ga K "_law_card"))
  D__law_drawer : ∃ fd, FunD K "_law_drawer" "_law_drawer" (defArgs s__law_drawer) (defBody s__law_drawer) (defScope s__law_drawer) [] [] (He.fAd K ("_law_drawer", none)) fd
  g__law_drawer : mg "_law_drawer" = some (.ref (He.ga K "_law_drawer"))
  D__law_rule : ∃ fd, FunD K "_law_rule" "_law_rule" (defArgs s__law_rule) (defBody s__law_rule) (defScope s__law_rule) [] [] (He.fAd K ("_law_rule", none)) fd
  g__law_rule : mg "_law_rule" = some (.ref (He.ga K "_law_rule"))
  D_look_up : ∃ fd, FunD K "look_up" "look_up" (defArgs s_look_up) (defBody s_look_up) (defScope s_look_up) [] [] (He.fAd K ("look_up", none)) fd
  g_look_up : mg "look_up" = some (.ref (He.ga K "look_up"))
  D_Observer_could_find_x : ∃ fd, FunD K "could_find" "Observer.could_find" (defArgs s_Observer_could_find_x) (defBody s_Observer_could_find_x) (defScope s_Observer_could_find_x) [] [] (He.fAd K ("Observer", some "could_find")) fd
  mt_Observer_could_find_x : Meth K (He.ga K "Observer") "could_find" (He.fAd K ("Observer", some "could_find"))
  D_Observer_narrow_l : ∃ fd, FunD K "narrow" "Observer.narrow" (defArgs s_Observer_narrow_l) (defBody s_Observer_narrow_l) (defScope s_Observer_narrow_l) [] [] (He.fAd K ("Observer", some "narrow")) fd
  mt_Observer_narrow_l : Meth K (He.ga K "Observer") "narrow" (He.fAd K ("Observer", some "narrow"))
  D_Observer_check_open_x : ∃ fd, FunD K "check_open" "Observer.check_open" (defArgs s_Observer_check_open_x) (defBody s_Observer_check_open_x) (defScope s_Observer_check_open_x) [] [] (He.fAd K ("Observer", some "check_open")) fd
  mt_Observer_check_open_x : Meth K (He.ga K "Observer") "check_open" (He.fAd K ("Observer", some "check_open"))
  D_Observer_ended_x : ∃ fd, FunD K "ended" "Observer.ended" (defArgs s_Observer_ended_x) (defBody s_Observer_ended_x) (defScope s_Observer_ended_x) [] [] (He.fAd K ("Observer", some "ended")) fd
  mt_Observer_ended_x : Meth K (He.ga K "Observer") "ended" (He.fAd K ("Observer", some "ended"))
  D_Observer_most_looks_x : ∃ fd, FunD K "most_looks" "Observer.most_looks" (defArgs s_Observer_most_looks_x) (defBody s_Observer_most_looks_x) (defScope s_Observer_most_looks_x) [] [] (He.fAd K ("Observer", some "most_looks")) fd
  mt_Observer_most_looks_x : Meth K (He.ga K "Observer") "most_looks" (He.fAd K ("Observer", some "most_looks"))
  D_Observer_next_places_x : ∃ fd, FunD K "next_places" "Observer.next_places" (defArgs s_Observer_next_places_x) (defBody s_Observer_next_places_x) (defScope s_Observer_next_places_x) [] [] (He.fAd K ("Observer", some "next_places")) fd
  mt_Observer_next_places_x : Meth K (He.ga K "Observer") "next_places" (He.fAd K ("Observer", some "next_places"))
  D_Observer_saw_x : ∃ fd, FunD K "saw" "Observer.saw" (defArgs s_Observer_saw_x) (defBody s_Observer_saw_x) (defScope s_Observer_saw_x) [] [] (He.fAd K ("Observer", some "saw")) fd
  mt_Observer_saw_x : Meth K (He.ga K "Observer") "saw" (He.fAd K ("Observer", some "saw"))
  P_Observer_is_closed_x : PrF K pr_Observer_is_closed_x
  P_Observer_pairs_x : PrF K pr_Observer_pairs_x
  P_Observer_places_x : PrF K pr_Observer_places_x
  D_law : ∃ fd, FunD K "law" "law" (defArgs s_law) (defBody s_law) (defScope s_law) [] [] (He.fAd K ("law", none)) fd
  g_law : mg "law" = some (.ref (He.ga K "law"))
def tf : List He.Defn := [("_law_drawer", none), ("law", none)]
theorem sc_is_word : FnScope (["value", "letter"] : List PySem.Str) (["value"] : List PySem.Str) (defScope s_is_word) := ⟨rfl, rfl, rfl, by decide +kernel, rfl, by decide +kernel, by decide +kernel⟩
theorem ok_is_word {P : Program} {w : World} {K : PySem.W.Frag} {mg : Str → Option Value} {base : Heap} (U : TbB K mg base tf) (E : Fx K mg) : ∃ fd, FnV P w K mg base "is_word" (He.fAd K ("is_word", none)) fd (["value"] : List PySem.Str) 1 F_is_word := by

  obtain ⟨fd, Fd⟩ := E.D_is_word
  exact ⟨fd, fn_V Fd sc_is_word (t_is_word E.T ), fun ds d h => runV_ar h, E.g_is_word, Fd.kp, Fd.bindsN fun _ _ _ _ _ _ us hl => match us, hl with | [_], _ => rfl⟩
theorem sc_check_heading : FnScope (["value"] : List PySem.Str) (["value"] : List PySem.Str) (defScope s_check_heading) := ⟨rfl, rfl, rfl, by decide +kernel, rfl, by decide +kernel, by decide +kernel⟩
theorem ok_check_heading {P : Program} {w : World} {K : PySem.W.Frag} {mg : Str → Option Value} {base : Heap} (U : TbB K mg base tf) (E : Fx K mg) : ∃ fd, FnV P w K mg base "check_heading" (He.fAd K ("check_heading", none)) fd (["value"] : List PySem.Str) 2 F_check_heading := by
  obtain ⟨fd_is_word, h_is_word⟩ := ok_is_word (P := P) (w := w) (base := base) U E
  obtain ⟨fd, Fd⟩ := E.D_check_heading
  exact ⟨fd, fn_V Fd sc_check_heading (t_check_heading E.T h_is_word), fun ds d h => runV_ar h, E.g_check_heading, Fd.kp, Fd.bindsN fun _ _ _ _ _ _ us hl => match us, hl with | [_], _ => rfl⟩
theorem sc_check_rule : FnScope (["rule"] : List PySem.Str) (["rule"] : List PySem.Str) (defScope s_check_rule) := ⟨rfl, rfl, rfl, by decide +kernel, rfl, by decide +kernel, by decide +kernel⟩
theorem ok_check_rule {P : Program} {w : World} {K : PySem.W.Frag} {mg : Str → Option Value} {base : Heap} (U : TbB K mg base tf) (E : Fx K mg) : ∃ fd, FnV P w K mg base "check_rule" (He.fAd K ("check_rule", none)) fd (["rule"] : List PySem.Str) 1 F_check_rule := by

  obtain ⟨fd, Fd⟩ := E.D_check_rule
  exact ⟨fd, fn_V Fd sc_check_rule (t_check_rule E.T ), fun ds d h => runV_ar h, E.g_check_rule, Fd.kp, Fd.bindsN fun _ _ _ _ _ _ us hl => match us, hl with | [_], _ => rfl⟩
theorem sc_Card_heading : FnScope (["self"] : List PySem.Str) (["self"] : List PySem.Str) (defScope s_Card_heading) := ⟨rfl, rfl, rfl, by decide +kernel, rfl, by decide +kernel, by decide +kernel⟩
theorem ok_Card_heading {P : Program} {w : World} {K : PySem.W.Frag} {mg : Str → Option Value} {base : Heap} (U : TbB K mg base tf) (E : Fx K mg) : ∃ fd, PrV P w K mg base "Card" "heading" (pOb K "Card" "heading") (pAd K "Card" "heading") fd (["self"] : List PySem.Str) 1 F_Card_heading := by

  obtain ⟨fd, Fd⟩ := E.P_Card_heading.fn
  exact ⟨fd, fn_V Fd sc_Card_heading (t_Card_heading E.T ), fun ds d h => runV_ar h, E.P_Card_heading.at_, E.P_Card_heading.get, E.P_Card_heading.tk, E.P_Card_heading.rc, Fd.bindsN fun _ _ _ _ _ _ us hl => match us, hl with | [_], _ => rfl⟩
theorem sc_Drawer_cards : FnScope (["self"] : List PySem.Str) (["self"] : List PySem.Str) (defScope s_Drawer_cards) := ⟨rfl, rfl, rfl, by decide +kernel, rfl, by decide +kernel, by decide +kernel⟩
theorem ok_Drawer_cards {P : Program} {w : World} {K : PySem.W.Frag} {mg : Str → Option Value} {base : Heap} (U : TbB K mg base tf) (E : Fx K mg) : ∃ fd, PrV P w K mg base "Drawer" "cards" (pOb K "Drawer" "cards") (pAd K "Drawer" "cards") fd (["self"] : List PySem.Str) 1 F_Drawer_cards := by

  obtain ⟨fd, Fd⟩ := E.P_Drawer_cards.fn
  exact ⟨fd, fn_V Fd sc_Drawer_cards (t_Drawer_cards E.T ), fun ds d h => runV_ar h, E.P_Drawer_cards.at_, E.P_Drawer_cards.get, E.P_Drawer_cards.tk, E.P_Drawer_cards.rc, Fd.bindsN fun _ _ _ _ _ _ us hl => match us, hl with | [_], _ => rfl⟩
theorem sc_by_halves : FnScope (["drawer", "heading", "looks", "first", "last", "middle", "here"] : List PySem.Str) (["drawer", "heading"] : List PySem.Str) (defScope s_by_halves) := ⟨rfl, rfl, rfl, by decide +kernel, rfl, by decide +kernel, by decide +kernel⟩
theorem ok_by_halves {P : Program} {w : World} {K : PySem.W.Frag} {mg : Str → Option Value} {base : Heap} (U : TbB K mg base tf) (E : Fx K mg) : ∃ fd, FnV P w K mg base "by_halves" (He.fAd K ("by_halves", none)) fd (["drawer", "heading"] : List PySem.Str) 3 F_by_halves := by
  obtain ⟨fd_Card_heading, p_Card_heading⟩ := ok_Card_heading (P := P) (w := w) (base := base) U E
  obtain ⟨fd_Drawer_cards, p_Drawer_cards⟩ := ok_Drawer_cards (P := P) (w := w) (base := base) U E
  obtain ⟨fd, Fd⟩ := E.D_by_halves
  exact ⟨fd, fn_V Fd sc_by_halves (t_by_halves E.T p_Card_heading p_Drawer_cards), fun ds d h => runV_ar h, E.g_by_halves, Fd.kp, Fd.bindsN fun _ _ _ _ _ _ us hl => match us, hl with | [_, _], _ => rfl⟩
theorem sc_one_by_one : FnScope (["drawer", "heading", "is_leafing", "place", "card"] : List PySem.Str) (["drawer", "heading", "is_leafing"] : List PySem.Str) (defScope s_one_by_one) := ⟨rfl, rfl, rfl, by decide +kernel, rfl, by decide +kernel, by decide +kernel⟩
theorem ok_one_by_one {P : Program} {w : World} {K : PySem.W.Frag} {mg : Str → Option Value} {base : Heap} (U : TbB K mg base tf) (E : Fx K mg) : ∃ fd, FnV P w K mg base "one_by_one" (He.fAd K ("one_by_one", none)) fd (["drawer", "heading", "is_leafing"] : List PySem.Str) 3 F_one_by_one := by
  obtain ⟨fd_Card_heading, p_Card_heading⟩ := ok_Card_heading (P := P) (w := w) (base := base) U E
  obtain ⟨fd_Drawer_cards, p_Drawer_cards⟩ := ok_Drawer_cards (P := P) (w := w) (base := base) U E
  obtain ⟨fd, Fd⟩ := E.D_one_by_one
  exact ⟨fd, fn_V Fd sc_one_by_one (t_one_by_one E.T p_Card_heading p_Drawer_cards), fun ds d h => runV_ar h, E.g_one_by_one, Fd.kp, Fd.bindsN fun _ _ _ _ _ _ us hl => match us, hl with | [_, _, _], _ => rfl⟩
theorem sc_looked_up : FnScope (["drawer", "rule", "heading"] : List PySem.Str) (["drawer", "rule", "heading"] : List PySem.Str) (defScope s_looked_up) := ⟨rfl, rfl, rfl, by decide +kernel, rfl, by decide +kernel, by decide +kernel⟩
theorem ok_looked_up {P : Program} {w : World} {K : PySem.W.Frag} {mg : Str → Option Value} {base : Heap} (U : TbB K mg base tf) (E : Fx K mg) : ∃ fd, FnV P w K mg base "looked_up" (He.fAd K ("looked_up", none)) fd (["drawer", "rule", "heading"] : List PySem.Str) 4 F_looked_up := by
  obtain ⟨fd_by_halves, h_by_halves⟩ := ok_by_halves (P := P) (w := w) (base := base) U E
  obtain ⟨fd_one_by_one, h_one_by_one⟩ := ok_one_by_one (P := P) (w := w) (base := base) U E
  obtain ⟨fd, Fd⟩ := E.D_looked_up
  exact ⟨fd, fn_V Fd sc_looked_up (t_looked_up E.T h_by_halves h_one_by_one), fun ds d h => runV_ar h, E.g_looked_up, Fd.kp, Fd.bindsN fun _ _ _ _ _ _ us hl => match us, hl with | [_, _, _], _ => rfl⟩
theorem sc_Observer : FnScope (["self", "drawer", "rules", "headings", "rule", "heading"] : List PySem.Str) (["self", "drawer", "rules", "headings"] : List PySem.Str) (defScope s_Observer) := ⟨rfl, rfl, rfl, by decide +kernel, rfl, by decide +kernel, by decide +kernel⟩
theorem ok_Observer {P : Program} {w : World} {K : PySem.W.Frag} {mg : Str → Option Value} {base : Heap} (U : TbB K mg base tf) (E : Fx K mg) : ∃ fd, ClM P w K mg base "Observer" (He.fAd K ("Observer", some "__init__")) fd (["self", "drawer", "rules", "headings"] : List PySem.Str) 5 F_Observer := by
  obtain ⟨fd_check_heading, h_check_heading⟩ := ok_check_heading (P := P) (w := w) (base := base) U E
  obtain ⟨fd_check_rule, h_check_rule⟩ := ok_check_rule (P := P) (w := w) (base := base) U E
  obtain ⟨fd_looked_up, h_looked_up⟩ := ok_looked_up (P := P) (w := w) (base := base) U E
  obtain ⟨fd, Fd⟩ := E.D_Observer
  exact ⟨fd, fn_M (own' := [.M, .U, .U, .U, .U, .U]) Fd sc_Observer rfl (t_Observer E.T h_check_heading h_check_rule h_looked_up) (by decide), fun d0 ds r h => congrArg (· + 1) (onIns_ar h), E.mk_Observer, E.g_Observer, Fd.bindsN fun _ _ _ _ _ _ us hl => match us, hl with | [_, _, _, _], _ => rfl⟩
theorem sc_Drawer : FnScope (["self", "cards"] : List PySem.Str) (["self", "cards"] : List PySem.Str) (defScope s_Drawer) := ⟨rfl, rfl, rfl, by decide +kernel, rfl, by decide +kernel, by decide +kernel⟩
theorem ok_Drawer {P : Program} {w : World} {K : PySem.W.Frag} {mg : Str → Option Value} {base : Heap} (U : TbB K mg base tf) (E : Fx K mg) : ∃ fd, ClI P w K mg base "Drawer" (He.fAd K ("Drawer", some "__init__")) fd (["self", "cards"] : List PySem.Str) 1 F_Drawer ∧ Binds K fd (["self", "cards"] : List PySem.Str) [] := by

  obtain ⟨fd, Fd⟩ := E.D_Drawer
  exact ⟨fd, ⟨fn_I (own' := [.I, .U]) Fd sc_Drawer rfl (t_Drawer E.T ) (by decide), fun ds fs h => ⟨congrArg (· + 1) (runI_ar h), ne_run (show NeI d_Drawer from (ne_seq ne_slot)) h⟩, E.mk_Drawer, E.g_Drawer, by decide +kernel⟩, Fd.bindsN fun _ _ _ _ _ _ us hl => match us, hl with | [_, _], _ => rfl⟩
theorem sc_is_number : FnScope (["value", "smallest", "largest"] : List PySem.Str) (["value", "smallest", "largest"] : List PySem.Str) (defScope s_is_number) := ⟨rfl, rfl, rfl, by decide +kernel, rfl, by decide +kernel, by decide +kernel⟩
theorem ok_is_number {P : Program} {w : World} {K : PySem.W.Frag} {mg : Str → Option Value} {base : Heap} (U : TbB K mg base tf) (E : Fx K mg) : ∃ fd, FnV P w K mg base "is_number" (He.fAd K ("is_number", none)) fd (["value", "smallest", "largest"] : List PySem.Str) 1 F_is_number := by

  obtain ⟨fd, Fd⟩ := E.D_is_number
  exact ⟨fd, fn_V Fd sc_is_number (t_is_number E.T ), fun ds d h => runV_ar h, E.g_is_number, Fd.kp, Fd.bindsN fun _ _ _ _ _ _ us hl => match us, hl with | [_, _, _], _ => rfl⟩
theorem sc_are_books : FnScope (["row", "book", "one", "other"] : List PySem.Str) (["row"] : List PySem.Str) (defScope s_are_books) := ⟨rfl, rfl, rfl, by decide +kernel, rfl, by decide +kernel, by decide +kernel⟩
theorem ok_are_books {P : Program} {w : World} {K : PySem.W.Frag} {mg : Str → Option Value} {base : Heap} (U : TbB K mg base tf) (E : Fx K mg) : ∃ fd, FnV P w K mg base "are_books" (He.fAd K ("are_books", none)) fd (["row"] : List PySem.Str) 2 F_are_books := by
  obtain ⟨fd_is_number, h_is_number⟩ := ok_is_number (P := P) (w := w) (base := base) U E
  obtain ⟨fd, Fd⟩ := E.D_are_books
  exact ⟨fd, fn_V Fd sc_are_books (t_are_books E.T h_is_number), fun ds d h => runV_ar h, E.g_are_books, Fd.kp, Fd.bindsN fun _ _ _ _ _ _ us hl => match us, hl with | [_], _ => rfl⟩
theorem sc_are_others : FnScope (["heading", "row", "other"] : List PySem.Str) (["heading", "row"] : List PySem.Str) (defScope s_are_others) := ⟨rfl, rfl, rfl, by decide +kernel, rfl, by decide +kernel, by decide +kernel⟩
theorem ok_are_others {P : Program} {w : World} {K : PySem.W.Frag} {mg : Str → Option Value} {base : Heap} (U : TbB K mg base tf) (E : Fx K mg) : ∃ fd, FnV P w K mg base "are_others" (He.fAd K ("are_others", none)) fd (["heading", "row"] : List PySem.Str) 2 F_are_others := by
  obtain ⟨fd_is_word, h_is_word⟩ := ok_is_word (P := P) (w := w) (base := base) U E
  obtain ⟨fd, Fd⟩ := E.D_are_others
  exact ⟨fd, fn_V Fd sc_are_others (t_are_others E.T h_is_word), fun ds d h => runV_ar h, E.g_are_others, Fd.kp, Fd.bindsN fun _ _ _ _ _ _ us hl => match us, hl with | [_, _], _ => rfl⟩
theorem sc_Card : FnScope (["self", "heading", "books", "see", "also", "is_free"] : List PySem.Str) (["self", "heading", "books", "see", "also"] : List PySem.Str) (defScope s_Card) := ⟨rfl, rfl, rfl, by decide +kernel, rfl, by decide +kernel, by decide +kernel⟩
theorem ok_Card {P : Program} {w : World} {K : PySem.W.Frag} {mg : Str → Option Value} {base : Heap} (U : TbB K mg base tf) (E : Fx K mg) : ∃ fd, ClI P w K mg base "Card" (He.fAd K ("Card", some "__init__")) fd (["self", "heading", "books", "see", "also"] : List PySem.Str) 3 F_Card ∧ BdD K fd (["self", "heading", "books", "see", "also"] : List PySem.Str) [.tup []] ∧ BdD K fd (["self", "heading", "books", "see", "also"] : List PySem.Str) [] := by
  obtain ⟨fd_are_books, h_are_books⟩ := ok_are_books (P := P) (w := w) (base := base) U E
  obtain ⟨fd_are_others, h_are_others⟩ := ok_are_others (P := P) (w := w) (base := base) U E
  obtain ⟨fd_is_word, h_is_word⟩ := ok_is_word (P := P) (w := w) (base := base) U E
  obtain ⟨dvs, fd, hl, rd, Fd⟩ := E.D_Card
  have hd : dvs ≠ [] := fun z => by rw [z] at hl; cases hl
  exact ⟨fd, ⟨fn_I (own' := [.I, .U, .U, .U, .U, .U]) Fd sc_Card rfl (t_Card E.T h_are_books h_are_others h_is_word) (by decide), fun ds fs h => ⟨congrArg (· + 1) (runI_ar h), ne_run (show NeI d_Card from (ne_seq (ne_seq (ne_seq (ne_seq (ne_seq ne_slot)))))) h⟩, E.mk_Card, E.g_Card, by decide +kernel⟩,
    (FunD.bdD Fd 4 2 rd hd (by rw [hl]; rfl) fun T kV doc pm an cdv ct us its h1 h2 => by
      rw [hl] at h2
      match us, its, h1, h2 with
      | [_, _, _, _], [_, _, _], _, _ => exact ⟨_, rfl, rfl⟩),
    (FunD.bdD Fd 5 3 rd hd (by rw [hl]; rfl) fun T kV doc pm an cdv ct us its h1 h2 => by
      rw [hl] at h2
      match us, its, h1, h2 with
      | [_, _, _, _, _], [_, _, _], _, _ => exact ⟨_, rfl, rfl⟩)⟩
theorem sc__law_taken : FnScope (["_law_row", "_law_many", "_law_found", "_law_cell"] : List PySem.Str) (["_law_row", "_law_many"] : List PySem.Str) (defScope s__law_taken) := ⟨rfl, rfl, rfl, by decide +kernel, rfl, by decide +kernel, by decide +kernel⟩
theorem ok__law_taken {P : Program} {w : World} {K : PySem.W.Frag} {mg : Str → Option Value} {base : Heap} (U : TbB K mg base tf) (E : Fx K mg) : ∃ fd, FnRr P w K mg base "_law_taken" (He.fAd K ("_law_taken", none)) fd (["_law_row", "_law_many"] : List PySem.Str) 1 F__law_taken := by

  obtain ⟨fd, Fd⟩ := E.D__law_taken
  exact ⟨fd, fn_R (own' := [.R, .U, .U, .U]) Fd sc__law_taken rfl (t__law_taken E.T ) (by decide), fun rs ds d h => congrArg (· + 1) (runR_ar h), E.g__law_taken, Fd.kp, Fd.bindsN fun _ _ _ _ _ _ us hl => match us, hl with | [_, _], _ => rfl⟩
theorem sc__law_card : FnScope (["_law_row", "_law_names", "_law_name", "_law_pick", "_law_others", "_law_more", "_law_other", "_law_one"] : List PySem.Str) (["_law_row"] : List PySem.Str) (defScope s__law_card) := ⟨rfl, rfl, rfl, by decide +kernel, rfl, by decide +kernel, by decide +kernel⟩
theorem ok__law_card {P : Program} {w : World} {K : PySem.W.Frag} {mg : Str → Option Value} {base : Heap} (U : TbB K mg base tf) (E : Fx K mg) : ∃ fd, FnRr P w K mg base "_law_card" (He.fAd K ("_law_card", none)) fd (["_law_row"] : List PySem.Str) 5 F__law_card := by
  obtain ⟨fd_Card, i_Card, b_Card_p3, b_Card_p4⟩ := ok_Card (P := P) (w := w) (base := base) U E
  obtain ⟨fd__law_taken, h__law_taken⟩ := ok__law_taken (P := P) (w := w) (base := base) U E
  obtain ⟨fd, Fd⟩ := E.D__law_card
  exact ⟨fd, fn_R (own' := [.R, .U, .U, .U, .U, .U, .U, .U]) Fd sc__law_card rfl (t__law_card E.T i_Card b_Card_p3 b_Card_p4 h__law_taken) (by decide), fun rs ds d h => congrArg (· + 1) (runR_ar h), E.g__law_card, Fd.kp, Fd.bindsN fun _ _ _ _ _ _ us hl => match us, hl with | [_], _ => rfl⟩
theorem sc__law_drawer : FnScope (["_law_row", "_law_most", "_law_found", "_law_k"] : List PySem.Str) (["_law_row", "_law_most"] : List PySem.Str) (defScope s__law_drawer) := ⟨rfl, rfl, rfl, by decide +kernel, rfl, by decide +kernel, by decide +kernel⟩
theorem ok__law_drawer {P : Program} {w : World} {K : PySem.W.Frag} {mg : Str → Option Value} {base : Heap} (U : TbB K mg base tf) (E : Fx K mg) : ∃ fd, FnRr P w K mg base "_law_drawer" (He.fAd K ("_law_drawer", none)) fd (["_law_row", "_law_most"] : List PySem.Str) 6 F__law_drawer := by
  obtain ⟨fd_Drawer, i_Drawer, b_Drawer⟩ := ok_Drawer (P := P) (w := w) (base := base) U E
  obtain ⟨fd_Card_heading, p_Card_heading⟩ := ok_Card_heading (P := P) (w := w) (base := base) U E
  obtain ⟨fd__law_card, h__law_card⟩ := ok__law_card (P := P) (w := w) (base := base) U E
  obtain ⟨fd__law_taken, h__law_taken⟩ := ok__law_taken (P := P) (w := w) (base := base) U E
  obtain ⟨fd, Fd⟩ := E.D__law_drawer
  exact ⟨fd, fn_R (own' := [.R, .U, .U, .U]) Fd sc__law_drawer rfl (t__law_drawer E.T (lamT_body U (p := ("_law_drawer", none)) (by decide)) i_Drawer b_Drawer p_Card_heading h__law_card h__law_taken) (by decide), fun rs ds d h => congrArg (· + 1) (runR_ar h), E.g__law_drawer, Fd.kp, Fd.bindsN fun _ _ _ _ _ _ us hl => match us, hl with | [_, _], _ => rfl⟩
theorem sc__law_rule : FnScope (["_law_row"] : List PySem.Str) (["_law_row"] : List PySem.Str) (defScope s__law_rule) := ⟨rfl, rfl, rfl, by decide +kernel, rfl, by decide +kernel, by decide +kernel⟩
theorem ok__law_rule {P : Program} {w : World} {K : PySem.W.Frag} {mg : Str → Option Value} {base : Heap} (U : TbB K mg base tf) (E : Fx K mg) : ∃ fd, FnRr P w K mg base "_law_rule" (He.fAd K ("_law_rule", none)) fd (["_law_row"] : List PySem.Str) 2 F__law_rule := by
  obtain ⟨fd__law_taken, h__law_taken⟩ := ok__law_taken (P := P) (w := w) (base := base) U E
  obtain ⟨fd, Fd⟩ := E.D__law_rule
  exact ⟨fd, fn_R (own' := [.R]) Fd sc__law_rule rfl (t__law_rule E.T h__law_taken) (by decide), fun rs ds d h => congrArg (· + 1) (runR_ar h), E.g__law_rule, Fd.kp, Fd.bindsN fun _ _ _ _ _ _ us hl => match us, hl with | [_], _ => rfl⟩
theorem sc_look_up : FnScope (["drawer", "rule", "heading"] : List PySem.Str) (["drawer", "rule", "heading"] : List PySem.Str) (defScope s_look_up) := ⟨rfl, rfl, rfl, by decide +kernel, rfl, by decide +kernel, by decide +kernel⟩
theorem ok_look_up {P : Program} {w : World} {K : PySem.W.Frag} {mg : Str → Option Value} {base : Heap} (U : TbB K mg base tf) (E : Fx K mg) : ∃ fd, FnV P w K mg base "look_up" (He.fAd K ("look_up", none)) fd (["drawer", "rule", "heading"] : List PySem.Str) 5 F_look_up := by
  obtain ⟨fd_check_heading, h_check_heading⟩ := ok_check_heading (P := P) (w := w) (base := base) U E
  obtain ⟨fd_check_rule, h_check_rule⟩ := ok_check_rule (P := P) (w := w) (base := base) U E
  obtain ⟨fd_looked_up, h_looked_up⟩ := ok_looked_up (P := P) (w := w) (base := base) U E
  obtain ⟨fd, Fd⟩ := E.D_look_up
  exact ⟨fd, fn_V Fd sc_look_up (t_look_up E.T h_check_heading h_check_rule h_looked_up), fun ds d h => runV_ar h, E.g_look_up, Fd.kp, Fd.bindsN fun _ _ _ _ _ _ us hl => match us, hl with | [_, _, _], _ => rfl⟩
theorem sc_Observer_could_find_x : FnScope (["self", "pair", "place", "seen"] : List PySem.Str) (["self"] : List PySem.Str) (defScope s_Observer_could_find_x) := ⟨rfl, rfl, rfl, by decide +kernel, rfl, by decide +kernel, by decide +kernel⟩
theorem ok_Observer_could_find_x {P : Program} {w : World} {K : PySem.W.Frag} {mg : Str → Option Value} {base : Heap} (U : TbB K mg base tf) (E : Fx K mg) : ∃ fd, MtM P w K mg base "Observer" "could_find" (He.fAd K ("Observer", some "could_find")) fd (["self"] : List PySem.Str) 1 F_Observer_could_find_x := by

  obtain ⟨fd, Fd⟩ := E.D_Observer_could_find_x
  exact ⟨fd, fn_M (own' := [.M, .U, .U, .U]) Fd sc_Observer_could_find_x rfl (t_Observer_could_find_x E.T ) (by decide), fun d0 ds r h => congrArg (· + 1) (onIns_ar h), E.mt_Observer_could_find_x, Fd.bindsN fun _ _ _ _ _ _ us hl => match us, hl with | [_], _ => rfl⟩
theorem sc_Observer_narrow_l : FnScope (["self", "rows"] : List PySem.Str) (["self", "rows"] : List PySem.Str) (defScope s_Observer_narrow_l) := ⟨rfl, rfl, rfl, by decide +kernel, rfl, by decide +kernel, by decide +kernel⟩
theorem ok_Observer_narrow_l {P : Program} {w : World} {K : PySem.W.Frag} {mg : Str → Option Value} {base : Heap} (U : TbB K mg base tf) (E : Fx K mg) : ∃ fd, MtN P w K mg base "Observer" "narrow" (He.fAd K ("Observer", some "narrow")) fd (["self", "rows"] : List PySem.Str) 1 F_Observer_narrow_l := by

  obtain ⟨fd, Fd⟩ := E.D_Observer_narrow_l
  exact ⟨fd, fn_N (own' := [.M, .U]) Fd sc_Observer_narrow_l rfl (t_Observer_narrow_l E.T ) (by decide), E.mt_Observer_narrow_l, Fd.bindsN fun _ _ _ _ _ _ us hl => match us, hl with | [_, _], _ => rfl⟩
theorem sc_Observer_check_open_x : FnScope (["self"] : List PySem.Str) (["self"] : List PySem.Str) (defScope s_Observer_check_open_x) := ⟨rfl, rfl, rfl, by decide +kernel, rfl, by decide +kernel, by decide +kernel⟩
theorem ok_Observer_check_open_x {P : Program} {w : World} {K : PySem.W.Frag} {mg : Str → Option Value} {base : Heap} (U : TbB K mg base tf) (E : Fx K mg) : ∃ fd, MtM P w K mg base "Observer" "check_open" (He.fAd K ("Observer", some "check_open")) fd (["self"] : List PySem.Str) 1 F_Observer_check_open_x := by

  obtain ⟨fd, Fd⟩ := E.D_Observer_check_open_x
  exact ⟨fd, fn_M (own' := [.M]) Fd sc_Observer_check_open_x rfl (t_Observer_check_open_x E.T ) (by decide), fun d0 ds r h => congrArg (· + 1) (onIns_ar h), E.mt_Observer_check_open_x, Fd.bindsN fun _ _ _ _ _ _ us hl => match us, hl with | [_], _ => rfl⟩
theorem sc_Observer_ended_x : FnScope (["self", "found", "row"] : List PySem.Str) (["self"] : List PySem.Str) (defScope s_Observer_ended_x) := ⟨rfl, rfl, rfl, by decide +kernel, rfl, by decide +kernel, by decide +kernel⟩
theorem ok_Observer_ended_x {P : Program} {w : World} {K : PySem.W.Frag} {mg : Str → Option Value} {base : Heap} (U : TbB K mg base tf) (E : Fx K mg) : ∃ fd, MtM P w K mg base "Observer" "ended" (He.fAd K ("Observer", some "ended")) fd (["self"] : List PySem.Str) 2 F_Observer_ended_x := by
  obtain ⟨fd_Observer_narrow_l, m_Observer_narrow_l⟩ := ok_Observer_narrow_l (P := P) (w := w) (base := base) U E
  obtain ⟨fd_Observer_check_open_x, m_Observer_check_open_x⟩ := ok_Observer_check_open_x (P := P) (w := w) (base := base) U E
  obtain ⟨fd, Fd⟩ := E.D_Observer_ended_x
  exact ⟨fd, fn_M (own' := [.M, .U, .U]) Fd sc_Observer_ended_x rfl (t_Observer_ended_x E.T m_Observer_narrow_l m_Observer_check_open_x) (by decide), fun d0 ds r h => congrArg (· + 1) (onIns_ar h), E.mt_Observer_ended_x, Fd.bindsN fun _ _ _ _ _ _ us hl => match us, hl with | [_], _ => rfl⟩
theorem sc_Observer_most_looks_x : FnScope (["self", "pair", "place", "seen"] : List PySem.Str) (["self"] : List PySem.Str) (defScope s_Observer_most_looks_x) := ⟨rfl, rfl, rfl, by decide +kernel, rfl, by decide +kernel, by decide +kernel⟩
theorem ok_Observer_most_looks_x {P : Program} {w : World} {K : PySem.W.Frag} {mg : Str → Option Value} {base : Heap} (U : TbB K mg base tf) (E : Fx K mg) : ∃ fd, MtM P w K mg base "Observer" "most_looks" (He.fAd K ("Observer", some "most_looks")) fd (["self"] : List PySem.Str) 1 F_Observer_most_looks_x := by

  obtain ⟨fd, Fd⟩ := E.D_Observer_most_looks_x
  exact ⟨fd, fn_M (own' := [.M, .U, .U, .U]) Fd sc_Observer_most_looks_x rfl (t_Observer_most_looks_x E.T ) (by decide), fun d0 ds r h => congrArg (· + 1) (onIns_ar h), E.mt_Observer_most_looks_x, Fd.bindsN fun _ _ _ _ _ _ us hl => match us, hl with | [_], _ => rfl⟩
theorem sc_Observer_next_places_x : FnScope (["self", "number", "pair", "place", "seen"] : List PySem.Str) (["self"] : List PySem.Str) (defScope s_Observer_next_places_x) := ⟨rfl, rfl, rfl, by decide +kernel, rfl, by decide +kernel, by decide +kernel⟩
theorem ok_Observer_next_places_x {P : Program} {w : World} {K : PySem.W.Frag} {mg : Str → Option Value} {base : Heap} (U : TbB K mg base tf) (E : Fx K mg) : ∃ fd, MtM P w K mg base "Observer" "next_places" (He.fAd K ("Observer", some "next_places")) fd (["self"] : List PySem.Str) 1 F_Observer_next_places_x := by

  obtain ⟨fd, Fd⟩ := E.D_Observer_next_places_x
  exact ⟨fd, fn_M (own' := [.M, .U, .U, .U, .U]) Fd sc_Observer_next_places_x rfl (t_Observer_next_places_x E.T ) (by decide), fun d0 ds r h => congrArg (· + 1) (onIns_ar h), E.mt_Observer_next_places_x, Fd.bindsN fun _ _ _ _ _ _ us hl => match us, hl with | [_], _ => rfl⟩
theorem sc_Observer_saw_x : FnScope (["self", "place", "number", "found", "row"] : List PySem.Str) (["self", "place"] : List PySem.Str) (defScope s_Observer_saw_x) := ⟨rfl, rfl, rfl, by decide +kernel, rfl, by decide +kernel, by decide +kernel⟩
theorem ok_Observer_saw_x {P : Program} {w : World} {K : PySem.W.Frag} {mg : Str → Option Value} {base : Heap} (U : TbB K mg base tf) (E : Fx K mg) : ∃ fd, MtM P w K mg base "Observer" "saw" (He.fAd K ("Observer", some "saw")) fd (["self", "place"] : List PySem.Str) 2 F_Observer_saw_x := by
  obtain ⟨fd_Observer_narrow_l, m_Observer_narrow_l⟩ := ok_Observer_narrow_l (P := P) (w := w) (base := base) U E
  obtain ⟨fd_Observer_check_open_x, m_Observer_check_open_x⟩ := ok_Observer_check_open_x (P := P) (w := w) (base := base) U E
  obtain ⟨fd, Fd⟩ := E.D_Observer_saw_x
  exact ⟨fd, fn_M (own' := [.M, .U, .U, .U, .U]) Fd sc_Observer_saw_x rfl (t_Observer_saw_x E.T m_Observer_narrow_l m_Observer_check_open_x) (by decide), fun d0 ds r h => congrArg (· + 1) (onIns_ar h), E.mt_Observer_saw_x, Fd.bindsN fun _ _ _ _ _ _ us hl => match us, hl with | [_, _], _ => rfl⟩
theorem sc_Observer_is_closed_x : FnScope (["self"] : List PySem.Str) (["self"] : List PySem.Str) (defScope s_Observer_is_closed_x) := ⟨rfl, rfl, rfl, by decide +kernel, rfl, by decide +kernel, by decide +kernel⟩
theorem ok_Observer_is_closed_x {P : Program} {w : World} {K : PySem.W.Frag} {mg : Str → Option Value} {base : Heap} (U : TbB K mg base tf) (E : Fx K mg) : ∃ fd, PrM P w K mg base "Observer" "is_closed" (pOb K "Observer" "is_closed") (pAd K "Observer" "is_closed") fd (["self"] : List PySem.Str) 1 F_Observer_is_closed_x := by

  obtain ⟨fd, Fd⟩ := E.P_Observer_is_closed_x.fn
  exact ⟨fd, fn_M (own' := [.M]) Fd sc_Observer_is_closed_x rfl (t_Observer_is_closed_x E.T ) (by decide), fun d0 ds r h => congrArg (· + 1) (onIns_ar h), ⟨E.P_Observer_is_closed_x.at_, E.P_Observer_is_closed_x.get, E.P_Observer_is_closed_x.tk, E.P_Observer_is_closed_x.rc⟩, Fd.bindsN fun _ _ _ _ _ _ us hl => match us, hl with | [_], _ => rfl⟩
theorem sc_Observer_pairs_x : FnScope (["self", "pair", "place", "seen"] : List PySem.Str) (["self"] : List PySem.Str) (defScope s_Observer_pairs_x) := ⟨rfl, rfl, rfl, by decide +kernel, rfl, by decide +kernel, by decide +kernel⟩
theorem ok_Observer_pairs_x {P : Program} {w : World} {K : PySem.W.Frag} {mg : Str → Option Value} {base : Heap} (U : TbB K mg base tf) (E : Fx K mg) : ∃ fd, PrM P w K mg base "Observer" "pairs" (pOb K "Observer" "pairs") (pAd K "Observer" "pairs") fd (["self"] : List PySem.Str) 1 F_Observer_pairs_x := by

  obtain ⟨fd, Fd⟩ := E.P_Observer_pairs_x.fn
  exact ⟨fd, fn_M (own' := [.M, .U, .U, .U]) Fd sc_Observer_pairs_x rfl (t_Observer_pairs_x E.T ) (by decide), fun d0 ds r h => congrArg (· + 1) (onIns_ar h), ⟨E.P_Observer_pairs_x.at_, E.P_Observer_pairs_x.get, E.P_Observer_pairs_x.tk, E.P_Observer_pairs_x.rc⟩, Fd.bindsN fun _ _ _ _ _ _ us hl => match us, hl with | [_], _ => rfl⟩
theorem sc_Observer_places_x : FnScope (["self"] : List PySem.Str) (["self"] : List PySem.Str) (defScope s_Observer_places_x) := ⟨rfl, rfl, rfl, by decide +kernel, rfl, by decide +kernel, by decide +kernel⟩
theorem ok_Observer_places_x {P : Program} {w : World} {K : PySem.W.Frag} {mg : Str → Option Value} {base : Heap} (U : TbB K mg base tf) (E : Fx K mg) : ∃ fd, PrM P w K mg base "Observer" "places" (pOb K "Observer" "places") (pAd K "Observer" "places") fd (["self"] : List PySem.Str) 1 F_Observer_places_x := by

  obtain ⟨fd, Fd⟩ := E.P_Observer_places_x.fn
  exact ⟨fd, fn_M (own' := [.M]) Fd sc_Observer_places_x rfl (t_Observer_places_x E.T ) (by decide), fun d0 ds r h => congrArg (· + 1) (onIns_ar h), ⟨E.P_Observer_places_x.at_, E.P_Observer_places_x.get, E.P_Observer_places_x.tk, E.P_Observer_places_x.rc⟩, Fd.bindsN fun _ _ _ _ _ _ us hl => match us, hl with | [_], _ => rfl⟩
theorem sc_law : FnScope (["_law_script", "_law_row", "_law_names", "_law_turn", "_law_drawer_here", "_law_rule_here", "_law_name", "_law_place", "_law_seen", "_law_watch", "_law_counts", "_law_k", "_law_due", "_law_one", "_law_found", "_law_other"] : List PySem.Str) (["_law_script"] : List PySem.Str) (defScope s_law) := ⟨rfl, rfl, rfl, by decide +kernel, rfl, by decide +kernel, by decide +kernel⟩
theorem okL {P : Program} {w : World} {K : PySem.W.Frag} {mg : Str → Option Value} {base : Heap} (U : TbB K mg base tf) (E : Fx K mg) {f : Addr} {fd : FuncData} (Fd : FunD K "law" "law" (defArgs s_law) (defBody s_law) (defScope s_law) [] [] f fd) : FnOk P w K mg base CX0 7 f fd (["_law_script"] : List PySem.Str) (spV K 1 F_law) := by
  obtain ⟨fd_Observer, i_Observer⟩ := ok_Observer (P := P) (w := w) (base := base) U E
  obtain ⟨fd__law_drawer, h__law_drawer⟩ := ok__law_drawer (P := P) (w := w) (base := base) U E
  obtain ⟨fd__law_rule, h__law_rule⟩ := ok__law_rule (P := P) (w := w) (base := base) U E
  obtain ⟨fd__law_taken, h__law_taken⟩ := ok__law_taken (P := P) (w := w) (base := base) U E
  obtain ⟨fd_look_up, h_look_up⟩ := ok_look_up (P := P) (w := w) (base := base) U E
  obtain ⟨fd_Observer_could_find_x, m_Observer_could_find_x⟩ := ok_Observer_could_find_x (P := P) (w := w) (base := base) U E
  obtain ⟨fd_Observer_ended_x, m_Observer_ended_x⟩ := ok_Observer_ended_x (P := P) (w := w) (base := base) U E
  obtain ⟨fd_Observer_most_looks_x, m_Observer_most_looks_x⟩ := ok_Observer_most_looks_x (P := P) (w := w) (base := base) U E
  obtain ⟨fd_Observer_next_places_x, m_Observer_next_places_x⟩ := ok_Observer_next_places_x (P := P) (w := w) (base := base) U E
  obtain ⟨fd_Observer_saw_x, m_Observer_saw_x⟩ := ok_Observer_saw_x (P := P) (w := w) (base := base) U E
  obtain ⟨fd_Observer_is_closed_x, p_Observer_is_closed_x⟩ := ok_Observer_is_closed_x (P := P) (w := w) (base := base) U E
  obtain ⟨fd_Observer_pairs_x, p_Observer_pairs_x⟩ := ok_Observer_pairs_x (P := P) (w := w) (base := base) U E
  obtain ⟨fd_Observer_places_x, p_Observer_places_x⟩ := ok_Observer_places_x (P := P) (w := w) (base := base) U E
  exact fn_V Fd sc_law (t_law E.T i_Observer h__law_drawer h__law_rule h__law_taken h_look_up m_Observer_could_find_x m_Observer_ended_x m_Observer_most_looks_x m_Observer_next_places_x m_Observer_saw_x p_Observer_is_closed_x p_Observer_pairs_x p_Observer_places_x)
def fa0 : List He.Fa := [.str "HALF" "half", .str "LEAF" "leaf", .str "LETTERS" "abcdefghijklmnopqrstuvwxyz", .int "MAX_ALSO" 4, .int "MAX_BOOK" 999, .int "MAX_BOOKS" 6, .int "MAX_CARDS" 16, .int "MAX_LETTERS" 8, .free "all", .free "bool", .free "enumerate", .free "int", .free "isinstance", .free "len", .free "max", .free "range", .free "set", .free "sorted", .free "str", .free "tuple", .free "zip", .glo "RULES", .glo "is_word", .glo "check_heading", .glo "check_rule", .glo "by_halves", .glo "one_by_one", .glo "looked_up", .glo "Observer", .mkr "Observer", .glo "Drawer", .mkr "Drawer", .glo "is_number", .glo "are_books", .glo "are_others", .glo "Card", .mkr "Card", .glo "_law_taken", .glo "_law_card", .glo "_law_drawer", .glo "_law_rule", .glo "look_up", .meth "Observer" "could_find", .meth "Observer" "narrow", .meth "Observer" "check_open", .meth "Observer" "ended", .meth "Observer" "most_looks", .meth "Observer" "next_places", .meth "Observer" "saw", .glo "law"]
def far0 : List He.Fa := fa0
abbrev fa : List He.Fa := far0
def fn0 : List He.DefD := [⟨("is_word", none), "is_word", "is_word", defArgs s_is_word, defBody s_is_word, defScope s_is_word, [], []⟩, ⟨("check_heading", none), "check_heading", "check_heading", defArgs s_check_heading, defBody s_check_heading, defScope s_check_heading, [], []⟩, ⟨("check_rule", none), "check_rule", "check_rule", defArgs s_check_rule, defBody s_check_rule, defScope s_check_rule, [], []⟩, ⟨("by_halves", none), "by_halves", "by_halves", defArgs s_by_halves, defBody s_by_halves, defScope s_by_halves, [], []⟩, ⟨("one_by_one", none), "one_by_one", "one_by_one", defArgs s_one_by_one, defBody s_one_by_one, defScope s_one_by_one, [], []⟩, ⟨("looked_up", none), "looked_up", "looked_up", defArgs s_looked_up, defBody s_looked_up, defScope s_looked_up, [], []⟩, ⟨("Observer", some "__init__"), "__init__", "Observer.__init__", defArgs s_Observer, defBody s_Observer, defScope s_Observer, [], []⟩, ⟨("Drawer", some "__init__"), "__init__", "Drawer.__init__", defArgs s_Drawer, defBody s_Drawer, defScope s_Drawer, [], []⟩, ⟨("is_number", none), "is_number", "is_number", defArgs s_is_number, defBody s_is_number, defScope s_is_number, [], []⟩, ⟨("are_books", none), "are_books", "are_books", defArgs s_are_books, defBody s_are_books, defScope s_are_books, [], []⟩, ⟨("are_others", none), "are_others", "are_others", defArgs s_are_others, defBody s_are_others, defScope s_are_others, [], []⟩, ⟨("Card", some "__init__"), "__init__", "Card.__init__", defArgs s_Card, defBody s_Card, defScope s_Card, [.adr (He.dflAt ("Card", some "__init__") 0), .str "", .adr (He.dflAt ("Card", some "__init__") 2)], []⟩, ⟨("_law_taken", none), "_law_taken", "_law_taken", defArgs s__law_taken, defBody s__law_taken, defScope s__law_taken, [], []⟩, ⟨("_law_card", none), "_law_card", "_law_card", defArgs s__law_card, defBody s__law_card, defScope s__law_card, [], []⟩, ⟨("_law_drawer", none), "_law_drawer", "_law_drawer", defArgs s__law_drawer, defBody s__law_drawer, defScope s__law_drawer, [], []⟩, ⟨("_law_rule", none), "_law_rule", "_law_rule", defArgs s__law_rule, defBody s__law_rule, defScope s__law_rule, [], []⟩, ⟨("look_up", none), "look_up", "look_up", defArgs s_look_up, defBody s_look_up, defScope s_look_up, [], []⟩, ⟨("Observer", some "could_find"), "could_find", "Observer.could_find", defArgs s_Observer_could_find_x, defBody s_Observer_could_find_x, defScope s_Observer_could_find_x, [], []⟩, ⟨("Observer", some "narrow"), "narrow", "Observer.narrow", defArgs s_Observer_narrow_l, defBody s_Observer_narrow_l, defScope s_Observer_narrow_l, [], []⟩, ⟨("Observer", some "check_open"), "check_open", "Observer.check_open", defArgs s_Observer_check_open_x, defBody s_Observer_check_open_x, defScope s_Observer_check_open_x, [], []⟩, ⟨("Observer", some "ended"), "ended", "Observer.ended", defArgs s_Observer_ended_x, defBody s_Observer_ended_x, defScope s_Observer_ended_x, [], []⟩, ⟨("Observer", some "most_looks"), "most_looks", "Observer.most_looks", defArgs s_Observer_most_looks_x, defBody s_Observer_most_looks_x, defScope s_Observer_most_looks_x, [], []⟩, ⟨("Observer", some "next_places"), "next_places", "Observer.next_places", defArgs s_Observer_next_places_x, defBody s_Observer_next_places_x, defScope s_Observer_next_places_x, [], []⟩, ⟨("Observer", some "saw"), "saw", "Observer.saw", defArgs s_Observer_saw_x, defBody s_Observer_saw_x, defScope s_Observer_saw_x, [], []⟩, ⟨("law", none), "law", "law", defArgs s_law, defBody s_law, defScope s_law, [], []⟩]
def fnr0 : List He.DefD := fn0
abbrev fn : List He.DefD := fnr0
def prs0 : List PrD := [pr_Card_heading, pr_Drawer_cards, pr_Observer_is_closed_x, pr_Observer_pairs_x, pr_Observer_places_x]
def prsr0 : List PrD := prs0
abbrev prs : List PrD := prsr0
def names0 : List PySem.Str := ["_wall", "SeeError", "InvalidCard", "InvalidDrawer", "UnknownPlace", "InvalidRule", "InvalidHeading", "NoPair"]
def names1 : List PySem.Str := ["Ended", "LETTERS", "MAX_LETTERS", "MAX_BOOKS", "MAX_BOOK", "MAX_ALSO", "is_number", "is_word"]
def names2 : List PySem.Str := ["check_heading", "are_books", "are_others", "Card", "ALL", "HALF", "LEAF", "RULES"]
def names3 : List PySem.Str := ["check_rule", "by_halves", "one_by_one", "looked_up", "look_up", "Observer", "MAX_CARDS", "Drawer"]
def names4 : List PySem.Str := ["_law_taken", "_law_card", "_law_drawer", "_law_rule"]
def names : List PySem.Str := names0 ++ (names1 ++ (names2 ++ (names3 ++ (names4))))
def ex0 (K : PySem.W.Frag) : Bool := tfB tf K && (clB K "Card" (["facts"] : List PySem.Str) && (clB K "Drawer" (["row"] : List PySem.Str) && (He.tupB K "RULES" ((["all", "half", "leaf"] : List PySem.Str).map He.Dv.str) && (dclB K "Observer" && (tup0B K (He.dflAt ("Card", some "__init__") 0 K) && (tup0B K (He.dflAt ("Card", some "__init__") 2 K)))))))
def exr0 (K : PySem.W.Frag) : Bool := ex0 K
abbrev ex : PySem.W.Frag → Bool := exr0
abbrev R : PySem.W.OpenRow := PySem.W.OpenLaw.row PySem.Challenge.rw_seerings_k61_whole_observers_and_lookups
abbrev hk : PySem.W.Hook := hookZ 6 fa fn prs tf ex
abbrev ob (s : PySem.W.SharedT) : AlY := obY 6 fa fn prs tf ex s
theorem ob_eq (s : PySem.W.SharedT) : ob s = hk.obs s.abs := obsZ_eq (HandSHeadRun.getT_eq s)
theorem run0 (w : World) : HandSHeadRun.RunEq R (PySem.W.view R.prog [42]) (hookZ 6 fa0 fn0 prs0 tf ex0) (obY 6 fa0 fn0 prs0 tf ex0) 20000 names w := by
  intro os
  kernel_rfl
theorem runr0 (w : World) : HandSHeadRun.RunEq R (PySem.W.view R.prog [42]) (hookZ 6 far0 fnr0 prsr0 tf exr0) (obY 6 far0 fnr0 prsr0 tf exr0) 20000 names w := run0 w
theorem run (w : World) : HandSHeadRun.RunEq R (PySem.W.view R.prog [42]) hk ob 20000 names w := runr0 w
theorem fx {w : World} {K : PySem.W.Frag} {h : Heap} {mg : Str → Option Value} (X : K.In h) (G : h.Ns mainGlobals mg) (c : SaysY fa fn prs tf ex w h K) : Fx K mg := by
  have e0 : exr0 K = true := c.more
  unfold exr0 ex0 at e0
  simp only [Bool.and_eq_true] at e0
  exact ⟨⟨clB_ok e0.2.1, clB_ok e0.2.2.1, He.str_ok X G (c.fact 0 (f := .str "HALF" "half") rfl), He.str_ok X G (c.fact 1 (f := .str "LEAF" "leaf") rfl), He.str_ok X G (c.fact 2 (f := .str "LETTERS" "abcdefghijklmnopqrstuvwxyz") rfl), He.int_ok X G (c.fact 3 (f := .int "MAX_ALSO" 4) rfl), He.int_ok X G (c.fact 4 (f := .int "MAX_BOOK" 999) rfl), He.int_ok X G (c.fact 5 (f := .int "MAX_BOOKS" 6) rfl), He.int_ok X G (c.fact 6 (f := .int "MAX_CARDS" 16) rfl), He.int_ok X G (c.fact 7 (f := .int "MAX_LETTERS" 8) rfl), ⟨_, He.glo_ok X G (c.fact 21 (f := .glo "RULES") rfl), strsRep e0.2.2.2.1 (by decide +kernel) (by decide)⟩, dclB_ok e0.2.2.2.2.1 (by decide +kernel) (by decide +kernel), He.free_ok X G (c.fact 8 (f := .free "all") rfl), He.free_ok X G (c.fact 9 (f := .free "bool") rfl), He.free_ok X G (c.fact 10 (f := .free "enumerate") rfl), He.free_ok X G (c.fact 11 (f := .free "int") rfl), He.free_ok X G (c.fact 12 (f := .free "isinstance") rfl), He.free_ok X G (c.fact 13 (f := .free "len") rfl), He.free_ok X G (c.fact 14 (f := .free "max") rfl), He.free_ok X G (c.fact 15 (f := .free "range") rfl), He.free_ok X G (c.fact 16 (f := .free "set") rfl), He.free_ok X G (c.fact 17 (f := .free "sorted") rfl), He.free_ok X G (c.fact 18 (f := .free "str") rfl), He.free_ok X G (c.fact 19 (f := .free "tuple") rfl), He.free_ok X G (c.fact 20 (f := .free "zip") rfl)⟩,
    c.def_ 0 rfl,
    He.glo_ok X G (c.fact 22 (f := .glo "is_word") rfl),
    c.def_ 1 rfl,
    He.glo_ok X G (c.fact 23 (f := .glo "check_heading") rfl),
    c.def_ 2 rfl,
    He.glo_ok X G (c.fact 24 (f := .glo "check_rule") rfl),
    c.prop 0 rfl,
    c.prop 1 rfl,
    c.def_ 3 rfl,
    He.glo_ok X G (c.fact 25 (f := .glo "by_halves") rfl),
    c.def_ 4 rfl,
    He.glo_ok X G (c.fact 26 (f := .glo "one_by_one") rfl),
    c.def_ 5 rfl,
    He.glo_ok X G (c.fact 27 (f := .glo "looked_up") rfl),
    c.def_ 6 rfl,
    He.glo_ok X G (c.fact 28 (f := .glo "Observer") rfl),
    He.mkr_ok (c.fact 29 (f := .mkr "Observer") rfl),
    c.def_ 7 rfl,
    He.glo_ok X G (c.fact 30 (f := .glo "Drawer") rfl),
    He.mkr_ok (c.fact 31 (f := .mkr "Drawer") rfl),
    c.def_ 8 rfl,
    He.glo_ok X G (c.fact 32 (f := .glo "is_number") rfl),
    c.def_ 9 rfl,
    He.glo_ok X G (c.fact 33 (f := .glo "are_books") rfl),
    c.def_ 10 rfl,
    He.glo_ok X G (c.fact 34 (f := .glo "are_others") rfl),
    (let ⟨fd, h⟩ := c.def_ 11 rfl; ⟨_, fd, rfl, (fun B => .cons (tup0B_ok e0.2.2.2.2.2.1 B) (.cons (.str "" (by decide +kernel)) (.cons (tup0B_ok e0.2.2.2.2.2.2 B) (.nil)))), h⟩),
    He.glo_ok X G (c.fact 35 (f := .glo "Card") rfl),
    He.mkr_ok (c.fact 36 (f := .mkr "Card") rfl),
    c.def_ 12 rfl,
    He.glo_ok X G (c.fact 37 (f := .glo "_law_taken") rfl),
    c.def_ 13 rfl,
    He.glo_ok X G (c.fact 38 (f := .glo "_law_card") rfl),
    c.def_ 14 rfl,
    He.glo_ok X G (c.fact 39 (f := .glo "_law_drawer") rfl),
    c.def_ 15 rfl,
    He.glo_ok X G (c.fact 40 (f := .glo "_law_rule") rfl),
    c.def_ 16 rfl,
    He.glo_ok X G (c.fact 41 (f := .glo "look_up") rfl),
    c.def_ 17 rfl,
    He.meth_ok (c.fact 42 (f := .meth "Observer" "could_find") rfl),
    c.def_ 18 rfl,
    He.meth_ok (c.fact 43 (f := .meth "Observer" "narrow") rfl),
    c.def_ 19 rfl,
    He.meth_ok (c.fact 44 (f := .meth "Observer" "check_open") rfl),
    c.def_ 20 rfl,
    He.meth_ok (c.fact 45 (f := .meth "Observer" "ended") rfl),
    c.def_ 21 rfl,
    He.meth_ok (c.fact 46 (f := .meth "Observer" "most_looks") rfl),
    c.def_ 22 rfl,
    He.meth_ok (c.fact 47 (f := .meth "Observer" "next_places") rfl),
    c.def_ 23 rfl,
    He.meth_ok (c.fact 48 (f := .meth "Observer" "saw") rfl),
    c.prop 2 rfl,
    c.prop 3 rfl,
    c.prop 4 rfl,
    c.def_ 24 rfl,
    He.glo_ok X G (c.fact 49 (f := .glo "law") rfl)⟩
theorem facts {P : Program} {w : World} {K : PySem.W.Frag} {h : Heap} {mg : Str → Option Value} {f : Addr} (X : K.In h) (G : h.Ns mainGlobals mg) (hfa : mg ("law" : Str) = some (.ref f)) (c : SaysY fa fn prs tf ex w h K) :
    ∃ fd : FuncData, (∀ (s : Shared) (v : Value), BindsTo s fd ⟨[v], []⟩ [("_law_script", v)]) ∧ ∀ base : Heap, K.In base → base.Ns mainGlobals mg → (∀ p ∈ tf.map (He.cT K), LamX.TabB base mg p.1 p.2) → FnOk P w K mg base CX0 7 f fd ["_law_script"] (spV K 1 F_law) := by
  have E := fx X G c
  have e := hfa.symm.trans E.g_law
  cases e
  obtain ⟨fd, Fd⟩ := id E.D_law
  have b := FunD.bindsA (ps := ["_law_script"]) Fd fun _ _ _ _ _ _ us hl => match us, hl with | [_], _ => rfl
  refine ⟨fd, fun s v => b s [v] rfl, fun base _ _ TB => ?_⟩
  have U : TbB K mg base tf := fun p hp => ⟨List.elem_iff.mp (List.all_eq_true.mp (show (tf.all fun p => LAMS.elem p) = true by decide +kernel) p hp), c.x.hd p hp, TB _ (List.mem_map.mpr ⟨p, hp, rfl⟩)⟩
  exact okL U E Fd
theorem tfB_of {w : World} {K : PySem.W.Frag} {h : Heap} (c : SaysY fa fn prs tf ex w h K) : tfB tf K = true := by
  have e0 : exr0 K = true := c.more
  unfold exr0 ex0 at e0
  simp only [Bool.and_eq_true] at e0
  exact e0.1
end MP.k61
/-! the plain side: what the denotations give, step by step -/
namespace MP
open PySem L2
@[simp] theorem look_zero (a : D) (l : List D) : look (a :: l) 0 = a := rfl
@[simp] theorem look_succ (a : D) (l : List D) (n : Nat) : look (a :: l) (n + 1) = look l n := rfl
section
variable {α β : Type} {m : M α} {f : α → M β} {s : α → SM} {ρ : Env} {a : α} {g h i : M D} {gs hs : M (List D)} {d : D} {x y z : SM} {c c' : M Bool}
@[simp] theorem bnd_ap : bnd m f ρ = (m ρ).bnd f := rfl
@[simp] theorem bnd_ok : (Res.ok a ρ).bnd f = f a ρ := rfl
@[simp] theorem bnd_bad : (Res.bad : Res α).bnd f = .bad := rfl
@[simp] theorem sbd_ap : sbd m s ρ = (m ρ).sb s := rfl
@[simp] theorem sb_ok : (Res.ok a ρ).sb s = s a ρ := rfl
@[simp] theorem sb_bad : (Res.bad : Res α).sb s = .bad := rfl
@[simp] theorem ret_ap : ret a ρ = .ok a ρ := rfl
@[simp] theorem ofO_some : ofO (some a) ρ = .ok a ρ := rfl
@[simp] theorem ofO_none : (ofO none : M α) ρ = .bad := rfl
@[simp] theorem vD_ap {i : Nat} : vD i ρ = .ok (look ρ i) ρ := rfl
@[simp] theorem kD_ap : kD d ρ = .ok d ρ := rfl
@[simp] theorem iteM {p : Prop} [Decidable p] {m m' : M α} : (if p then m else m') ρ = if p then m ρ else m' ρ := by split <;> rfl
@[simp] theorem iteS {p : Prop} [Decidable p] : (if p then x else y) ρ = if p then x ρ else y ρ := by split <;> rfl
@[simp] theorem op1_ap {f : D → Option D} : op1 f g ρ = (g ρ).bnd fun x => ofO (f x) := rfl
@[simp] theorem op2_ap {f : D → D → Option D} : op2 f g h ρ = (g ρ).bnd fun x => bnd h fun y => ofO (f x y) := rfl
def bl1 : D → M Bool := fun d => match d with
  | .bl b => ret b
  | _ => ofO none
@[simp] theorem bl1_bl {b : Bool} : bl1 (.bl b) ρ = .ok b ρ := rfl
@[simp] theorem asB_ap : asB g ρ = (g ρ).bnd bl1 := rfl
@[simp] theorem notB_ap : notB c ρ = (c ρ).bnd fun b => ret (!b) := rfl
@[simp] theorem andB_ap : andB c c' ρ = (c ρ).bnd fun b => if b then c' else ret false := rfl
@[simp] theorem orB_ap : orB c c' ρ = (c ρ).bnd fun b => if b then ret true else c' := rfl
@[simp] theorem andD_ap : andD g h ρ = (asB g ρ).bnd fun b => if b then h else ret (.bl false) := rfl
@[simp] theorem orD_ap : orD g h ρ = (asB g ρ).bnd fun b => if b then ret (.bl true) else h := rfl
@[simp] theorem notD_ap : notD g ρ = (asB g ρ).bnd fun b => ret (.bl (!b)) := rfl
@[simp] theorem ifD_ap : ifD c g h ρ = (c ρ).bnd fun b => if b then g else h := rfl
@[simp] theorem nilD_ap : nilD ρ = .ok [] ρ := rfl
@[simp] theorem consD_ap : consD g hs ρ = (g ρ).bnd fun x => bnd hs fun xs => ret (x :: xs) := rfl
@[simp] theorem starD_ap : starD g hs ρ = (g ρ).bnd fun x => bnd (ofO (itemsOf x)) fun as => bnd hs fun xs => ret (as ++ xs) := rfl
@[simp] theorem callD_ap {f : List D → Option D} : callD f gs ρ = (gs ρ).bnd fun xs => ofO (f xs) := rfl
@[simp] theorem tupD_ap : tupD gs ρ = (gs ρ).bnd fun xs => bnd (ofO (szO xs)) fun ys => ret (.tup ys) := rfl
@[simp] theorem lstD_ap : lstD gs ρ = (gs ρ).bnd fun xs => ofO (szO xs) := rfl
@[simp] theorem lstM_ap : lstM gs ρ = (gs ρ).bnd fun ds => ret (.lst ds) := rfl
@[simp] theorem listM_ap : listM g ρ = (g ρ).bnd fun d => ofO (itemsOf d) := rfl
@[simp] theorem itD_ap : itD g ρ = (g ρ).bnd fun d => ofO (seqOf d) := rfl
@[simp] theorem rngD_ap {f : List D → Option (List D)} : rngD f gs ρ = (gs ρ).bnd fun ds => ofO (f ds) := rfl
@[simp] theorem enumD_ap : enumD g ρ = (g ρ).bnd fun d => ofO ((itemsOf d).map (enumL 0)) := rfl
@[simp] theorem zipM_ap : zipM gs ρ = (gs ρ).bnd fun ds => ofO (zipO ds) := rfl
@[simp] theorem minM_ap : minM g ρ = (g ρ).bnd fun d => ofO (minO d) := rfl
@[simp] theorem slM_ap {l u : M (Option Int)} : slM g l u ρ = (g ρ).bnd fun d => bnd l fun l => bnd u fun u => ofO (slD d l u) := rfl
@[simp] theorem noP_ap : noP ρ = .ok none ρ := rfl
def int1 : D → M (Option Int) := fun d => match d with
  | .int i => ret (some i)
  | _ => ofO none
@[simp] theorem int1_int {i : Int} : int1 (.int i) ρ = .ok (some i) ρ := rfl
@[simp] theorem someP_ap : someP g ρ = (g ρ).bnd int1 := rfl
@[simp] theorem ixOwn_ap {j : Nat} : ixOwn j g ρ = (g ρ).bnd fun i ρ => ofO (ixD (look ρ j) i) ρ := rfl
@[simp] theorem lenOwn_ap {j : Nat} : lenOwn j ρ = ofO (lenD [look ρ j]) ρ := rfl
@[simp] theorem cmpOwn_ap {f : D → D → Option D} {j : Nat} : cmpOwn f j g ρ = (g ρ).bnd fun d ρ => ofO (f (look ρ j) d) ρ := rfl
def callR1 (ff : FRf) (j : Nat) (ds : List D) : M D := fun ρ => match look ρ j with
  | .lst rs => (match ff rs ds with
    | some (d, rs') => .ok d (ρ.set j (.lst rs'))
    | none => .bad)
  | _ => .bad
@[simp] theorem callR_ap {ff : FRf} {j : Nat} : callR ff j gs ρ = (gs ρ).bnd (callR1 ff j) := rfl
theorem callR1_of {ff : FRf} {j : Nat} {ds rs rs' : List D} (h1 : look ρ j = .lst rs) (h2 : ff rs ds = some (d, rs')) : callR1 ff j ds ρ = .ok d (ρ.set j (.lst rs')) := by unfold callR1; rw [h1]; simp only; rw [h2]
@[simp] theorem methD_ap {c : Str} {ff : FV} : methD c ff g gs ρ = (g ρ).bnd fun d => bnd (ofO (chkC c d)) fun e => bnd gs fun ds => ofO (ff (e :: ds)) := rfl
@[simp] theorem makeK_ap {c : Str} {fi : FI} {gD : List D → List D → List D} : makeK c fi gD gs hs ρ = (gs ρ).bnd fun xs => bnd hs fun ys => ofO (makeD c fi (gD xs ys)) := rfl
@[simp] theorem ek3_ap : ek3 g h i ρ = consD g (consD h (consD i nilD)) ρ := rfl
/-! statements -/
def SRes.sq (r : SRes) (h : SM) : SRes := match r with
  | .nx ρ => h ρ
  | r => r
@[simp] theorem sq_nx : (SRes.nx ρ).sq x = x ρ := rfl
@[simp] theorem sq_rt : (SRes.rt d ρ).sq x = .rt d ρ := rfl
@[simp] theorem sq_bk : (SRes.bk ρ).sq x = .bk ρ := rfl
@[simp] theorem sq_ct : (SRes.ct ρ).sq x = .ct ρ := rfl
@[simp] theorem sq_bad : SRes.bad.sq x = .bad := rfl
@[simp] theorem seqS_ap : seqS x y ρ = (x ρ).sq y := by unfold seqS SRes.sq; cases x ρ <;> rfl
@[simp] theorem nxS_ap : nxS ρ = .nx ρ := rfl
@[simp] theorem badS_ap : badS ρ = .bad := rfl
@[simp] theorem retS_ap : retS g ρ = (g ρ).sb fun d ρ => .rt d ρ := rfl
@[simp] theorem exprS_ap : exprS g ρ = (g ρ).sb fun _ ρ => .nx ρ := rfl
@[simp] theorem setS_ap {i : Nat} : setS i g ρ = (g ρ).sb fun d ρ => .nx (ρ.set i d) := rfl
@[simp] theorem setLS_ap {i : Nat} : setLS i gs ρ = (gs ρ).sb fun ds ρ => .nx (ρ.set i (.lst ds)) := rfl
@[simp] theorem ifS_ap : ifS c x y ρ = (c ρ).sb fun b => if b then x else y := rfl
@[simp] theorem setPar_ap {i j : Nat} : setPar i j g h ρ = (g ρ).sb fun x => sbd h fun y ρ => .nx ((ρ.set i x).set j y) := rfl
@[simp] theorem setParLL_ap {i j : Nat} : setParLL i j gs hs ρ = (gs ρ).sb fun x => sbd hs fun y ρ => .nx ((ρ.set i (.lst x)).set j (.lst y)) := rfl
@[simp] theorem setParVL_ap {i j : Nat} : setParVL i j g hs ρ = (g ρ).sb fun x => sbd hs fun y ρ => .nx ((ρ.set i x).set j (.lst y)) := rfl
@[simp] theorem setParLV_ap {i j : Nat} : setParLV i j gs h ρ = (gs ρ).sb fun x => sbd h fun y ρ => .nx ((ρ.set i (.lst x)).set j y) := rfl
@[simp] theorem setPar3_ap {i j k : Nat} : setPar3 i j k gs ρ = (gs ρ).sb fun ds ρ => match ds with
  | [x, y, z] => .nx (((ρ.set i x).set j y).set k z)
  | _ => .bad := rfl
@[simp] theorem setPar3L_ap {i j k : Nat} : setPar3L i j k gs hs ρ = (gs ρ).sb fun xs => sbd hs fun ys ρ => match ys with
  | [y, z] => .nx (((ρ.set i (.lst xs)).set j y).set k z)
  | _ => .bad := rfl
@[simp] theorem unpS_ap {b : Bd} : unpS b g ρ = (g ρ).sb fun d ρ => match b d ρ with
  | some ρ' => .nx ρ'
  | none => .bad := rfl
def app1 (j : Nat) (d : D) (ρ : Env) : SRes := match look ρ j with
  | .lst rs => if rs.length < 16000000 then .nx (ρ.set j (.lst (rs ++ [d]))) else .bad
  | _ => .bad
@[simp] theorem appS_ap {j : Nat} : appS j g ρ = (g ρ).sb (app1 j) := rfl
theorem app1_of {j : Nat} {rs : List D} (h : look ρ j = .lst rs) (hl : rs.length < 16000000) : app1 j d ρ = .nx (ρ.set j (.lst (rs ++ [d]))) := by unfold app1; rw [h]; simp only; rw [if_pos hl]
def ext1 (j : Nat) (ds : List D) (ρ : Env) : SRes := match look ρ j with
  | .lst rs => if rs.length + ds.length < 16000000 then .nx (ρ.set j (.lst (rs ++ ds))) else .bad
  | _ => .bad
@[simp] theorem extS_ap {j : Nat} : extS j gs ρ = (gs ρ).sb (ext1 j) := rfl
@[simp] theorem setIxS_ap {j : Nat} : setIxS j g h ρ = (h ρ).sb fun d => sbd g fun i ρ => match look ρ j with
  | .lst rs => (match i with
    | .int z => (match ixN rs.length z with
      | some n => .nx (ρ.set j (.lst (rs.set n d)))
      | none => .bad)
    | _ => .bad)
  | _ => .bad := rfl
@[simp] theorem slotS_ap {c : Str} {i : Nat} : slotS c i g ρ = (g ρ).sb fun d ρ => match look ρ 0 with
  | .ins c' fs => if c' = c ∧ fs.length = i then .nx (ρ.set 0 (.ins c' (fs ++ [d]))) else .bad
  | _ => .bad := rfl
@[simp] theorem forS_ap {b : Bd} {it : M (List D)} : forS b it x ρ = (it ρ).sb fun ds ρ => forL b x ds ρ := rfl
@[simp] theorem lcD_ap {b : Bd} {it : M (List D)} {vs : List Nat} : lcD b it c g vs ρ = (it ρ).bnd fun ds ρ => lcL b c g vs ds ρ [] := rfl
@[simp] theorem bName_ap {i : Nat} : bName i d ρ = some (ρ.set i d) := rfl
@[simp] theorem bNil_ap : bNil [] ρ = some ρ := rfl
@[simp] theorem bCons_ap {b : Bd} {cs : Bds} {r : List D} : bCons b cs (d :: r) ρ = (b d ρ).bind (cs r) := rfl
@[simp] theorem bTup_ap {n : Nat} {cs : Bds} {r : List D} : bTup n cs (.tup r) ρ = if r.length = n then cs r ρ else none := rfl
@[simp] theorem yesM_ap : yesM ρ = .ok true ρ := rfl
end
/-! primitives -/
@[simp] theorem intOp_ii {C : Int → Int → Bool} {f : Int → Int → D} {i j : Int} : intOp C f (.int i) (.int j) = if C i j then some (f i j) else none := rfl
@[simp] theorem addD_ii {i j : Int} : addD (.int i) (.int j) = some (.int (i + j)) := rfl
@[simp] theorem addD_tt {a b : List D} : addD (.tup a) (.tup b) = (szO (a ++ b)).map .tup := rfl
@[simp] theorem addD_ll {a b : List D} : addD (.lst a) (.lst b) = (szO (a ++ b)).map .lst := rfl
@[simp] theorem ltD_ii {i j : Int} : ltD (.int i) (.int j) = some (.bl (decide (i < j))) := rfl
@[simp] theorem leD_ii {i j : Int} : leD (.int i) (.int j) = some (.bl (decide (i ≤ j))) := rfl
@[simp] theorem gtD_ii {i j : Int} : gtD (.int i) (.int j) = some (.bl (decide (j < i))) := rfl
@[simp] theorem geD_ii {i j : Int} : geD (.int i) (.int j) = some (.bl (decide (j ≤ i))) := rfl
@[simp] theorem gtD_ss {i j : Str} : gtD (.str i) (.str j) = some (.bl (decide (j.cps.toList < i.cps.toList))) := rfl
@[simp] theorem ltD_ss {i j : Str} : ltD (.str i) (.str j) = some (.bl (decide (i.cps.toList < j.cps.toList))) := rfl
@[simp] theorem geD_ss {i j : Str} : geD (.str i) (.str j) = some (.bl (!decide (i.cps.toList < j.cps.toList))) := rfl
@[simp] theorem leD_ss {i j : Str} : leD (.str i) (.str j) = some (.bl (!decide (j.cps.toList < i.cps.toList))) := rfl
@[simp] theorem isND_non {d : D} : isND .non d = (match d with | .non => some (.bl true) | _ => none) := by cases d <;> rfl
@[simp] theorem lenD_l {ds : List D} : lenD [.lst ds] = some (.int ds.length) := rfl
@[simp] theorem lenD_t {ds : List D} : lenD [.tup ds] = some (.int ds.length) := rfl
@[simp] theorem intD_i {i : Int} : intD [.int i] = some (.int i) := rfl
@[simp] theorem tupleD_t {ds : List D} : tupleD [.tup ds] = some (.tup ds) := rfl
@[simp] theorem tupleD_l {ds : List D} : tupleD [.lst ds] = some (.tup ds) := rfl
@[simp] theorem items_t {ds : List D} : itemsOf (.tup ds) = some ds := rfl
@[simp] theorem items_l {ds : List D} : itemsOf (.lst ds) = some ds := rfl
@[simp] theorem slD_t {ds : List D} {l u : Option Int} : slD (.tup ds) l u = some (.tup (cutD ds l u)) := rfl
@[simp] theorem slD_l {ds : List D} {l u : Option Int} : slD (.lst ds) l u = some (.lst (cutD ds l u)) := rfl
@[simp] theorem ixD_t {ds : List D} {i : Int} : ixD (.tup ds) (.int i) = atI ds i := rfl
@[simp] theorem ixD_l {ds : List D} {i : Int} : ixD (.lst ds) (.int i) = atI ds i := rfl
@[simp] theorem isC_ins {c c' : Str} {ff : FV} {ds fs : List D} : isC c ff ds (.ins c' fs) = if c' = c then ff (.ins c' fs :: ds) else none := rfl
@[simp] theorem chkC_ins {c c' : Str} {fs : List D} : chkC c (.ins c' fs) = if c' = c then some (.ins c' fs) else none := rfl
@[simp] theorem fldD_ins {c c' : Str} {i : Nat} {fs : List D} : fldD c i (.ins c' fs) = if c' = c then fs[i]? else none := rfl
theorem szO_of {α : Type} {xs : List α} (h : xs.length ≤ 16000000) : szO xs = some xs := if_pos h
@[simp] theorem szO_nil {α : Type} : szO ([] : List α) = some [] := rfl
@[simp] theorem szO_1 {α : Type} {a : α} : szO [a] = some [a] := rfl
@[simp] theorem szO_2 {α : Type} {a b : α} : szO [a, b] = some [a, b] := rfl
@[simp] theorem szO_3 {α : Type} {a b c : α} : szO [a, b, c] = some [a, b, c] := rfl
@[simp] theorem szO_4 {α : Type} {a b c d : α} : szO [a, b, c, d] = some [a, b, c, d] := rfl
@[simp] theorem szO_5 {α : Type} {a b c d e : α} : szO [a, b, c, d, e] = some [a, b, c, d, e] := rfl
theorem atI_nat' {α : Type} {xs : List α} {n : Nat} (h : n < xs.length) : atI xs (n : Int) = xs[n]? := by
  unfold atI ixN
  rw [if_pos (by omega), if_pos (by omega)]
  simp
@[simp] theorem atI_0 {α : Type} {a : α} {l : List α} : atI (a :: l) 0 = some a := by
  have := atI_nat' (xs := a :: l) (n := 0) (by simp); simpa using this
@[simp] theorem atI_1 {α : Type} {a b : α} {l : List α} : atI (a :: b :: l) 1 = some b := by
  have := atI_nat' (xs := a :: b :: l) (n := 1) (by simp); simpa using this
@[simp] theorem atI_2 {α : Type} {a b c : α} {l : List α} : atI (a :: b :: c :: l) 2 = some c := by
  have := atI_nat' (xs := a :: b :: c :: l) (n := 2) (by simp); simpa using this
@[simp] theorem atI_3 {α : Type} {a b c d : α} {l : List α} : atI (a :: b :: c :: d :: l) 3 = some d := by
  have := atI_nat' (xs := a :: b :: c :: d :: l) (n := 3) (by simp); simpa using this
/-! ends -/
@[simp] theorem endV_rt {d : D} {ρ : Env} : endV (.rt d ρ) = some d := rfl
@[simp] theorem endV_nx {ρ : Env} : endV (.nx ρ) = some .non := rfl
@[simp] theorem endR_rt {d : D} {ρ : Env} : endR (.rt d ρ) = backR d ρ := rfl
@[simp] theorem backR_l {d : D} {rs : List D} {ρ : Env} : backR d (.lst rs :: ρ) = some (d, rs) := rfl
@[simp] theorem startD_ap {n : Nat} {ds : List D} : startD n ds = ds ++ List.replicate (n - ds.length) .non := rfl
/-! comprehensions and loops -/
@[simp] theorem forL_nil {b : Bd} {x : SM} {ρ : Env} : forL b x [] ρ = .nx ρ := rfl
def SRes.lp (r : SRes) (k : Env → SRes) : SRes := match r with
  | .nx ρ => k ρ
  | .ct ρ => k ρ
  | .bk ρ => .nx ρ
  | r => r
@[simp] theorem lp_nx {ρ : Env} {k : Env → SRes} : (SRes.nx ρ).lp k = k ρ := rfl
@[simp] theorem lp_ct {ρ : Env} {k : Env → SRes} : (SRes.ct ρ).lp k = k ρ := rfl
@[simp] theorem lp_bk {ρ : Env} {k : Env → SRes} : (SRes.bk ρ).lp k = .nx ρ := rfl
@[simp] theorem lp_rt {d : D} {ρ : Env} {k : Env → SRes} : (SRes.rt d ρ).lp k = .rt d ρ := rfl
theorem forL_cons {b : Bd} {x : SM} {d : D} {ds : List D} {ρ ρ1 : Env} (h : b d ρ = some ρ1) : forL b x (d :: ds) ρ = (x ρ1).lp fun ρ2 => forL b x ds ρ2 := by
  conv => lhs; unfold forL
  rw [h]
  simp only
  cases x ρ1 <;> rfl
theorem while_step {c : M Bool} {x : SM} {n : Nat} {ρ ρ1 : Env} (h : c ρ = .ok true ρ1) : whileS c x (n + 1) ρ = (x ρ1).lp fun ρ2 => whileS c x n ρ2 := by
  conv => lhs; unfold whileS
  rw [sbd_ap, h, sb_ok, if_pos rfl]
  cases x ρ1 <;> rfl
theorem while_end {c : M Bool} {x : SM} {n : Nat} {ρ ρ1 : Env} (h : c ρ = .ok false ρ1) : whileS c x (n + 1) ρ = .nx ρ1 := by
  conv => lhs; unfold whileS
  rw [sbd_ap, h, sb_ok, if_neg (by simp)]
theorem rng1_of {n : Int} (h0 : 0 ≤ n) (h : n ≤ 16000000) : rng1 [.int n] = some (rangeL 0 n) := by
  show (if n ≤ 16000000 ∧ -(2 ^ 62) ≤ n then some (rangeL 0 n) else none) = _
  rw [if_pos ⟨h, by omega⟩]
theorem rgD_of {n : Int} (h0 : 0 ≤ n) (h : n ≤ 16000000) : rgD (.int n) = some (rangeL 0 n) := by
  show (if 0 ≤ n ∧ n ≤ 16000000 then some (rangeL 0 n) else none) = _
  rw [if_pos ⟨h0, h⟩]
theorem rangeL_nat (n : Nat) : rangeL 0 (n : Int) = (List.range n).map fun (j : Nat) => D.int (j : Int) := by
  unfold rangeL
  simp
@[simp] theorem seqOf_l {ds : List D} : seqOf (.lst ds) = some ds := rfl
@[simp] theorem seqOf_t {ds : List D} : seqOf (.tup ds) = some ds := rfl
/-- the script's row: its items, the place, the seed, the rest -/
def rowD (ns : List Int) (i s r : Int) : List D := [.lst (ns.map D.int), .int i, .int s, .int r]
end MP
/-! plain lemmas for any law: sets of texts, truth lists, equality of data -/
namespace MP
open PySem L2
theorem keysD_strs : ∀ hs : List Str, keysD (hs.map D.str) = some (hs.map Sum.inr)
  | [] => rfl
  | h :: hs => by
    have : keysD ((h :: hs).map D.str) = (keysD (hs.map D.str)).map (Sum.inr h :: ·) := rfl
    rw [this, keysD_strs hs]; rfl
theorem boolsOf_bl : ∀ bs : List Bool, boolsOf (bs.map D.bl) = some bs
  | [] => rfl
  | b :: bs => by
    have : boolsOf ((b :: bs).map D.bl) = (boolsOf (bs.map D.bl)).map (b :: ·) := rfl
    rw [this, boolsOf_bl bs]; rfl
theorem allD_bl (bs : List Bool) : allD [.lst (bs.map D.bl)] = some (.bl (bs.all id)) := by
  show (boolsOf (bs.map D.bl)).map _ = _
  rw [boolsOf_bl]; rfl
/-! equality -/
theorem eqv_nil (ds : List D) : PyData.eqv (D.lst ds).py (D.lst []).py = ds.isEmpty := by
  rw [D.py, D.py, pys]
  cases ds with
  | nil => simp [pys, PyData.eqv, PyData.eqvAll]
  | cons d ds => simp [pys, PyData.eqv, PyData.eqvAll]
theorem eqD_nil {ds : List D} (h : okD (.lst ds) = true) : eqD (.lst ds) (.lst []) = some (.bl ds.isEmpty) := by
  have : okD (.lst []) = true := rfl
  unfold eqD
  rw [h, this, eqv_nil]; rfl
end MP
/-! plain lemmas for any law: cards, lookups, equality, comprehensions -/
namespace MP
open PySem L2
theorem lc_map {α : Type} {b : Bd} {c : M Bool} {g : M D} {vs : List Nat} {ρ : Env} (enc : α → D) (p : α → Bool) (f : α → D) : ∀ {L : List α} (_ : ∀ a ∈ L, ∃ ρ1, b (enc a) ρ = some ρ1 ∧ c ρ1 = .ok (p a) ρ1 ∧ (p a = true → g ρ1 = .ok (f a) ρ1) ∧ restore vs ρ ρ1 = ρ) (acc : List D), lcL b c g vs (L.map enc) ρ acc = .ok (acc ++ (L.filter p).map f) ρ
  | [], _, acc => by simp [lcL]
  | d :: ds, h, acc => by
    obtain ⟨ρ1, h1, h2, h3, h4⟩ := h d (by simp)
    have ih := lc_map (b := b) (c := c) (g := g) (vs := vs) (ρ := ρ) enc p f (L := ds) fun x hx => h x (by simp [hx])
    rw [List.map_cons]
    unfold lcL
    rw [h1]
    simp only
    rw [h2]
    cases hp : p d with
    | true =>
      simp only
      rw [h3 hp]
      simp only
      rw [h4, ih, List.filter_cons_of_pos hp]
      simp
    | false =>
      simp only
      rw [h4, ih, List.filter_cons_of_neg (by simp [hp])]
/-- all of them, from nothing on -/
theorem lc_mapA {α : Type} {b : Bd} {g : M D} {vs : List Nat} {ρ : Env} (enc f : α → D) {L : List α} (h : ∀ a ∈ L, ∃ ρ1, b (enc a) ρ = some ρ1 ∧ g ρ1 = .ok (f a) ρ1 ∧ restore vs ρ ρ1 = ρ) : lcL b yesM g vs (L.map enc) ρ [] = .ok (L.map f) ρ := by
  have := lc_map (b := b) (c := yesM) (g := g) (vs := vs) (ρ := ρ) enc (fun _ => true) f (L := L) (fun a ha => let ⟨r, h1, h2, h3⟩ := h a ha; ⟨r, h1, rfl, fun _ => h2, h3⟩) []
  rw [List.filter_eq_self.mpr fun _ _ => rfl, List.nil_append] at this
  exact this
theorem lc_mapF {α : Type} {b : Bd} {c : M Bool} {g : M D} {vs : List Nat} {ρ : Env} (enc : α → D) (p : α → Bool) (f : α → D) {L : List α} (h : ∀ a ∈ L, ∃ ρ1, b (enc a) ρ = some ρ1 ∧ c ρ1 = .ok (p a) ρ1 ∧ (p a = true → g ρ1 = .ok (f a) ρ1) ∧ restore vs ρ ρ1 = ρ) : lcL b c g vs (L.map enc) ρ [] = .ok ((L.filter p).map f) ρ := by
  have := lc_map enc p f h []
  rw [List.nil_append] at this
  exact this
theorem cut_to (ds : List D) (n : Nat) : cutD ds none (some (n : Int)) = ds.take n := by
  unfold cutD
  rw [HT.sIx_none, HT.sIx_nat, List.drop_zero, Nat.sub_zero]
  by_cases h : n ≤ ds.length
  · rw [Nat.min_eq_left h]
  · rw [Nat.min_eq_right (by omega), List.take_length, List.take_of_length_le (by omega)]
theorem cut_from (ds : List D) (n : Nat) : cutD ds (some (n : Int)) none = ds.drop n := by
  unfold cutD
  rw [HT.sIx_none, HT.sIx_nat]
  by_cases h : n ≤ ds.length
  · rw [Nat.min_eq_left h, List.take_of_length_le (by simp)]
  · rw [Nat.min_eq_right (by omega), List.drop_of_length_le (by omega), List.drop_of_length_le (i := n) (by omega)]; simp
theorem cut_mid (ds : List D) (a b : Nat) (ha : a ≤ ds.length) (hb : b ≤ ds.length) : cutD ds (some (a : Int)) (some (b : Int)) = (ds.drop a).take (b - a) := by
  unfold cutD
  rw [HT.sIx_nat, HT.sIx_nat, Nat.min_eq_left ha, Nat.min_eq_left hb]
theorem eqv_str (a b : Str) : PyData.eqv (.str a) (.str b) = decide (a = b) := by
  have : PyData.eqv (.str a) (.str b) = (a == b) := by simp [PyData.eqv]
  rw [this]
  by_cases h : a = b
  · rw [beq_iff_eq.mpr h, decide_eq_true h]
  · rw [beq_eq_false_iff_ne.mpr h, decide_eq_false h]
theorem eqD_ss (a b : Str) : eqD (.str a) (.str b) = some (.bl (decide (a = b))) := by
  have h1 : okD (.str a) = true := rfl
  have h2 : okD (.str b) = true := rfl
  unfold eqD
  rw [h1, h2]
  simp [D.py, eqv_str]
theorem neD_ss (a b : Str) : neD (.str a) (.str b) = some (.bl (!decide (a = b))) := by
  have h1 : okD (.str a) = true := rfl
  have h2 : okD (.str b) = true := rfl
  unfold neD
  rw [h1, h2]
  simp [D.py, eqv_str]
theorem eqv_int (a b : Int) : PyData.eqv (.int a) (.int b) = decide (a = b) := by
  have : PyData.eqv (.int a) (.int b) = (a == b) := by simp [PyData.eqv]
  rw [this]
  by_cases h : a = b
  · rw [beq_iff_eq.mpr h, decide_eq_true h]
  · rw [beq_eq_false_iff_ne.mpr h, decide_eq_false h]
theorem neD_ii (a b : Int) : neD (.int a) (.int b) = some (.bl (!decide (a = b))) := by
  have h1 : okD (.int a) = true := rfl
  have h2 : okD (.int b) = true := rfl
  unfold neD
  rw [h1, h2]
  simp [D.py, eqv_int]
theorem eqD_ii (a b : Int) : eqD (.int a) (.int b) = some (.bl (decide (a = b))) := by
  have h1 : okD (.int a) = true := rfl
  have h2 : okD (.int b) = true := rfl
  unfold eqD
  rw [h1, h2]
  simp [D.py, eqv_int]
/-! equality with itself -/
mutual
theorem eqv_rf : ∀ d : D, d.plain = true → PyData.eqv d.py d.py = true
  | .non, _ => by simp [D.py, PyData.eqv]
  | .bl b, _ => by simp [D.py, PyData.eqv]
  | .int i, _ => by rw [D.py, eqv_int]; simp
  | .str s, _ => by rw [D.py, eqv_str]; simp
  | .tup ds, h => by rw [D.py, PyData.eqv]; exact eqvs_rf ds (by simpa [D.plain] using h)
  | .lst ds, h => by rw [D.py, PyData.eqv]; exact eqvs_rf ds (by simpa [D.plain] using h)
  | .dct _, h => by simp [D.plain] at h
  | .ins _ _, h => by simp [D.plain] at h
theorem eqvs_rf : ∀ ds : List D, plains ds = true → PyData.eqvAll (pys ds) (pys ds) = true
  | [], _ => by simp [pys, PyData.eqvAll]
  | d :: ds, h => by
    rw [plains, Bool.and_eq_true] at h
    rw [pys, PyData.eqvAll, eqv_rf d h.1, eqvs_rf ds h.2]; rfl
end
theorem neD_self {d : D} (h : okD d = true) : neD d d = some (.bl false) := by
  have hp : d.plain = true := by unfold okD at h; rw [Bool.and_eq_true] at h; exact h.1
  unfold neD
  rw [h, eqv_rf d hp]; rfl
/-! what is plain and flat enough: fl k d: depth at most k -/
mutual
def flt : Nat → D → Bool
  | _, .non | _, .bl _ | _, .int _ | _, .str _ => true
  | k + 1, .tup ds => flts k ds
  | k + 1, .lst ds => flts k ds
  | _, _ => false
def flts : Nat → List D → Bool
  | _, [] => true
  | k, d :: ds => flt k d && flts k ds
end
mutual
theorem flt_ok : ∀ (k : Nat) (d : D), flt k d = true → d.plain = true ∧ d.py.depth ≤ k
  | _, .non, _ => by simp [D.plain, D.py, PyData.depth]
  | _, .bl _, _ => by simp [D.plain, D.py, PyData.depth]
  | _, .int _, _ => by simp [D.plain, D.py, PyData.depth]
  | _, .str _, _ => by simp [D.plain, D.py, PyData.depth]
  | 0, .tup _, h => by simp [flt] at h
  | 0, .lst _, h => by simp [flt] at h
  | k + 1, .tup ds, h => by
    rw [flt] at h
    obtain ⟨a, b⟩ := flts_ok k ds h
    rw [D.plain, D.py, PyData.depth]
    exact ⟨a, by omega⟩
  | k + 1, .lst ds, h => by
    rw [flt] at h
    obtain ⟨a, b⟩ := flts_ok k ds h
    rw [D.plain, D.py, PyData.depth]
    exact ⟨a, by omega⟩
  | _, .dct _, h => by simp [flt] at h
  | _, .ins _ _, h => by simp [flt] at h
theorem flts_ok : ∀ (k : Nat) (ds : List D), flts k ds = true → plains ds = true ∧ PyData.depthAll (pys ds) ≤ k
  | _, [], _ => by simp [plains, pys, PyData.depthAll]
  | k, d :: ds, h => by
    rw [flts, Bool.and_eq_true] at h
    obtain ⟨a, b⟩ := flt_ok k d h.1
    obtain ⟨c, e⟩ := flts_ok k ds h.2
    rw [plains, pys, PyData.depthAll, a, c]
    exact ⟨rfl, by omega⟩
end
theorem okD_flt {k : Nat} {d : D} (hk : k ≤ 64) (h : flt k d = true) : okD d = true := by
  obtain ⟨a, b⟩ := flt_ok k d h
  unfold okD
  rw [a]
  simp
  omega
theorem flts_map {α : Type} {k : Nat} {f : α → D} : ∀ {l : List α}, (∀ a ∈ l, flt k (f a) = true) → flts k (l.map f) = true
  | [], _ => by simp [flts]
  | a :: l, h => by rw [List.map_cons, flts, h a (by simp), flts_map fun b hb => h b (by simp [hb])]; rfl
theorem flt_mapT {α : Type} {k : Nat} {f : α → D} {l : List α} (h : ∀ a ∈ l, flt k (f a) = true) : flt (k + 1) (.tup (l.map f)) = true := by rw [flt]; exact flts_map h
@[simp] theorem flt_non {k : Nat} : flt k .non = true := by cases k <;> rfl
@[simp] theorem flt_bl {k : Nat} {b : Bool} : flt k (.bl b) = true := by cases k <;> rfl
@[simp] theorem flt_int {k : Nat} {i : Int} : flt k (.int i) = true := by cases k <;> rfl
@[simp] theorem flt_str {k : Nat} {s : Str} : flt k (.str s) = true := by cases k <;> rfl
/-! ### numbers -/
abbrev inat (n : Nat) : D := .int (n : Int)
def encO : Option Nat → D
  | none => .non
  | some n => .int n
def encL (l : List Nat) : List D := l.map fun (n : Nat) => D.int (n : Int)
def encR (r : Option Nat × List Nat) : D := .tup [encO r.1, .tup (encL r.2)]
@[simp] theorem encL_len (l : List Nat) : (encL l).length = l.length := by simp [encL]
theorem encL_snoc (l : List Nat) (n : Nat) : encL l ++ [.int (n : Int)] = encL (l ++ [n]) := by simp [encL]
theorem last_at (s : List Nat) (x : Nat) : atI (encL (s ++ [x])) (-1) = some (.int x) := by
  unfold atI ixN
  rw [if_neg (by omega)]
  have h1 : (1 : Int) ≤ (s.length : Int) + 1 := by omega
  have h2 : (-1 + ((s.length : Int) + 1)).toNat = s.length := by omega
  simp [encL, h1, h2]
theorem any_nat (k : Nat) : ∀ s : List Nat, ((encL s).any fun y => eqF y (.int k)) = decide (k ∈ s)
  | [] => rfl
  | x :: s => by
    have ih := any_nat k s
    unfold encL at *
    rw [List.map_cons, List.any_cons, ih]
    have : eqF (.int (x : Int)) (.int k) = decide (k = x) := by
      simp [eqF]
      by_cases h : k = x
      · subst h; simp
      · have : ¬ (x : Int) = k := by omega
        simp [h, this]
    rw [this]
    simp
theorem all_flat_nat (s : List Nat) : (encL s).all flatD = true := by
  rw [List.all_eq_true]
  intro d hd
  obtain ⟨x, _, rfl⟩ := List.mem_map.mp hd
  rfl
theorem in_natL (b : Bool) (k : Nat) (s : List Nat) : inD b (.int k) (.lst (encL s)) = some (.bl (xor b (decide (k ∈ s)))) := by
  show (if flatD (.int (k : Int)) && (encL s).all flatD then some (D.bl (xor b ((encL s).any fun y => eqF y (.int k)))) else none) = _
  rw [all_flat_nat, any_nat]; rfl
theorem rg_enc (i : Nat) (hi : i < 1000) : rgD (.int ((i : Int) + 1)) = some (encL (List.range (i + 1))) := by
  have e : ((i : Int) + 1) = ((i + 1 : Nat) : Int) := by omega
  rw [rgD_of (by omega) (by omega), e, rangeL_nat]
  rfl
theorem rg_enc' (i : Nat) (hi : i < 1000) : rgD (.int (i : Int)) = some (encL (List.range i)) := by
  rw [rgD_of (by omega) (by omega), rangeL_nat]
  rfl
theorem rng1_nat (n : Nat) (hn : n ≤ 16000000) : rng1 [.int (n : Int)] = some ((List.range n).map inat) := by
  rw [rng1_of (by omega) (by omega), rangeL_nat]
/-! ### cards -/
structure C where
  h : Str
  bs : List Int
  see : Str
  al : List Str
def sm (c : C) : D := .tup [.str c.h, .tup (c.bs.map D.int), .str c.see, .tup (c.al.map D.str)]
def cd (c : C) : D := .ins "Card" [sm c]
def dr (cs : List C) : D := .ins "Drawer" [.tup (cs.map cd)]
theorem cd_at (cs : List C) {i : Nat} (hi : i < cs.length) : atI (cs.map cd) (i : Int) = some (cd cs[i]) := by
  rw [atI_nat' (by simpa using hi)]; simp [hi]
/-! ### lookups -/
abbrev ltS (a b : Str) : Prop := a.cps.toList < b.cps.toList
/-- from the i-th card on -/
def scan (leaf : Bool) (h : Str) : List Str → Nat → Option Nat × List Nat
  | [], i => (none, List.range i)
  | x :: r, i => if x = h then (some i, List.range (i + 1)) else if leaf = true ∧ ltS h x then (none, List.range (i + 1)) else scan leaf h r (i + 1)
/-- by halves, from lo on, below hi -/
def half (hs : List Str) (h : Str) (lo hi : Nat) (met : List Nat) : Option Nat × List Nat :=
  if _hlt : lo < hi then
    if hs.getD ((lo + hi - 1) / 2) h = h then (some ((lo + hi - 1) / 2), met ++ [(lo + hi - 1) / 2])
    else if ltS h (hs.getD ((lo + hi - 1) / 2) h) then half hs h lo ((lo + hi - 1) / 2) (met ++ [(lo + hi - 1) / 2])
    else half hs h ((lo + hi - 1) / 2 + 1) hi (met ++ [(lo + hi - 1) / 2])
  else (none, met)
termination_by hi - lo
decreasing_by all_goals omega
def lk (rule : Str) (hs : List Str) (h : Str) : Option Nat × List Nat := if rule = "half" then half hs h 0 hs.length [] else scan (decide (rule = "leaf")) h hs 0
theorem scan_found {leaf : Bool} {h : Str} : ∀ {r : List Str} {i p : Nat}, (scan leaf h r i).1 = some p → i ≤ p ∧ r[p - i]? = some h
  | [], i, p, e => by simp [scan] at e
  | x :: r, i, p, e => by
    unfold scan at e
    split at e
    · next hx => simp at e; subst e; simp [hx]
    · split at e
      · simp at e
      · obtain ⟨a, b⟩ := scan_found (r := r) e
        refine ⟨by omega, ?_⟩
        rw [show p - i = (p - (i + 1)) + 1 by omega]
        simpa using b
theorem half_found {hs : List Str} {h : Str} : ∀ (n lo hi : Nat) (met : List Nat) (p : Nat), hi - lo ≤ n → hi ≤ hs.length → (half hs h lo hi met).1 = some p → hs[p]? = some h
  | 0, lo, hi, met, p, hn, _, e => by
    rw [half, dif_neg (by omega)] at e; simp at e
  | n + 1, lo, hi, met, p, hn, hl, e => by
    rw [half] at e
    by_cases hlt : lo < hi
    · rw [dif_pos hlt] at e
      split at e
      · next hx =>
        simp at e; subst e
        have : (lo + hi - 1) / 2 < hs.length := by omega
        rw [List.getD_eq_getElem?_getD, List.getElem?_eq_getElem this] at hx
        rw [List.getElem?_eq_getElem this]
        exact congrArg some hx
      · split at e
        · exact half_found n _ _ _ p (by omega) (by omega) e
        · exact half_found n _ _ _ p (by omega) hl e
    · rw [dif_neg hlt] at e; simp at e
theorem lk_found {rule : Str} {hs : List Str} {h : Str} {p : Nat} (e : (lk rule hs h).1 = some p) : hs[p]? = some h := by
  unfold lk at e
  split at e
  · exact half_found hs.length 0 hs.length [] p (by omega) (by omega) e
  · obtain ⟨_, b⟩ := scan_found e
    simpa using b
theorem lk_lt {rule : Str} {hs : List Str} {h : Str} {p : Nat} (e : (lk rule hs h).1 = some p) : p < hs.length := (List.getElem?_eq_some_iff.mp (lk_found e)).1
/-! ### sets -/
theorem foldl_addK : ∀ (ks l : List Key), (ks.reverse ++ l).Nodup → (ks.foldl addK l).length = ks.length + l.length
  | [], l, _ => by simp
  | k :: ks, l, h => by
    have h1 : k ∉ l := fun z => by
      rw [List.nodup_append] at h
      exact h.2.2 k (by simp) k z rfl
    have e : addK l k = k :: l ∨ addK l k = l ++ [k] := by
      unfold addK; rw [if_neg (by simpa using h1)]; first | exact .inl rfl | exact .inr rfl
    rw [List.foldl_cons]
    rcases e with e | e
    · rw [e, foldl_addK ks (k :: l) (by simpa using h)]; simp; omega
    · have p : (ks.reverse ++ (l ++ [k])).Perm (ks.reverse ++ [k] ++ l) := by
        rw [List.append_assoc]
        exact List.Perm.append_left _ List.perm_append_comm
      have h2 : (ks.reverse ++ [k] ++ l).Nodup := by simpa using h
      rw [e, foldl_addK ks (l ++ [k]) (p.nodup_iff.mpr h2)]; simp; omega
theorem lenSet_strs {l : List Str} (h : l.Nodup) (hl : l.length < 4000) : lenSetD (.tup (l.map D.str)) = some (.int l.length) := by
  unfold lenSetD itemsKO
  rw [items_t]
  simp only [Option.bind_some, keysD_strs]
  rw [if_pos (by simpa using hl)]
  simp only [Option.map_some]
  have : (uniqK (l.map (Sum.inr : Str → Key))).length = l.length := by
    unfold uniqK
    rw [foldl_addK _ _ (by
      rw [List.append_nil, (List.reverse_perm _).nodup_iff]
      rw [List.nodup_iff_pairwise_ne, List.pairwise_map]; exact h.imp fun {a b} n z => n (by cases z; rfl))]
    simp
  rw [this]
/-! ### sorted sets of texts -/
end MP
/-! the plain side: instances with a dict, lists that are read at once, parallel assignment -/
namespace MP
open PySem L2
section
variable {α β : Type} {ρ : Env} {g h i : M D} {gs hs : M (List D)} {d : D} {x y z : SM} {c c' : Str} {l : Env → Option (List D)} {p : Env → Option D}
@[simp] theorem fldO_ap {i j : Nat} : fldO c i j ρ = ofO (fldD c i (look ρ j)) ρ := rfl
@[simp] theorem fld_ins {i : Nat} {fs : List D} : fldD c i (.ins c fs) = fs[i]? := if_pos rfl
@[simp] theorem setF_ap {i j : Nat} : setF c i j g ρ = (g ρ).sb fun d ρ => match look ρ j with
  | .ins c' fs => if c' = c ∧ i ≤ fs.length then .nx (ρ.set j (.ins c' (putI i d fs))) else .bad
  | _ => .bad := rfl
@[simp] theorem setFL_ap {i j : Nat} : setFL c i j gs ρ = (gs ρ).sb fun ds ρ => match look ρ j with
  | .ins c' fs => if c' = c ∧ i ≤ fs.length then .nx (ρ.set j (.ins c' (putI i (.lst ds) fs))) else .bad
  | _ => .bad := rfl
@[simp] theorem putI_0 {α : Type} {d : α} : putI 0 d [] = [d] := rfl
@[simp] theorem putI_0c {α : Type} {d a : α} {l : List α} : putI 0 d (a :: l) = d :: l := rfl
@[simp] theorem putI_s {α : Type} {n : Nat} {d a : α} {l : List α} : putI (n + 1) d (a :: l) = a :: putI n d l := by
  unfold putI
  simp only [List.length_cons, Nat.add_lt_add_iff_right]
  split <;> simp
@[simp] theorem boxL_ap {i j : Nat} : boxL c i j ρ = lstO (fldD c i (look ρ j)) := rfl
@[simp] theorem slotL_ap {j : Nat} : slotL j ρ = lstO (some (look ρ j)) := rfl
@[simp] theorem lstO_l {rs : List D} : lstO (some (.lst rs)) = some rs := rfl
@[simp] theorem blO_b {b : Bool} : blO (some (.bl b)) = some (.bl b) := rfl
@[simp] theorem inOL_ap {b : Bool} : inOL b g l ρ = (g ρ).bnd fun x ρ => ofO (blO ((l ρ).bind fun rs => inD b x (.lst rs))) ρ := rfl
@[simp] theorem ixOL_ap : ixOL l p ρ = ofO ((l ρ).bind fun rs => (p ρ).bind fun i => ixD (.lst rs) i) ρ := rfl
@[simp] theorem lenOL_ap : lenOL l ρ = ofO ((l ρ).map fun rs => .int rs.length) ρ := rfl
@[simp] theorem starOL_ap : starOL l gs ρ = (ofO (l ρ) ρ).bnd fun as => bnd gs fun xs => ret (as ++ xs) := rfl
@[simp] theorem nilOL_ap {b : Bool} : nilOL b l ρ = ofO ((l ρ).bind fun rs => if okD (.lst rs) then some (.bl (xor b rs.isEmpty)) else none) ρ := rfl
@[simp] theorem setBox_ap {i j : Nat} : setBox i j d ρ = (match look ρ j with
  | .ins c fs => ρ.set j (.ins c (fs.set i d))
  | _ => ρ) := rfl
@[simp] theorem appF_ap {i j : Nat} : appF c i j p ρ = (match boxL c i j ρ with
  | some rs => (match p ρ with
    | some d => if rs.length < 16000000 then .nx (setBox i j (.lst (rs ++ [d])) ρ) else .bad
    | none => .bad)
  | none => .bad) := rfl
@[simp] theorem popF_ap {i j : Nat} {z : Int} : popF c i j z ρ = (match boxL c i j ρ with
  | some rs => (match seqIndex? z rs.length with
    | some m => (match rs[m]? with
      | some y => .ok y (setBox i j (.lst (rs.eraseIdx m)) ρ)
      | none => .bad)
    | none => .bad)
  | none => .bad) := rfl
@[simp] theorem augF_ap {i j : Nat} : augF c i j g ρ = (fldO c i j ρ).sb fun x => sbd g fun y ρ => match x, y with
  | .int p, .int q => (match look ρ j with
    | .ins c' fs => if c' = c ∧ i ≤ fs.length then .nx (ρ.set j (.ins c' (putI i (.int (p + q)) fs))) else .bad
    | _ => .bad)
  | _, _ => .bad := rfl
@[simp] theorem ofC_ap {j : Nat} : ofC c j ρ = (match look ρ j with
  | .ins c' _ => if c' = c then .ok () ρ else .bad
  | _ => .bad) := rfl
def callM1 (fl : Bool) (ff : FMf) (j : Nat) (ds : List D) : M D := fun ρ => match ff (look ρ j) ds with
  | some (d, d1) => if (!fl || fullB d1) = true then .ok d (ρ.set j d1) else .bad
  | none => .bad
@[simp] theorem callM_ap {fl : Bool} {ff : FMf} {j : Nat} : callM c fl ff j gs ρ = (ofC c j ρ).bnd fun _ => bnd gs (callM1 fl ff j) := rfl
theorem callM1_of {fl : Bool} {ff : FMf} {j : Nat} {ds : List D} {d1 : D} (h : ff (look ρ j) ds = some (d, d1)) (hf : (!fl || fullB d1) = true) : callM1 fl ff j ds ρ = .ok d (ρ.set j d1) := by
  unfold callM1; rw [h]; simp only; rw [if_pos hf]
@[simp] theorem onIns_ins {ff : FMf} {fs ds : List D} : onIns ff (.ins c fs) ds = ff (.ins c fs) ds := rfl
@[simp] theorem endM_nx : endM (.nx ρ) = some (.non, look ρ 0) := rfl
@[simp] theorem endM_rt : endM (.rt d ρ) = some (d, look ρ 0) := rfl
@[simp] theorem parS_ap {is : List Nat} : parS is gs ρ = (gs ρ).sb fun ds ρ => .nx (setAll ρ is ds) := rfl
@[simp] theorem setAll_nil {α : Type} {l : List α} {xs : List α} : setAll l [] xs = l := by cases xs <;> rfl
@[simp] theorem setAll_cons {α : Type} {l : List α} {i : Nat} {is : List Nat} {a : α} {xs : List α} : setAll l (i :: is) (a :: xs) = setAll (l.set i a) is xs := rfl
def ext2 (j : Nat) (d : D) (ρ : Env) : SRes := match itemsOf d, look ρ j with
  | some ds, .lst rs => if rs.length + ds.length < 16000000 then .nx (ρ.set j (.lst (rs ++ ds))) else .bad
  | _, _ => .bad
@[simp] theorem extV_ap {j : Nat} : extV j g ρ = (g ρ).sb (ext2 j) := rfl
end
/-! texts in lists -/
/-! ### walks -/
def see (cs : List C) (p : Nat) : Str := ((cs[p]?).map C.see).getD ""
/-- how it ends, the places, the headings, the looks -/
structure Wr where
  w : Str
  st : List Nat
  so : List Str
  ef : Nat
def wk (rule : Str) (cs : List C) : Nat → Str → List Str → List Nat → Nat → Option Wr
  | 0, _, _, _, _ => none
  | n + 1, h, so, st, ef => if h ∈ so then some ⟨"ring", st, so, ef⟩ else
    match (lk rule (cs.map C.h) h).1 with
    | none => some ⟨"lost", st, so ++ [h], ef + (lk rule (cs.map C.h) h).2.length⟩
    | some p => if see cs p = "" then some ⟨"entry", st ++ [p], so ++ [h], ef + (lk rule (cs.map C.h) h).2.length⟩
      else wk rule cs n (see cs p) (so ++ [h]) (st ++ [p]) (ef + (lk rule (cs.map C.h) h).2.length)
theorem nd_len : ∀ (a b : List Str), a.Nodup → (∀ x ∈ a, x ∈ b) → a.length ≤ b.length
  | [], b, _, _ => by simp
  | x :: a, b, nd, h => by
    obtain ⟨n1, n2⟩ := List.nodup_cons.mp nd
    have hx : x ∈ b := h x (by simp)
    have := nd_len a (b.erase x) n2 fun y hy => (List.mem_erase_of_ne (fun (e : y = x) => n1 (by rw [← e]; exact hy))).mpr (h y (by simp [hy]))
    rw [List.length_erase_of_mem hx] at this
    have : 0 < b.length := List.length_pos_of_mem hx
    simp only [List.length_cons]
    omega
theorem see_mem {cs : List C} {p : Nat} (h : see cs p ≠ "") : see cs p ∈ cs.map C.see := by
  unfold see at h ⊢
  cases e : cs[p]? with
  | none => rw [e] at h; exact (h rfl).elim
  | some c => exact List.mem_map.mpr ⟨c, List.mem_of_getElem? e, rfl⟩
theorem wk_some {rule : Str} {cs : List C} {U : List Str} (hU : ∀ x ∈ cs.map C.see, x ∈ U) : ∀ (n : Nat) (h : Str) (so : List Str) (st : List Nat) (ef : Nat), so.Nodup → (∀ x ∈ so, x ∈ U) → h ∈ U → U.length < n + so.length → ∃ r, wk rule cs n h so st ef = some r
  | 0, h, so, st, ef, nd, hs, _, hl => by
    have := nd_len so U nd hs
    omega
  | n + 1, h, so, st, ef, nd, hs, hh, hl => by
    unfold wk
    by_cases hm : h ∈ so
    · rw [if_pos hm]; exact ⟨_, rfl⟩
    · rw [if_neg hm]
      cases e : (lk rule (cs.map C.h) h).1 with
      | none => exact ⟨_, rfl⟩
      | some p =>
        dsimp only
        by_cases es : see cs p = ""
        · rw [if_pos es]; exact ⟨_, rfl⟩
        · rw [if_neg es]
          refine wk_some hU n _ _ _ _ ?_ ?_ (hU _ (see_mem es)) (by simp; omega)
          · rw [List.nodup_append]
            exact ⟨nd, by simp, fun a ha b hb e => hm (by simp at hb; rw [← hb, ← e]; exact ha)⟩
          · intro x hx
            rcases List.mem_append.mp hx with hx | hx
            · exact hs x hx
            · simp at hx; rw [hx]; exact hh
/-- the walk from a heading -/
def wl (rule : Str) (cs : List C) (h : Str) : Wr := (wk rule cs (cs.length + 2) h [] [] 0).getD ⟨"", [], [], 0⟩
theorem wl_eq (rule : Str) (cs : List C) (h : Str) : wk rule cs (cs.length + 2) h [] [] 0 = some (wl rule cs h) := by
  obtain ⟨r, e⟩ := wk_some (rule := rule) (cs := cs) (U := h :: cs.map C.see) (fun x hx => by simp only [List.mem_cons]; exact .inr hx) (cs.length + 2) h [] [] 0 (by simp) (by simp) (by simp) (by simp)
  unfold wl
  rw [e]; rfl
/-- (how it ends, the place of the entry card) -/
def ld (r : Wr) : Str × Option Nat := (r.w, if r.w = "entry" then r.st.getLast? else none)
end MP
/-! the plain side: dicts -/
namespace MP
open PySem L2
section
variable {ρ : Env} {g h i : M D} {gs : M (List D)} {d : D}
@[simp] theorem lockM_ap : lockM g ρ = (g ρ).bnd fun d => ofO (lkD d) := rfl
@[simp] theorem lkD_k {ks : List Key} {ds : List D} : lkD (.dk false ks ds) = some (.dk true ks ds) := rfl
@[simp] theorem lockS_ap {j : Nat} : lockS j ρ = (match lkD (look ρ j) with
  | some d => .nx (ρ.set j d)
  | none => .bad) := rfl
@[simp] theorem dictM_ap : dictM g ρ = (g ρ).bnd fun d => ofO (dictO d) := rfl
@[simp] theorem listK_ap : listK g ρ = (g ρ).bnd fun d => ofO (dkKeys d) := rfl
@[simp] theorem sortKM_ap : sortKM g ρ = (g ρ).bnd fun d => ofO (sortK d) := rfl
@[simp] theorem itKeys_ap : itKeys g ρ = (g ρ).bnd fun d => ofO (keysOf d) := rfl
@[simp] theorem itVals_ap : itVals g ρ = (g ρ).bnd fun d => ofO (valsOf d) := rfl
@[simp] theorem itItems_ap : itItems g ρ = (g ρ).bnd fun d => ofO (itemsD d) := rfl
@[simp] theorem dkKeys_k {lk : Bool} {ks : List Key} {ds : List D} : dkKeys (.dk lk ks ds) = some (ks.map keyD) := rfl
@[simp] theorem keysOf_k {ks : List Key} {ds : List D} : keysOf (.dk true ks ds) = some (ks.map keyD) := rfl
@[simp] theorem itemsD_k {ks : List Key} {ds : List D} : itemsD (.dk true ks ds) = some ((ks.zip ds).map fun p => .tup [keyD p.1, p.2]) := rfl
@[simp] theorem dcD_ap {b : Bd} {it : M (List D)} {c : M Bool} {gk gv : M D} {vs : List Nat} : dcD b it c gk gv vs ρ = (it ρ).bnd fun ds => bnd (fun ρ => dcL b c gk gv vs ds ρ [] []) fun p => ret (.dk false p.1 p.2) := rfl
@[simp] theorem inKS_ap {neg : Bool} {j : Nat} : inKS neg j g ρ = (g ρ).bnd fun x ρ => ofO (inK neg x (look ρ j)) ρ := rfl
@[simp] theorem getKS_ap {j : Nat} : getKS j g ρ = (g ρ).bnd fun x ρ => ofO (getK (look ρ j) x) ρ := rfl
@[simp] theorem get2S_ap {j : Nat} : get2S j g h ρ = (g ρ).bnd fun x => bnd h fun y ρ => ofO (get2K (look ρ j) x y) ρ := rfl
@[simp] theorem lenKS_ap {j : Nat} : lenKS j ρ = ofO (lenK [look ρ j]) ρ := rfl
@[simp] theorem putDS_ap {j : Nat} : putDS j g h ρ = (h ρ).sb fun d => sbd g fun x ρ => match keyK x, look ρ j with
  | some k, .dk false ks ds => if ds.length < 16000000 then .nx (ρ.set j (.dk false (putKs ks k) (putXs ks ds k d))) else .bad
  | _, _ => .bad := rfl
@[simp] theorem keyK_s {s : Str} : keyK (.str s) = some (.inr s) := rfl
@[simp] theorem keyK_i {s : Int} : keyK (.int s) = some (.inl s) := rfl
end
abbrev kS : Str → Key := Sum.inr
end MP
/-! lookups in filed rows of headings -/
namespace MP
open PySem L2
end MP
/-! equality of plain data without truth values: it is that of the data -/
namespace MP
open PySem L2
mutual
def pur : D → Bool
  | .non | .int _ | .str _ => true
  | .tup ds | .lst ds => purs ds
  | _ => false
def purs : List D → Bool
  | [] => true
  | d :: ds => pur d && purs ds
end
mutual
theorem eqv_pur : ∀ a b : D, pur a = true → pur b = true → (PyData.eqv a.py b.py = true ↔ a = b)
  | .non, b, _, hb => by cases b <;> simp_all [D.py, PyData.eqv, pur]
  | .int i, b, _, hb => by
    cases b with
    | int j => rw [D.py, D.py, eqv_int]; simp
    | _ => simp_all [D.py, PyData.eqv, pur]
  | .str i, b, _, hb => by
    cases b with
    | str j => rw [D.py, D.py, eqv_str]; simp
    | _ => simp_all [D.py, PyData.eqv, pur]
  | .tup ds, b, ha, hb => by
    cases b with
    | tup es =>
      rw [pur] at ha hb
      rw [D.py, D.py, PyData.eqv, eqvs_pur ds es ha hb]; simp
    | _ => simp_all [D.py, PyData.eqv, pur]
  | .lst ds, b, ha, hb => by
    cases b with
    | lst es =>
      rw [pur] at ha hb
      rw [D.py, D.py, PyData.eqv, eqvs_pur ds es ha hb]; simp
    | _ => simp_all [D.py, PyData.eqv, pur]
  | .bl _, _, ha, _ => by simp [pur] at ha
  | .dct _, _, ha, _ => by simp [pur] at ha
  | .ins _ _, _, ha, _ => by simp [pur] at ha
  | .dk _ _ _, _, ha, _ => by simp [pur] at ha
  | .dt _ _ _, _, ha, _ => by simp [pur] at ha
theorem eqvs_pur : ∀ a b : List D, purs a = true → purs b = true → (PyData.eqvAll (pys a) (pys b) = true ↔ a = b)
  | [], [], _, _ => by simp [pys, PyData.eqvAll]
  | [], _ :: _, _, _ => by simp [pys, PyData.eqvAll]
  | _ :: _, [], _, _ => by simp [pys, PyData.eqvAll]
  | x :: a, y :: b, ha, hb => by
    rw [purs, Bool.and_eq_true] at ha hb
    rw [pys, pys, PyData.eqvAll, Bool.and_eq_true, eqv_pur x y ha.1 hb.1, eqvs_pur a b ha.2 hb.2]; simp
end
noncomputable instance decD : DecidableEq D := fun _ _ => Classical.propDecidable _
theorem eqv_dec {a b : D} (ha : pur a = true) (hb : pur b = true) : PyData.eqv a.py b.py = decide (a = b) := by
  have := eqv_pur a b ha hb
  by_cases e : a = b
  · rw [decide_eq_true e]; exact this.mpr e
  · rw [decide_eq_false e]
    cases q : PyData.eqv a.py b.py with
    | true => exact (e (this.mp q)).elim
    | false => rfl
theorem eqD_pur {a b : D} (oa : okD a = true) (ob : okD b = true) (ha : pur a = true) (hb : pur b = true) : eqD a b = some (.bl (decide (a = b))) := by
  unfold eqD; rw [oa, ob, eqv_dec ha hb]; rfl
theorem neD_pur {a b : D} (oa : okD a = true) (ob : okD b = true) (ha : pur a = true) (hb : pur b = true) : neD a b = some (.bl (!decide (a = b))) := by
  unfold neD; rw [oa, ob, eqv_dec ha hb]; rfl
theorem purs_all : ∀ ds : List D, (∀ d ∈ ds, pur d = true) → purs ds = true
  | [], _ => rfl
  | d :: ds, h => by rw [purs, h d (by simp), purs_all ds fun x hx => h x (by simp [hx])]; rfl
theorem purs_map {α : Type} (f : α → D) (l : List α) (h : ∀ a ∈ l, pur (f a) = true) : purs (l.map f) = true := purs_all _ fun d hd => by
  obtain ⟨a, ha, rfl⟩ := List.mem_map.mp hd
  exact h a ha
@[simp] theorem purs_strs (l : List Str) : purs (l.map D.str) = true := purs_map _ _ fun _ _ => rfl
@[simp] theorem purs_ints (l : List Int) : purs (l.map D.int) = true := purs_map _ _ fun _ _ => rfl
@[simp] theorem purs_encL (l : List Nat) : purs (encL l) = true := purs_map _ _ fun _ _ => rfl
theorem flts_all {k : Nat} : ∀ ds : List D, (∀ d ∈ ds, flt k d = true) → flts k ds = true
  | [], _ => by cases k <;> rfl
  | d :: ds, h => by rw [flts, h d (by simp), flts_all ds fun x hx => h x (by simp [hx])]; rfl
@[simp] theorem flts_strs (k : Nat) (l : List Str) : flts k (l.map D.str) = true := flts_all _ fun d hd => by
  obtain ⟨a, _, rfl⟩ := List.mem_map.mp hd
  cases k <;> rfl
@[simp] theorem flts_ints (k : Nat) (l : List Int) : flts k (l.map D.int) = true := flts_all _ fun d hd => by
  obtain ⟨a, _, rfl⟩ := List.mem_map.mp hd
  cases k <;> rfl
theorem flts_nats (k : Nat) (l : List Nat) : flts k (encL l) = true := flts_all _ fun d hd => by
  obtain ⟨a, _, rfl⟩ := List.mem_map.mp hd
  cases k <;> rfl
end MP
/-! the plain side: dicts in fields, displays -/
namespace MP
open PySem L2
section
variable {c : Str} {ρ : Env} {g h : M D} {d : D} {pk pv : Env → Option D} {r : M (List (D × D))}
@[simp] theorem boxD_ap {i j : Nat} : boxD c i j ρ = fldD c i (look ρ j) := rfl
@[simp] theorem lenFD_ap {i j : Nat} : lenFD c i j ρ = (fldD c i (look ρ j)).bind fun d => lenK [d] := rfl
@[simp] theorem inFD_ap {b : Bool} {i j : Nat} : inFD b c i j g ρ = (g ρ).bnd fun x ρ => ofO ((fldD c i (look ρ j)).bind fun d => inK b x d) ρ := rfl
@[simp] theorem setFM_ap {i j : Nat} : setFM c i j g ρ = (g ρ).sb fun d ρ => match look ρ j with
  | .ins c' fs => if c' = c ∧ i ≤ fs.length then .nx (ρ.set j (.ins c' (putI i d fs))) else .bad
  | _ => .bad := rfl
@[simp] theorem putFD_ap {i j : Nat} : putFD c i j pk pv ρ = (match fldD c i (look ρ j), pk ρ, pv ρ with
  | some (.dk false ks ds), some x, some d => (match keyK x with
    | some k => if ds.length < 16000000 then .nx (setBox i j (.dk false (putKs ks k) (putXs ks ds k d)) ρ) else .bad
    | none => .bad)
  | _, _, _ => .bad) := rfl
@[simp] theorem setdFD_ap {i j : Nat} : setdFD c i j pk pv ρ = (match fldD c i (look ρ j), pk ρ, pv ρ with
  | some (.dk false ks ds), some x, some d => (match keyK x with
    | some k => if ds.length < 16000000 then (if k ∈ ks then .nx ρ else .nx (setBox i j (.dk false (putKs ks k) (putXs ks ds k d)) ρ)) else .bad
    | none => .bad)
  | _, _, _ => .bad) := rfl
@[simp] theorem nilP_ap : nilP ρ = .ok [] ρ := rfl
@[simp] theorem consP_ap : consP g h r ρ = (g ρ).bnd fun x => bnd h fun y => bnd r fun ps => ret ((x, y) :: ps) := rfl
@[simp] theorem dispM_ap : dispM r ρ = (r ρ).bnd fun ds => ofO (dispO ds) := rfl
@[simp] theorem lenK_k {lk : Bool} {ks : List Key} {ds : List D} : lenK [.dk lk ks ds] = some (.int ks.length) := rfl
end
@[simp] theorem isDk_k {lk : Bool} {ks : List Key} {ds : List D} : get2M.isDk (.dk lk ks ds) = some (.dk lk ks ds) := rfl
@[simp] theorem get2M_ap {g h i : M D} {ρ : Env} : get2M g h i ρ = (g ρ).bnd fun d => bnd (ofO (get2M.isDk d)) fun d => bnd h fun x => bnd i fun y => ofO (get2K d x y) := rfl
/-! a gathering -/
structure Gt where
  ag : List Str
  wk : List Str
  vi : List Nat
  gk : List Int
  gv : List Nat
def putG (n : Nat) (g : List Int × List Nat) (b : Int) : List Int × List Nat := if b ∈ g.1 then g else (g.1 ++ [b], g.2 ++ [n])
def putsG (n : Nat) (bs : List Int) (g : List Int × List Nat) : List Int × List Nat := bs.foldl (putG n) g
def alsoAt (cs : List C) (p : Nat) : List Str := match cs[p]? with
  | some c => c.al
  | none => []
def booksAt (cs : List C) (p : Nat) : List Int := match cs[p]? with
  | some c => c.bs
  | none => []
def nextAg (way : Str) (ag al : List Str) : List Str := if way = "broad" then ag ++ al else if way = "deep" then al ++ ag else al
def visitG (cs : List C) (way : Str) (g : Gt) (p : Nat) : Gt :=
  ⟨nextAg way g.ag (alsoAt cs p), g.wk, g.vi ++ [p], (putsG g.wk.length (booksAt cs p) (g.gk, g.gv)).1, (putsG g.wk.length (booksAt cs p) (g.gk, g.gv)).2⟩
def stepG (rule : Str) (cs : List C) (way : Str) (g : Gt) : Gt := match g.ag with
  | [] => g
  | h :: r => if h ∈ g.wk then { g with ag := r } else
    match (ld (wl rule cs h)).2 with
    | some p => if p ∈ g.vi then { g with ag := r, wk := g.wk ++ [h] } else visitG cs way { g with ag := r, wk := g.wk ++ [h] } p
    | none => { g with ag := r, wk := g.wk ++ [h] }
def gatN (rule : Str) (cs : List C) (way : Str) (pat : Nat) : Nat → Gt → Option Gt
  | 0, _ => none
  | n + 1, g => if g.ag = [] ∨ pat ≤ g.wk.length then some g else gatN rule cs way pat n (stepG rule cs way g)
theorem putG_len {n : Nat} {g : List Int × List Nat} {b : Int} (h : g.1.length = g.2.length) : (putG n g b).1.length = (putG n g b).2.length := by
  unfold putG; split
  · exact h
  · simp [h]
theorem putsG_len {n : Nat} : ∀ {bs : List Int} {g : List Int × List Nat}, g.1.length = g.2.length → (putsG n bs g).1.length = (putsG n bs g).2.length
  | [], _, h => h
  | b :: bs, g, h => putsG_len (bs := bs) (g := putG n g b) (putG_len h)
theorem putG_mem {n : Nat} {g : List Int × List Nat} {b x : Int} : x ∈ (putG n g b).1 ↔ x ∈ g.1 ∨ x = b := by
  unfold putG; split
  · rename_i h
    exact ⟨.inl, fun z => z.elim id fun e => by rw [e]; exact h⟩
  · simp
theorem putsG_mem {n : Nat} {x : Int} : ∀ {bs : List Int} {g : List Int × List Nat}, x ∈ (putsG n bs g).1 ↔ x ∈ g.1 ∨ x ∈ bs
  | [], g => by simp [putsG]
  | b :: bs, g => by
    have := putsG_mem (n := n) (x := x) (bs := bs) (g := putG n g b)
    rw [putG_mem] at this
    show x ∈ (putsG n bs (putG n g b)).1 ↔ _
    rw [this, List.mem_cons, or_assoc]
theorem putG_nd {n : Nat} {g : List Int × List Nat} {b : Int} (h : g.1.Nodup) : (putG n g b).1.Nodup := by
  unfold putG; split
  · exact h
  · rename_i hb
    rw [List.nodup_append]
    exact ⟨h, by simp, fun a ha c hc e => by simp at hc; subst hc; subst e; exact hb ha⟩
theorem putsG_nd {n : Nat} : ∀ {bs : List Int} {g : List Int × List Nat}, g.1.Nodup → (putsG n bs g).1.Nodup
  | [], _, h => h
  | b :: bs, g, h => putsG_nd (bs := bs) (g := putG n g b) (putG_nd h)
end MP
/-! gatherings: they end, what they keep -/
namespace MP
open PySem L2
theorem wk_lt {rule : Str} {cs : List C} : ∀ {n : Nat} {h : Str} {so : List Str} {st : List Nat} {ef : Nat} {r : Wr}, wk rule cs n h so st ef = some r → (∀ p ∈ st, p < cs.length) → ∀ p ∈ r.st, p < cs.length
  | 0, _, _, _, _, _, h, _ => by cases h
  | n + 1, h, so, st, ef, r, e, hs => by
    have hq : ∀ q, (lk rule (cs.map C.h) h).1 = some q → ∀ p ∈ st ++ [q], p < cs.length := fun q z p hp => by
      rcases List.mem_append.mp hp with y | y
      · exact hs p y
      · simp at y
        have := lk_lt z
        simp at this
        omega
    unfold wk at e
    split at e
    · cases e; exact hs
    · split at e
      · cases e; exact hs
      · rename_i q hl
        split at e
        · cases e; exact hq q hl
        · exact wk_lt e (hq q hl)
theorem ld_lt {rule : Str} {cs : List C} {h : Str} {p : Nat} (e : (ld (wl rule cs h)).2 = some p) : p < cs.length := by
  unfold ld at e
  dsimp only at e
  split at e
  · exact wk_lt (wl_eq rule cs h) (by simp) p (List.mem_of_getLast? e)
  · cases e
structure GOk (cs : List C) (g : Gt) : Prop where
  nv : g.vi.Nodup
  lv : ∀ p ∈ g.vi, p < cs.length
  nw : g.wk.Nodup
  lg : g.gk.length = g.gv.length
  ng : g.gk.Nodup
theorem nd_lenN : ∀ (a b : List Nat), a.Nodup → (∀ x ∈ a, x ∈ b) → a.length ≤ b.length
  | [], b, _, _ => by simp
  | x :: a, b, nd, h => by
    obtain ⟨n1, n2⟩ := List.nodup_cons.mp nd
    have hx : x ∈ b := h x (by simp)
    have := nd_lenN a (b.erase x) n2 fun y hy => (List.mem_erase_of_ne (fun (e : y = x) => n1 (by rw [← e]; exact hy))).mpr (h y (by simp [hy]))
    rw [List.length_erase_of_mem hx] at this
    have : 0 < b.length := List.length_pos_of_mem hx
    simp only [List.length_cons]
    omega
theorem GOk.vl {cs : List C} {g : Gt} (h : GOk cs g) : g.vi.length ≤ cs.length := by
  have := nd_lenN g.vi (List.range cs.length) h.nv fun x hx => List.mem_range.mpr (h.lv x hx)
  simpa using this
theorem nd_snoc {α : Type} {l : List α} {x : α} (h : l.Nodup) (hx : x ∉ l) : (l ++ [x]).Nodup := by
  rw [List.nodup_append]
  exact ⟨h, by simp, fun a ha b hb e => hx (by simp at hb; rw [← hb, ← e]; exact ha)⟩
theorem alsoAt_len {cs : List C} {A : Nat} (hA : ∀ c ∈ cs, c.al.length ≤ A) (p : Nat) : (alsoAt cs p).length ≤ A := by
  unfold alsoAt
  cases e : cs[p]? with
  | none => simp
  | some c => exact hA c (List.mem_of_getElem? e)
theorem nextAg_len (way : Str) (ag al : List Str) : (nextAg way ag al).length ≤ ag.length + al.length := by
  unfold nextAg; split
  · simp
  · split
    · simp; omega
    · omega
def mesG (A : Nat) (cs : List C) (g : Gt) : Nat := g.ag.length + A * (cs.length - g.vi.length)
theorem visit_ok {cs : List C} {way : Str} {g : Gt} {p : Nat} (h : GOk cs g) (hp : p < cs.length) (hn : p ∉ g.vi) : GOk cs (visitG cs way g p) :=
  ⟨nd_snoc h.nv hn, fun q hq => by
    rcases List.mem_append.mp hq with y | y
    · exact h.lv q y
    · simp at y; omega, h.nw, putsG_len h.lg, putsG_nd h.ng⟩
theorem step_ok {rule : Str} {cs : List C} {way : Str} {g : Gt} (h : GOk cs g) : GOk cs (stepG rule cs way g) := by
  unfold stepG
  split
  · exact h
  · rename_i x r e
    split
    · exact ⟨h.nv, h.lv, h.nw, h.lg, h.ng⟩
    · rename_i hx
      have g1 : GOk cs { g with ag := r, wk := g.wk ++ [x] } := ⟨h.nv, h.lv, nd_snoc h.nw hx, h.lg, h.ng⟩
      split
      · rename_i p hp
        split
        · exact g1
        · rename_i hv
          exact visit_ok g1 (ld_lt hp) hv
      · exact g1
theorem step_mes {rule : Str} {cs : List C} {way : Str} {g : Gt} {A : Nat} (hA : ∀ c ∈ cs, c.al.length ≤ A) (h : GOk cs g) (ha : g.ag ≠ []) : mesG A cs (stepG rule cs way g) < mesG A cs g := by
  unfold stepG
  split
  · rename_i e; exact (ha e).elim
  · rename_i x r e
    have e0 : g.ag.length = r.length + 1 := by rw [e]; rfl
    split
    · unfold mesG; dsimp only; omega
    · split
      · rename_i p hp
        split
        · unfold mesG; dsimp only; omega
        · rename_i hv
          have v1 := (visit_ok (way := way) (g := { g with ag := r, wk := g.wk ++ [x] }) (p := p) ⟨h.nv, h.lv, nd_snoc h.nw ‹_›, h.lg, h.ng⟩ (ld_lt hp) hv).vl
          have a1 := nextAg_len way r (alsoAt cs p)
          have a2 := alsoAt_len hA p
          unfold visitG at v1
          unfold mesG visitG
          dsimp only at v1 ⊢
          rw [List.length_append, List.length_singleton] at v1 ⊢
          have : cs.length - g.vi.length = (cs.length - (g.vi.length + 1)) + 1 := by omega
          rw [this, Nat.mul_succ]
          omega
      · unfold mesG; dsimp only; omega
theorem step_wk {rule : Str} {cs : List C} {way : Str} {g : Gt} : (stepG rule cs way g).wk.length ≤ g.wk.length + 1 := by
  unfold stepG
  split
  · omega
  · split
    · simp
    · split
      · split
        · simp
        · simp [visitG]
      · simp
/-- a gathering ends -/
theorem gat_ends {rule : Str} {cs : List C} {way : Str} {pat A : Nat} (hA : ∀ c ∈ cs, c.al.length ≤ A) : ∀ (n : Nat) (g : Gt), GOk cs g → mesG A cs g < n → ∃ r, gatN rule cs way pat n g = some r
  | 0, g, _, h => by omega
  | n + 1, g, ok, h => by
    unfold gatN
    by_cases hc : g.ag = [] ∨ pat ≤ g.wk.length
    · rw [if_pos hc]; exact ⟨_, rfl⟩
    · rw [if_neg hc]
      have := step_mes (rule := rule) (way := way) hA ok (fun e => hc (.inl e))
      exact gat_ends hA n _ (step_ok ok) (by omega)
def g0 (h : Str) : Gt := ⟨[h], [], [], [], []⟩
theorem g0_ok (cs : List C) (h : Str) : GOk cs (g0 h) := ⟨by simp [g0], by simp [g0], by simp [g0], by simp [g0], by simp [g0]⟩
/-- the gathering -/
def gt (rule : Str) (cs : List C) (way : Str) (pat : Nat) (h : Str) : Gt := (gatN rule cs way pat 400 (g0 h)).getD (g0 h)
theorem gt_eq {rule : Str} {cs : List C} {way : Str} {pat A : Nat} {h : Str} (hA : ∀ c ∈ cs, c.al.length ≤ A) (hl : A * cs.length < 399) : gatN rule cs way pat 400 (g0 h) = some (gt rule cs way pat h) := by
  obtain ⟨r, e⟩ := gat_ends (rule := rule) (way := way) (pat := pat) hA 400 (g0 h) (g0_ok cs h) (by unfold mesG g0; simp; omega)
  unfold gt
  rw [e]; rfl
/-- all bounds of a gathering under way -/
structure GB (cs : List C) (g : Gt) : Prop where
  ok : GOk cs g
  m : g.wk.length + mesG 4 cs g < 66
  k : g.gk.length ≤ 6 * g.vi.length
theorem putG_le {n : Nat} {g : List Int × List Nat} {b : Int} : (putG n g b).1.length ≤ g.1.length + 1 := by unfold putG; split <;> simp
theorem putsG_le {n : Nat} : ∀ {bs : List Int} {g : List Int × List Nat}, (putsG n bs g).1.length ≤ g.1.length + bs.length
  | [], _ => by simp [putsG]
  | b :: bs, g => by
    have := putsG_le (n := n) (bs := bs) (g := putG n g b)
    have h1 := putG_le (n := n) (g := g) (b := b)
    show (putsG n bs (putG n g b)).1.length ≤ _
    simp only [List.length_cons]
    omega
theorem booksAt_len {cs : List C} {A : Nat} (hA : ∀ c ∈ cs, c.bs.length ≤ A) (p : Nat) : (booksAt cs p).length ≤ A := by
  unfold booksAt
  cases e : cs[p]? with
  | none => simp
  | some c => exact hA c (List.mem_of_getElem? e)
theorem GB.step {rule : Str} {cs : List C} {way : Str} {g : Gt} (hA : ∀ c ∈ cs, c.al.length ≤ 4) (hB : ∀ c ∈ cs, c.bs.length ≤ 6) (h : GB cs g) (ha : g.ag ≠ []) : GB cs (stepG rule cs way g) := by
  have s1 := step_mes (rule := rule) (way := way) hA h.ok ha
  have s2 := step_wk (rule := rule) (cs := cs) (way := way) (g := g)
  have hm := h.m
  refine ⟨step_ok h.ok, by omega, ?_⟩
  have hk := h.k
  unfold stepG
  split
  · exact hk
  · split
    · exact hk
    · split
      · split
        · exact hk
        · unfold visitG
          dsimp only
          have := putsG_le (n := (g.wk ++ [‹Str›]).length) (bs := booksAt cs ‹Nat›) (g := (g.gk, g.gv))
          have b1 := booksAt_len hB ‹Nat›
          dsimp only at this
          simp only [List.length_append, List.length_singleton] at this ⊢
          omega
      · exact hk
theorem g0_GB {cs : List C} (hn : cs.length ≤ 16) (h : Str) : GB cs (g0 h) := ⟨g0_ok cs h, by unfold mesG g0; simp; omega, by simp [g0]⟩
theorem GB.ag {cs : List C} {g : Gt} (h : GB cs g) : g.ag.length < 400 := by have := h.m; unfold mesG at this; omega
theorem GB.wk {cs : List C} {g : Gt} (h : GB cs g) : g.wk.length < 400 := by have := h.m; omega
theorem GB.vi {cs : List C} {g : Gt} (hn : cs.length ≤ 16) (h : GB cs g) : g.vi.length ≤ 16 := by have := h.ok.vl; omega
theorem GB.gk {cs : List C} {g : Gt} (hn : cs.length ≤ 16) (h : GB cs g) : g.gk.length ≤ 96 := by have := h.vi hn; have := h.k; omega
theorem gat_GB {rule : Str} {cs : List C} {way : Str} {pat : Nat} (hA : ∀ c ∈ cs, c.al.length ≤ 4) (hB : ∀ c ∈ cs, c.bs.length ≤ 6) : ∀ {n : Nat} {g r : Gt}, gatN rule cs way pat n g = some r → GB cs g → GB cs r
  | 0, g, r, e, _ => by cases e
  | n + 1, g, r, e, ok => by
    unfold gatN at e
    split at e
    · cases e; exact ok
    · rename_i hc
      exact gat_GB hA hB e (ok.step hA hB fun z => hc (.inl z))
theorem gt_GB {rule : Str} {cs : List C} {way : Str} {pat : Nat} {h : Str} (hA : ∀ c ∈ cs, c.al.length ≤ 4) (hB : ∀ c ∈ cs, c.bs.length ≤ 6) (hn : cs.length ≤ 16) : GB cs (gt rule cs way pat h) :=
  gat_GB hA hB (gt_eq (rule := rule) (way := way) (pat := pat) (h := h) hA (by omega)) (g0_GB hn h)
end MP
/-! ints: sorted sets, sorted lists, sets' sizes; the same for places -/
namespace MP
open PySem PySem.Spec PyProof.Rows L2 PySem.SeqAt PySem.W
def addI (l : List Int) (k : Int) : List Int := if k ∈ l then l else k :: l
def uniqI (hs : List Int) : List Int := hs.foldl addI []
def srtI (hs : List Int) : List Int := sortI (uniqI hs)
theorem uniqK_ints (hs : List Int) : uniqK (hs.map Sum.inl) = (uniqI hs).map Sum.inl := by
  have key : ∀ (hs l : List Int), (hs.map (Sum.inl : Int → Key)).foldl addK (l.map Sum.inl) = (hs.foldl addI l).map Sum.inl := fun hs => by
    induction hs with
    | nil => intro l; rfl
    | cons h hs ih =>
      intro l
      rw [List.map_cons, List.foldl_cons, List.foldl_cons, ← ih]
      congr 1
      unfold addK addI
      by_cases q : h ∈ l
      · rw [if_pos q, if_pos (by simpa using q)]
      · rw [if_neg q, if_neg (by simpa using q)]; rfl
  exact key hs []
theorem uniqI_nd (hs : List Int) : (uniqI hs).Nodup := by
  have key : ∀ (hs l : List Int), l.Nodup → (hs.foldl addI l).Nodup := fun hs => by
    induction hs with
    | nil => exact fun l h => h
    | cons k ks ih =>
      intro l h
      rw [List.foldl_cons]
      refine ih _ ?_
      unfold addI
      split
      · exact h
      · next q => exact List.nodup_cons.mpr ⟨q, h⟩
  exact key hs [] List.nodup_nil
theorem uniqI_mem {hs : List Int} {z : Int} : z ∈ uniqI hs ↔ z ∈ hs := by
  have : (Sum.inl z : Key) ∈ uniqK (hs.map Sum.inl) ↔ (Sum.inl z : Key) ∈ hs.map Sum.inl := uniq_mem
  rw [uniqK_ints] at this
  simpa using this
theorem sortI_mem {hs : List Int} {z : Int} : z ∈ sortI hs ↔ z ∈ hs := List.mem_mergeSort
theorem sortI_perm (hs : List Int) : (sortI hs).Perm hs := List.mergeSort_perm _ _
theorem sortI_pw (hs : List Int) : (sortI hs).Pairwise (· ≤ ·) := by
  have := List.pairwise_mergeSort (le := fun x y : Int => decide (x ≤ y)) (fun a b c h1 h2 => by simp at *; omega) (fun a b => by simp; omega) hs
  exact this.imp fun h => by simpa using h
theorem sortI_lt {hs : List Int} (nd : hs.Nodup) : (sortI hs).Pairwise (· < ·) := by
  have h1 := sortI_pw hs
  have h2 : (sortI hs).Nodup := (sortI_perm hs).nodup_iff.mpr nd
  exact (h1.and h2).imp fun ⟨a, b⟩ => by omega
theorem srtI_mem {hs : List Int} {z : Int} : z ∈ srtI hs ↔ z ∈ hs := sortI_mem.trans uniqI_mem
theorem srtI_lt (hs : List Int) : (srtI hs).Pairwise (· < ·) := sortI_lt (uniqI_nd hs)
theorem keysD_ints : ∀ l : List Int, keysD (l.map D.int) = some (l.map Sum.inl)
  | [] => rfl
  | i :: l => by
    have : keysD ((i :: l).map D.int) = (keysD (l.map D.int)).map (Sum.inl i :: ·) := rfl
    rw [this, keysD_ints l]; rfl
theorem intsK_map : ∀ l : List Int, intsK (l.map Sum.inl) = some l
  | [] => rfl
  | x :: l => by
    have : intsK ((x :: l).map Sum.inl) = (intsK (l.map Sum.inl)).map (x :: ·) := rfl
    rw [this, intsK_map l]; rfl
theorem sortKD_ints {us : List Int} (hu : us.length < 64) : sortKD (us.map Sum.inl) = some ((sortI us).map D.int) := by
  unfold sortKD
  rw [if_pos (by simpa using hu)]
  cases us with
  | nil => simp [strsK, sortS, sortI]
  | cons z zs =>
    have : strsK ((z :: zs).map Sum.inl) = none := rfl
    rw [this]
    simp only
    rw [intsK_map]
theorem sortSet_I (hs : List Int) (hl : hs.length < 4000) (hu : (uniqI hs).length < 64) : sortSetD (.lst (hs.map D.int)) = some ((srtI hs).map D.int) := by
  unfold sortSetD itemsKO
  rw [items_l]
  simp only [Option.bind_some, keysD_ints]
  rw [if_pos (by simpa using hl)]
  simp only [Option.bind_some]
  rw [uniqK_ints, sortKD_ints hu]; rfl
/-- .. with None behind it filtered: places -/
def ofN (l : List Nat) : List Int := l.map Int.ofNat
theorem encL_I (l : List Nat) : encL l = (ofN l).map D.int := by unfold ofN; rw [List.map_map]; rfl
theorem ofN_mem {l : List Nat} {n : Nat} : (n : Int) ∈ ofN l ↔ n ∈ l := by
  unfold ofN
  rw [List.mem_map]
  exact ⟨fun ⟨a, h, e⟩ => by cases e; exact h, fun h => ⟨n, h, rfl⟩⟩
def srtN (l : List Nat) : List Nat := (srtI (ofN l)).map Int.toNat
theorem srtN_ofN (l : List Nat) : ofN (srtN l) = srtI (ofN l) := by
  unfold srtN ofN
  rw [List.map_map]
  have : ∀ z ∈ srtI (l.map Int.ofNat), (Int.ofNat ∘ Int.toNat) z = id z := fun z hz => by
    rw [srtI_mem] at hz
    obtain ⟨a, _, rfl⟩ := List.mem_map.mp hz
    rfl
  rw [List.map_congr_left this, List.map_id]
theorem srtN_mem {l : List Nat} {n : Nat} : n ∈ srtN l ↔ n ∈ l := by
  rw [← ofN_mem, srtN_ofN, srtI_mem, ofN_mem]
theorem srtN_lt (l : List Nat) : (srtN l).Pairwise (· < ·) := by
  have := srtI_lt (ofN l)
  rw [← srtN_ofN] at this
  unfold ofN at this
  rw [List.pairwise_map] at this
  exact this.imp fun h => Int.ofNat_lt.mp h
theorem ltN_nd {l : List Nat} (h : l.Pairwise (· < ·)) : l.Nodup := by
  rw [List.nodup_iff_pairwise_ne]
  exact h.imp fun h => by omega
theorem uniqI_nat (l : List Nat) (m : Nat) (h : ∀ n ∈ l, n < m) : (uniqI (ofN l)).length ≤ m := by
  have key : ∀ (a : List Int) (b : List Int), a.Nodup → (∀ x ∈ a, x ∈ b) → a.length ≤ b.length := fun a => by
    induction a with
    | nil => intro b _ _; simp
    | cons x a ih =>
      intro b nd hb
      obtain ⟨n1, n2⟩ := List.nodup_cons.mp nd
      have hx : x ∈ b := hb x (by simp)
      have := ih (b.erase x) n2 fun y hy => (List.mem_erase_of_ne (fun (e : y = x) => n1 (by rw [← e]; exact hy))).mpr (hb y (by simp [hy]))
      rw [List.length_erase_of_mem hx] at this
      have : 0 < b.length := List.length_pos_of_mem hx
      simp only [List.length_cons]
      omega
  have := key (uniqI (ofN l)) (ofN (List.range m)) (uniqI_nd _) fun x hx => by
    rw [uniqI_mem] at hx
    unfold ofN at hx
    obtain ⟨a, ha, rfl⟩ := List.mem_map.mp hx
    exact ofN_mem.mpr (List.mem_range.mpr (h a ha))
  simpa [ofN] using this
theorem sortSet_N (l : List Nat) (hl : l.length < 4000) (hm : ∀ n ∈ l, n < 63) : sortSetD (.lst (encL l)) = some (encL (srtN l)) := by
  have := uniqI_nat l 63 hm
  rw [encL_I, sortSet_I _ (by simpa [ofN] using hl) (by omega), ← srtN_ofN, ← encL_I]
/-! sorted lists of ints -/
theorem sort_ints (a : List Int) : sortO (.lst (a.map D.int)) = some ((sortI a).map D.int) := by
  have h1 : plains (a.map D.int) = true := by
    induction a with
    | nil => rfl
    | cons x a ih => rw [List.map_cons, plains, ih]; rfl
  have h2 : PyData.depthAll (pys (a.map D.int)) ≤ 1 := by
    induction a with
    | nil => simp [pys, PyData.depthAll]
    | cons x a ih => 
      have := ih (by rw [List.map_cons, plains, Bool.and_eq_true] at h1; exact h1.2)
      rw [List.map_cons, pys, PyData.depthAll]
      have : (D.int x).py.depth ≤ 1 := by simp [D.py, PyData.depth]
      omega
  have h3 : allB (pys (a.map D.int)) = true := by
    unfold allB
    rw [pys_map, List.map_map, List.all_eq_true]
    intro x hx
    obtain ⟨u, _, rfl⟩ := List.mem_map.mp hx
    rw [List.all_eq_true]
    intro y hy
    obtain ⟨v, _, rfl⟩ := List.mem_map.mp hy
    rfl
  have h4 : srtB (pys (a.map D.int)) = true := by
    unfold srtB
    rw [Bool.or_eq_true]
    right
    rw [pys_map, List.map_map, List.all_eq_true]
    intro x hx
    obtain ⟨u, _, rfl⟩ := List.mem_map.mp hx
    rfl
  show (if plains (a.map D.int) && decide (PyData.depthAll (pys (a.map D.int)) ≤ 64) && allB (pys (a.map D.int)) && srtB (pys (a.map D.int)) then some ((a.map D.int).mergeSort (dataLe false D.py)) else if (a.map D.int).length ≤ 1 then some (a.map D.int) else none) = _
  rw [h1, h3, h4, decide_eq_true (show PyData.depthAll (pys (a.map D.int)) ≤ 64 by omega)]
  simp only [Bool.and_self, if_true]
  unfold sortI
  rw [List.map_mergeSort (r := fun x y : Int => decide (x ≤ y)) (s := dataLe false D.py) (f := D.int) fun x _ y _ => by
    show decide (x ≤ y) = !dataLt (.int y) (.int x)
    have : dataLt (.int y) (.int x) = decide (y < x) := dataLt_int _ _
    rw [this]
    by_cases h : x ≤ y
    · rw [decide_eq_true h, decide_eq_false (by omega)]; rfl
    · rw [decide_eq_false h, decide_eq_true (by omega)]; rfl]
end MP
/-! what a heading reaches -/
namespace MP
open PySem L2
/-- the landing of a heading -/
def Ld (rule : Str) (cs : List C) (x : Str) : Option Nat := (ld (wl rule cs x)).2
inductive Hrc (rule : Str) (cs : List C) (h : Str) : Str → Prop
  | base : Hrc rule cs h h
  | step {x y : Str} {p : Nat} : Hrc rule cs h x → Ld rule cs x = some p → y ∈ alsoAt cs p → Hrc rule cs h y
def Prc (rule : Str) (cs : List C) (h : Str) (p : Nat) : Prop := ∃ x, Hrc rule cs h x ∧ Ld rule cs x = some p
theorem Prc.lt {rule : Str} {cs : List C} {h : Str} {p : Nat} (r : Prc rule cs h p) : p < cs.length := by
  obtain ⟨x, _, e⟩ := r; exact ld_lt e
structure Grc (rule : Str) (cs : List C) (h : Str) (g : Gt) : Prop where
  ag : ∀ x ∈ g.ag, Hrc rule cs h x
  wk : ∀ x ∈ g.wk, Hrc rule cs h x
  vi : ∀ p ∈ g.vi, Prc rule cs h p
  gk : ∀ b, b ∈ g.gk ↔ ∃ p ∈ g.vi, b ∈ booksAt cs p
theorem nextAg_mem {way : Str} {ag al : List Str} {x : Str} (h : x ∈ nextAg way ag al) : x ∈ ag ∨ x ∈ al := by
  unfold nextAg at h
  split at h
  · exact List.mem_append.mp h
  · split at h
    · exact (List.mem_append.mp h).symm
    · exact .inr h
theorem Grc.step {rule way : Str} {cs : List C} {h : Str} {g : Gt} (r : Grc rule cs h g) : Grc rule cs h (stepG rule cs way g) := by
  unfold stepG
  split
  · exact r
  · rename_i x t e
    have hx : Hrc rule cs h x := r.ag x (by rw [e]; simp)
    have ht : ∀ y ∈ t, Hrc rule cs h y := fun y hy => r.ag y (by rw [e]; simp [hy])
    have hw : ∀ y ∈ g.wk ++ [x], Hrc rule cs h y := fun y hy => by
      rcases List.mem_append.mp hy with z | z
      · exact r.wk y z
      · simp at z; rw [z]; exact hx
    split
    · exact ⟨ht, r.wk, r.vi, r.gk⟩
    · split
      · rename_i p hp
        split
        · exact ⟨ht, hw, r.vi, r.gk⟩
        · have pp : Prc rule cs h p := ⟨x, hx, hp⟩
          refine ⟨fun y hy => ?_, hw, fun q hq => ?_, fun b => ?_⟩
          · rcases nextAg_mem hy with z | z
            · exact ht y z
            · exact .step hx hp z
          · rcases List.mem_append.mp hq with z | z
            · exact r.vi q z
            · simp at z; rw [z]; exact pp
          · show b ∈ (putsG _ (booksAt cs p) (g.gk, g.gv)).1 ↔ ∃ q ∈ g.vi ++ [p], b ∈ booksAt cs q
            rw [putsG_mem]
            dsimp only
            rw [r.gk b]
            constructor
            · rintro (⟨q, h1, h2⟩ | z)
              · exact ⟨q, by simp [h1], h2⟩
              · exact ⟨p, by simp, z⟩
            · rintro ⟨q, h1, h2⟩
              rcases List.mem_append.mp h1 with z | z
              · exact .inl ⟨q, z, h2⟩
              · simp at z; rw [z] at h2; exact .inr h2
      · exact ⟨ht, hw, r.vi, r.gk⟩
structure Gcc (rule : Str) (cs : List C) (h : Str) (g : Gt) : Prop where
  h0 : h ∈ g.ag ∨ h ∈ g.wk
  a : ∀ p ∈ g.vi, ∀ y ∈ alsoAt cs p, y ∈ g.ag ∨ y ∈ g.wk
  w : ∀ x ∈ g.wk, ∀ p, Ld rule cs x = some p → p ∈ g.vi
theorem Gcc.step {rule way : Str} {cs : List C} {h : Str} {g : Gt} (hw : way = "broad" ∨ way = "deep") (r : Gcc rule cs h g) : Gcc rule cs h (stepG rule cs way g) := by
  have hn : ∀ (ag al : List Str) (x : Str), x ∈ ag ∨ x ∈ al → x ∈ nextAg way ag al := fun ag al x q => by
    unfold nextAg
    rcases hw with rfl | rfl
    · rw [if_pos rfl]; exact List.mem_append.mpr q
    · rw [if_neg (by decide), if_pos rfl]; exact List.mem_append.mpr q.symm
  unfold stepG
  split
  · exact r
  · rename_i x t e
    have sp : ∀ y, y ∈ g.ag ∨ y ∈ g.wk → y ∈ t ∨ y ∈ g.wk ++ [x] := fun y q => by
      rcases q with q | q
      · rw [e] at q
        rcases List.mem_cons.mp q with z | z
        · exact .inr (by simp [z])
        · exact .inl z
      · exact .inr (by simp [q])
    split
    · rename_i hx
      have sp : ∀ y, y ∈ g.ag ∨ y ∈ g.wk → y ∈ t ∨ y ∈ g.wk := fun y q => by
        rcases q with q | q
        · rw [e] at q
          rcases List.mem_cons.mp q with z | z
          · rw [z]; exact .inr hx
          · exact .inl z
        · exact .inr q
      exact ⟨sp h r.h0, fun p hp y hy => sp y (r.a p hp y hy), r.w⟩
    · have hw1 : ∀ P : Nat → Prop, (∀ p, Ld rule cs x = some p → P p) → (∀ p, p ∈ g.vi → P p) → ∀ y ∈ g.wk ++ [x], ∀ p, Ld rule cs y = some p → P p := fun P h1 h2 y hy p hp => by
        rcases List.mem_append.mp hy with z | z
        · exact h2 p (r.w y z p hp)
        · simp at z; rw [z] at hp; exact h1 p hp
      split
      · rename_i p hp
        split
        · rename_i hv
          exact ⟨sp h r.h0, fun p hp y hy => sp y (r.a p hp y hy), hw1 _ (fun q hq => by have : some p = some q := hp.symm.trans hq; cases this; exact hv) fun _ z => z⟩
        · refine ⟨?_, fun q hq y hy => ?_, hw1 _ (fun q hq => ?_) fun q hq => ?_⟩
          · rcases sp h r.h0 with z | z
            · exact .inl (hn _ _ _ (.inl z))
            · exact .inr z
          · rcases List.mem_append.mp hq with z | z
            · rcases sp y (r.a q z y hy) with z | z
              · exact .inl (hn _ _ _ (.inl z))
              · exact .inr z
            · simp at z; rw [z] at hy; exact .inl (hn _ _ _ (.inr hy))
          · have : some p = some q := hp.symm.trans hq
            cases this
            show p ∈ g.vi ++ [p]
            simp
          · show q ∈ g.vi ++ [p]
            simp [hq]
      · rename_i hp
        exact ⟨sp h r.h0, fun p hp y hy => sp y (r.a p hp y hy), hw1 _ (fun q hq => by have : none = some q := hp.symm.trans hq; cases this) fun _ z => z⟩
theorem gat_inv {rule way : Str} {cs : List C} {pat : Nat} (I : Gt → Prop) (hs : ∀ g, I g → I (stepG rule cs way g)) : ∀ {n : Nat} {g r : Gt}, gatN rule cs way pat n g = some r → I g → I r
  | 0, _, _, e, _ => by cases e
  | n + 1, g, r, e, h => by
    unfold gatN at e
    split at e
    · cases e; exact h
    · exact gat_inv I hs e (hs g h)
structure Few (cs : List C) : Prop where
  a : ∀ c ∈ cs, c.al.length ≤ 4
  b : ∀ c ∈ cs, c.bs.length ≤ 6
  n : cs.length ≤ 16
section
variable {rule way : Str} {cs : List C} {pat : Nat} {h : Str} (F : Few cs)
theorem Few.eq (F : Few cs) : gatN rule cs way pat 400 (g0 h) = some (gt rule cs way pat h) := gt_eq F.a (by have := F.n; omega)
theorem Few.gb (F : Few cs) : GB cs (gt rule cs way pat h) := gt_GB F.a F.b F.n
theorem gt_GR (F : Few cs) : Grc rule cs h (gt rule cs way pat h) := gat_inv _ (fun _ r => r.step) F.eq ⟨fun x hx => by simp [g0] at hx; rw [hx]; exact .base, by simp [g0], by simp [g0], by simp [g0]⟩
/-- straight ones to some -/
theorem gt_sub (F : Few cs) (b : Int) (hb : b ∈ (gt rule cs way pat h).gk) : ∃ p, Prc rule cs h p ∧ b ∈ booksAt cs p := by
  obtain ⟨p, h1, h2⟩ := ((gt_GR F).gk b).mp hb
  exact ⟨p, (gt_GR F).vi p h1, h2⟩
end
/-- the books that a heading reaches -/
def rb (rule : Str) (cs : List C) (h : Str) : List Int := sortI (gt rule cs "broad" 99 h).gk
/-! the law's own reach, level by level -/
def lvN (met : List Nat) (level : List (Option Nat)) : List Nat := (srtN (level.filterMap id)).filter fun p => !decide (p ∈ met)
def latN (rule : Str) (cs : List C) (ps : List Nat) : List (Option Nat) := ps.flatMap fun p => (alsoAt cs p).map (Ld rule cs)
def rcN (rule : Str) (cs : List C) : Nat → List Nat → List (Option Nat) → Option (List Nat)
  | 0, _, _ => none
  | n + 1, met, level => if level = [] then some met else rcN rule cs n (met ++ lvN met level) (latN rule cs (lvN met level))
section
variable {rule : Str} {cs : List C} {h : Str}
theorem lvN_mem {met : List Nat} {level : List (Option Nat)} {p : Nat} : p ∈ lvN met level ↔ some p ∈ level ∧ p ∉ met := by
  unfold lvN
  rw [List.mem_filter, srtN_mem, List.mem_filterMap]
  constructor
  · rintro ⟨⟨a, h1, h2⟩, h3⟩
    exact ⟨by rw [← show a = some p from h2]; exact h1, by simpa using h3⟩
  · rintro ⟨h1, h2⟩
    exact ⟨⟨some p, h1, rfl⟩, by simpa using h2⟩
theorem lvN_nd (met : List Nat) (level : List (Option Nat)) : (lvN met level).Nodup := (ltN_nd (srtN_lt _)).filter _
theorem latN_mem {ps : List Nat} {q : Nat} : some q ∈ latN rule cs ps ↔ ∃ p ∈ ps, ∃ y ∈ alsoAt cs p, Ld rule cs y = some q := by
  unfold latN
  rw [List.mem_flatMap]
  constructor
  · rintro ⟨p, h1, h2⟩
    obtain ⟨y, h3, h4⟩ := List.mem_map.mp h2
    exact ⟨p, h1, y, h3, h4⟩
  · rintro ⟨p, h1, y, h3, h4⟩
    exact ⟨p, h1, List.mem_map.mpr ⟨y, h3, h4⟩⟩
structure RcI (rule : Str) (cs : List C) (h : Str) (met : List Nat) (level : List (Option Nat)) : Prop where
  nd : met.Nodup
  sm : ∀ p ∈ met, Prc rule cs h p
  sl : ∀ p, some p ∈ level → Prc rule cs h p
  c0 : ∀ p, Ld rule cs h = some p → p ∈ met ∨ some p ∈ level
  ca : ∀ p ∈ met, ∀ y ∈ alsoAt cs p, ∀ q, Ld rule cs y = some q → q ∈ met ∨ some q ∈ level
theorem RcI.init : RcI rule cs h [] [Ld rule cs h] := ⟨by simp, by simp, fun p hp => ⟨h, .base, (by simpa using hp : some p = Ld rule cs h).symm⟩, fun p hp => .inr (by simp [hp]), by simp⟩
theorem RcI.step {met : List Nat} {level : List (Option Nat)} (r : RcI rule cs h met level) : RcI rule cs h (met ++ lvN met level) (latN rule cs (lvN met level)) := by
  have up : ∀ p, p ∈ met ∨ some p ∈ level → p ∈ met ++ lvN met level := fun p q => by
    by_cases hm : p ∈ met
    · simp [hm]
    · exact List.mem_append.mpr (.inr (lvN_mem.mpr ⟨q.resolve_left hm, hm⟩))
  have sm : ∀ p ∈ met ++ lvN met level, Prc rule cs h p := fun p hp => by
    rcases List.mem_append.mp hp with z | z
    · exact r.sm p z
    · exact r.sl p (lvN_mem.mp z).1
  refine ⟨?_, sm, fun q hq => ?_, fun p hp => .inl (up p (r.c0 p hp)), fun p hp y hy q hq => ?_⟩
  · rw [List.nodup_append]
    exact ⟨r.nd, lvN_nd _ _, fun a ha b hb e => (lvN_mem.mp hb).2 (by rw [← e]; exact ha)⟩
  · obtain ⟨p, hp, y, hy, e⟩ := latN_mem.mp hq
    obtain ⟨x, hx, ex⟩ := r.sl p (lvN_mem.mp hp).1
    exact ⟨y, .step hx ex hy, e⟩
  · rcases List.mem_append.mp hp with z | z
    · exact .inl (up q (r.ca p z y hy q hq))
    · exact .inr (latN_mem.mpr ⟨p, z, y, hy, hq⟩)
theorem RcI.len {met : List Nat} {level : List (Option Nat)} (r : RcI rule cs h met level) : met.length ≤ cs.length := by
  have := nd_lenN met (List.range cs.length) r.nd fun x hx => List.mem_range.mpr (r.sm x hx).lt
  simpa using this
/-- the places that are met -/
def rc (rule : Str) (cs : List C) (h : Str) : List Nat := (rcN rule cs 20 [] [Ld rule cs h]).getD []
end
end MP
/-! comprehensions over one name, lists of perhaps-places -/
namespace MP
open PySem L2
@[simp] theorem sortM_ap {g : M D} {ρ : Env} : sortM g ρ = (g ρ).bnd fun d => ofO (sortO d) := rfl
theorem restore_set {ρ : Env} {i : Nat} {d : D} (hi : i < ρ.length) : restore [i] ρ (ρ.set i d) = ρ := by
  unfold restore look
  simp [List.getD_eq_getElem?_getD, List.getElem?_eq_getElem hi]
theorem lcM {α : Type} {i : Nat} {g : M D} {ρ : Env} (enc f : α → D) {L : List α} (hi : i < ρ.length) (h : ∀ a ∈ L, g (ρ.set i (enc a)) = .ok (f a) (ρ.set i (enc a))) : lcL (bName i) yesM g [i] (L.map enc) ρ [] = .ok (L.map f) ρ :=
  lc_mapA enc f fun a ha => ⟨ρ.set i (enc a), rfl, h a ha, restore_set hi⟩
theorem lcF {α : Type} {i : Nat} {c : M Bool} {g : M D} {ρ : Env} (enc : α → D) (p : α → Bool) (f : α → D) {L : List α} (hi : i < ρ.length) (h : ∀ a ∈ L, c (ρ.set i (enc a)) = .ok (p a) (ρ.set i (enc a))) (h2 : ∀ a ∈ L, p a = true → g (ρ.set i (enc a)) = .ok (f a) (ρ.set i (enc a))) : lcL (bName i) c g [i] (L.map enc) ρ [] = .ok ((L.filter p).map f) ρ :=
  lc_mapF enc p f fun a ha => ⟨ρ.set i (enc a), rfl, h a ha, fun q => h2 a ha q, restore_set hi⟩
@[simp] theorem purs_encO (l : List (Option Nat)) : purs (l.map encO) = true := purs_map _ _ fun o _ => by cases o <;> rfl
/-! few different books -/
theorem nd_lenI : ∀ (a b : List Int), a.Nodup → (∀ x ∈ a, x ∈ b) → a.length ≤ b.length
  | [], b, _, _ => by simp
  | x :: a, b, nd, h => by
    obtain ⟨n1, n2⟩ := List.nodup_cons.mp nd
    have hx : x ∈ b := h x (by simp)
    have := nd_lenI a (b.erase x) n2 fun y hy => (List.mem_erase_of_ne (fun (e : y = x) => n1 (by rw [← e]; exact hy))).mpr (h y (by simp [hy]))
    rw [List.length_erase_of_mem hx] at this
    have : 0 < b.length := List.length_pos_of_mem hx
    simp only [List.length_cons]
    omega
theorem uniq_sub {l m : List Int} (h : ∀ x ∈ l, x ∈ m) : (uniqI l).length ≤ (uniqI m).length := nd_lenI _ _ (uniqI_nd l) fun x hx => uniqI_mem.mpr (h x (uniqI_mem.mp hx))
structure Fu (cs : List C) : Prop extends Few cs where
  u : (uniqI (cs.flatMap C.bs)).length < 64
theorem booksAt_all {cs : List C} {p : Nat} {b : Int} (h : b ∈ booksAt cs p) : b ∈ cs.flatMap C.bs := by
  unfold booksAt at h
  cases e : cs[p]? with
  | none => rw [e] at h; cases h
  | some c => rw [e] at h; exact List.mem_flatMap.mpr ⟨c, List.mem_of_getElem? e, h⟩
section
variable {cs : List C} (F : Fu cs)
theorem Fu.sub (F : Fu cs) {l : List Int} (h : ∀ b ∈ l, b ∈ cs.flatMap C.bs) : (uniqI l).length < 64 := by
  have := uniq_sub h
  have := F.u
  omega
theorem Fu.nd (F : Fu cs) {l : List Int} (nd : l.Nodup) (h : ∀ b ∈ l, b ∈ cs.flatMap C.bs) : l.length < 64 := by
  have := nd_lenI l (uniqI (cs.flatMap C.bs)) nd fun x hx => uniqI_mem.mpr (h x hx)
  have := F.u
  omega
theorem Fu.gk (F : Fu cs) {rule way h : Str} {pat : Nat} : (gt rule cs way pat h).gk.length < 64 := F.nd F.gb.ok.ng fun b hb => by
  obtain ⟨p, _, h2⟩ := gt_sub F.toFew b hb
  exact booksAt_all h2
theorem Fu.rc (F : Fu cs) {rule h : Str} : (uniqI ((rc rule cs h).flatMap (booksAt cs))).length < 64 := F.sub fun b hb => by
  obtain ⟨p, _, h2⟩ := List.mem_flatMap.mp hb
  exact booksAt_all h2
end
end MP
/-! orders that are put in front; rounds; how many orders there are; dicts by tuples, plain -/
namespace MP
open PySem L2
section
variable {α : Type}
def fr (l : List α) (p : Nat) : List α := (l.drop p).take 1 ++ l.take p ++ l.drop (p + 1)
theorem nd_lenG [DecidableEq α] : ∀ (a b : List α), a.Nodup → (∀ x ∈ a, x ∈ b) → a.length ≤ b.length
  | [], b, _, _ => by simp
  | x :: a, b, nd, h => by
    obtain ⟨n1, n2⟩ := List.nodup_cons.mp nd
    have hx : x ∈ b := h x (by simp)
    have := nd_lenG a (b.erase x) n2 fun y hy => (List.mem_erase_of_ne (fun (e : y = x) => n1 (by rw [← e]; exact hy))).mpr (h y (by simp [hy]))
    rw [List.length_erase_of_mem hx] at this
    have : 0 < b.length := List.length_pos_of_mem hx
    simp only [List.length_cons]
    omega
/-! rounds -/
variable (f : α → α) (w : α → Int)
end
theorem makeM_of {c : Str} {fm : FMf} {ds fs : List D} (h : fm (.ins c []) ds = some (.non, .ins c fs)) (hl : fs.length = (flds c).length) : makeM c fm ds = some (.ins c fs) := by
  unfold makeM
  rw [h]
  exact if_pos ⟨rfl, hl⟩
/-! dicts by tuples -/
section
variable {g h : M D} {ρ : Env}
@[simp] theorem inTS_ap {neg : Bool} {j : Nat} : inTS neg j g ρ = (g ρ).bnd fun x ρ => ofO (inT neg x (look ρ j)) ρ := rfl
@[simp] theorem get2TS_ap {j : Nat} : get2TS j g h ρ = (g ρ).bnd fun x => bnd h fun y ρ => ofO (get2T (look ρ j) x y) ρ := rfl
@[simp] theorem putDTS_ap {j : Nat} : putDTS j g h ρ = (h ρ).sb fun d => sbd g fun x ρ => match keyT x, look ρ j with
  | some k, .dt false ks ds => if ds.length < 16000000 then .nx (ρ.set j (.dt false (putTs ks k) (putTx ks ds k d))) else .bad
  | _, _ => .bad := rfl
end
end MP
/-! patience: what is gathered with less is gathered with more, by the same walks -/
namespace MP
open PySem L2
section
variable {rule way : Str} {cs : List C}
/-- g2 has what g1 has, and more by later walks -/
def Ext (n : Nat) (g1 g2 : Gt) : Prop := g1.wk.length ≤ g2.wk.length ∧ ∃ ks vs, g2.gk = g1.gk ++ ks ∧ g2.gv = g1.gv ++ vs ∧ ks.length = vs.length ∧ ∀ v ∈ vs, n < v
theorem Ext.refl {n : Nat} {g : Gt} : Ext n g g := ⟨Nat.le_refl _, [], [], by simp, by simp, rfl, by simp⟩
theorem Ext.trans {n : Nat} {a b c : Gt} (x : Ext n a b) (y : Ext n b c) : Ext n a c := by
  obtain ⟨w1, k1, v1, e1, f1, l1, h1⟩ := x
  obtain ⟨w2, k2, v2, e2, f2, l2, h2⟩ := y
  refine ⟨Nat.le_trans w1 w2, k1 ++ k2, v1 ++ v2, by rw [e2, e1]; simp, by rw [f2, f1]; simp, by simp [l1, l2], fun v hv => ?_⟩
  rcases List.mem_append.mp hv with z | z
  · exact h1 v z
  · exact h2 v z
variable {h : Str}
end
/-- the value of a key -/
def valN : List Int → List Nat → Int → Option Nat
  | k :: ks, v :: vs, b => if k = b then some v else valN ks vs b
  | _, _, _ => none
end MP
/-! what leads to what, over further headings: closures -/
namespace MP
open PySem L2
@[simp] theorem popM_ap {j : Nat} {ρ : Env} : popM j ρ = (match look ρ j with
  | .lst rs => (match rs[rs.length - 1]? with
    | some y => .ok y (ρ.set j (.lst rs.dropLast))
    | none => .bad)
  | _ => .bad) := rfl
section
variable (w : Nat → List Nat)
inductive Tc (k : Nat) : Nat → Prop
  | one {j : Nat} : j ∈ w k → Tc k j
  | step {g j : Nat} : Tc k g → j ∈ w g → Tc k j
structure DfI (k : Nat) (st met : List Nat) : Prop where
  nd : met.Nodup
  ss : ∀ x ∈ st, Tc w k x
  sm : ∀ x ∈ met, Tc w k x
  c0 : ∀ y ∈ w k, y ∈ st ∨ y ∈ met
  cm : ∀ x ∈ met, ∀ y ∈ w x, y ∈ st ∨ y ∈ met
variable {w}
theorem DfI.init (k : Nat) : DfI w k (w k) [] := ⟨by simp, fun x hx => .one hx, by simp, fun y hy => .inl hy, by simp⟩
theorem last_split {st : List Nat} {x : Nat} (h : st.getLast? = some x) : st = st.dropLast ++ [x] := by
  obtain ⟨ys, rfl⟩ := List.getLast?_eq_some_iff.mp h
  simp
theorem DfI.old {k : Nat} {st met : List Nat} {x : Nat} (I : DfI w k st met) (h : st.getLast? = some x) (hm : x ∈ met) : DfI w k st.dropLast met := by
  have sp : ∀ y, y ∈ st ∨ y ∈ met → y ∈ st.dropLast ∨ y ∈ met := fun y q => by
    rcases q with q | q
    · rw [last_split h] at q
      rcases List.mem_append.mp q with z | z
      · exact .inl z
      · simp at z; rw [z]; exact .inr hm
    · exact .inr q
  exact ⟨I.nd, fun y hy => I.ss y (by rw [last_split h]; simp [hy]), I.sm, fun y hy => sp y (I.c0 y hy), fun z hz y hy => sp y (I.cm z hz y hy)⟩
theorem DfI.new {k : Nat} {st met : List Nat} {x : Nat} (I : DfI w k st met) (h : st.getLast? = some x) (hm : x ∉ met) : DfI w k (st.dropLast ++ w x) (met ++ [x]) := by
  have hx : Tc w k x := I.ss x (by rw [last_split h]; simp)
  have sp : ∀ y, y ∈ st ∨ y ∈ met → y ∈ st.dropLast ++ w x ∨ y ∈ met ++ [x] := fun y q => by
    rcases q with q | q
    · rw [last_split h] at q
      rcases List.mem_append.mp q with z | z
      · exact .inl (by simp [z])
      · exact .inr (by simp at z; simp [z])
    · exact .inr (by simp [q])
  refine ⟨nd_snoc I.nd hm, fun y hy => ?_, fun y hy => ?_, fun y hy => sp y (I.c0 y hy), fun z hz y hy => ?_⟩
  · rcases List.mem_append.mp hy with z | z
    · exact I.ss y (by rw [last_split h]; simp [z])
    · exact .step hx z
  · rcases List.mem_append.mp hy with z | z
    · exact I.sm y z
    · simp at z; rw [z]; exact hx
  · rcases List.mem_append.mp hz with q | q
    · exact sp y (I.cm z q y hy)
    · simp at q; rw [q] at hy; exact .inl (by simp [hy])
theorem Tc.lt {N k x : Nat} (hw : ∀ p, ∀ q ∈ w p, q < N) (t : Tc w k x) : x < N := by
  cases t with
  | one h => exact hw _ _ h
  | step _ h => exact hw _ _ h
theorem DfI.len {N k : Nat} {st met : List Nat} (hw : ∀ p, ∀ q ∈ w p, q < N) (I : DfI w k st met) : met.length ≤ N := by
  have := nd_lenN met (List.range N) I.nd fun x hx => List.mem_range.mpr ((I.sm x hx).lt hw)
  simpa using this
/-! round by round -/
end
end MP
/-! drawers that are alike: walks, reaches of the one are those of the other -/
namespace MP
open PySem L2
inductive F2 {α β : Type} (R : α → β → Prop) : List α → List β → Prop
  | nil : F2 R [] []
  | cons {a : α} {b : β} {l : List α} {m : List β} : R a b → F2 R l m → F2 R (a :: l) (b :: m)
section
variable {α β : Type} {R : α → β → Prop}
theorem F2.snoc : ∀ {l : List α} {m : List β} {a : α} {b : β}, F2 R l m → R a b → F2 R (l ++ [a]) (m ++ [b])
  | _, _, _, _, .nil, h => .cons h .nil
  | _, _, _, _, .cons r t, h => .cons r (t.snoc h)
theorem F2.len : ∀ {l : List α} {m : List β}, F2 R l m → l.length = m.length
  | _, _, .nil => rfl
  | _, _, .cons _ t => congrArg (· + 1) t.len
theorem F2.eq : ∀ {l m : List α}, F2 (fun a b : α => a = b) l m → l = m
  | _, _, .nil => rfl
  | _, _, .cons r t => by rw [r, t.eq]
end
/-- cs by r1 and ds by r2 are alike on the headings of U: headings x there are f x here, cards c there are g c here, places are related by pl, looks by E -/
structure Sm (r1 r2 : Str) (cs ds : List C) (U : Str → Prop) (f : Str → Str) (g : C → C) (pl : Nat → Nat → Prop) (E : Nat → Nat → Prop) : Prop where
  inj : ∀ x y, U x → U y → f x = f y → x = y
  no : ∀ x, U x → (lk r1 (cs.map C.h) x).1 = none → (lk r2 (ds.map C.h) (f x)).1 = none
  so : ∀ x p, U x → (lk r1 (cs.map C.h) x).1 = some p → ∃ q c, (lk r2 (ds.map C.h) (f x)).1 = some q ∧ cs[p]? = some c ∧ ds[q]? = some (g c) ∧ pl p q
  se : ∀ x p c, U x → (lk r1 (cs.map C.h) x).1 = some p → cs[p]? = some c → (c.see = "" → (g c).see = "") ∧ (c.see ≠ "" → (g c).see = f c.see ∧ f c.see ≠ "" ∧ U c.see)
  al : ∀ x p c, U x → (lk r1 (cs.map C.h) x).1 = some p → cs[p]? = some c → (g c).al = c.al.map f ∧ ∀ y ∈ c.al, U y
  ef : ∀ x, U x → E (lk r1 (cs.map C.h) x).2.length (lk r2 (ds.map C.h) (f x)).2.length
  e0 : E 0 0
  ea : ∀ a b c d, E a b → E c d → E (a + c) (b + d)
section
variable {r1 r2 : Str} {cs ds : List C} {U : Str → Prop} {f : Str → Str} {g : C → C} {pl : Nat → Nat → Prop} {E : Nat → Nat → Prop}
theorem see_some {cs : List C} {p : Nat} {c : C} (h : cs[p]? = some c) : see cs p = c.see := by unfold see; rw [h]; rfl
theorem Sm.mem (S : Sm r1 r2 cs ds U f g pl E) {x : Str} {so : List Str} (hx : U x) (hs : ∀ y ∈ so, U y) : f x ∈ so.map f ↔ x ∈ so := by
  rw [List.mem_map]
  exact ⟨fun ⟨y, h1, h2⟩ => by rw [← S.inj y x (hs y h1) hx h2]; exact h1, fun h => ⟨x, h, rfl⟩⟩
theorem Sm.wk (S : Sm r1 r2 cs ds U f g pl E) : ∀ {n : Nat} {h : Str} {so : List Str} {st st' : List Nat} {ef ef' : Nat} {r : Wr}, wk r1 cs n h so st ef = some r → U h → (∀ y ∈ so, U y) → F2 pl st st' → E ef ef' →
    ∃ r', MP.wk r2 ds n (f h) (so.map f) st' ef' = some r' ∧ r'.w = r.w ∧ r'.so = r.so.map f ∧ F2 pl r.st r'.st ∧ E r.ef r'.ef ∧ (∀ p c, r.w = "entry" → r.st.getLast? = some p → cs[p]? = some c → ∃ x, U x ∧ (lk r1 (cs.map C.h) x).1 = some p)
  | 0, _, _, _, _, _, _, _, e, _, _, _, _ => by cases e
  | n + 1, h, so, st, st', ef, ef', r, e, hh, hs, hp, he => by
    unfold MP.wk at e ⊢
    have m := S.mem hh hs
    by_cases hm : h ∈ so
    · rw [if_pos hm] at e
      cases e
      rw [if_pos (m.mpr hm)]
      exact ⟨_, rfl, rfl, rfl, hp, he, fun p c w _ _ => absurd (show ("ring" : Str) = "entry" from w) (by decide)⟩
    · rw [if_neg hm] at e
      rw [if_neg fun z => hm (m.mp z)]
      have ee := S.ea _ _ _ _ he (S.ef h hh)
      have sm : so.map f ++ [f h] = (so ++ [h]).map f := by simp
      have us : ∀ y ∈ so ++ [h], U y := fun y hy => by
        rcases List.mem_append.mp hy with z | z
        · exact hs y z
        · simp at z; rw [z]; exact hh
      cases hl : (lk r1 (cs.map C.h) h).1 with
      | none =>
        rw [hl] at e
        rw [S.no h hh hl]
        cases e
        exact ⟨_, rfl, rfl, sm, hp, ee, fun p c w _ _ => absurd (show ("lost" : Str) = "entry" from w) (by decide)⟩
      | some p =>
        rw [hl] at e
        obtain ⟨q, c, h1, h2, h3, h4⟩ := S.so h p hh hl
        rw [h1]
        dsimp only at e ⊢
        rw [see_some h2] at e
        rw [see_some h3]
        obtain ⟨s1, s2⟩ := S.se h p c hh hl h2
        by_cases es : c.see = ""
        · rw [if_pos es] at e
          cases e
          rw [if_pos (s1 es)]
          refine ⟨_, rfl, rfl, sm, hp.snoc h4, ee, fun p' c' _ l _ => ⟨h, hh, ?_⟩⟩
          simp at l
          rw [← l]; exact hl
        · obtain ⟨s3, s4, s5⟩ := s2 es
          rw [if_neg es] at e
          rw [s3, if_neg s4, sm]
          exact S.wk e s5 us (hp.snoc h4) ee
end
/-! by the rule all: the first cards -/
end MP
/-! drawers without some cards; ascending tuples of places -/
namespace MP
open PySem L2
def okx (s : List Nat) (p : Nat) : Bool := match s.getLast? with
  | none => true
  | some l => decide (l < p)
def ext (n : Nat) (s : List Nat) : List (List Nat) := ((List.range n).filter (okx s)).map fun p => s ++ [p]
theorem encL_okT (s : List Nat) : okD (.tup (encL s)) = true := okD_flt (k := 1) (by omega) (by rw [flt]; exact flts_nats _ _)
/-! kept cards, one after another -/
end MP
/-! rings of headings -/
namespace MP
open PySem L2
/-- the heading to which a heading leads -/
def stp (rule : Str) (cs : List C) (x : Str) : Option Str := match (lk rule (cs.map C.h) x).1 with
  | none => none
  | some p => if see cs p = "" then none else some (see cs p)
section
variable {s : Str → Option Str}
def itN (s : Str → Option Str) : Nat → Str → Option Str
  | 0, x => some x
  | n + 1, x => (itN s n x).bind s
theorem itN_add {x : Str} : ∀ (a b : Nat), itN s (a + b) x = (itN s a x).bind (itN s b)
  | a, 0 => by simp [itN]
  | a, b + 1 => by
    show (itN s (a + b) x).bind s = _
    rw [itN_add a b, Option.bind_assoc]
    rfl
theorem itN_none {x : Str} {a : Nat} (h : itN s a x = none) (b : Nat) : itN s (a + b) x = none := by rw [itN_add, h]; rfl
theorem itN_some {x y : Str} {a b : Nat} (h : itN s b x = some y) (hab : a ≤ b) : ∃ z, itN s a x = some z := by
  cases e : itN s a x with
  | some z => exact ⟨z, rfl⟩
  | none =>
    have := itN_none e (b - a)
    rw [show a + (b - a) = b by omega, h] at this
    cases this
/-- x comes again after t steps, and not before -/
structure Per (s : Str → Option Str) (t : Nat) (x : Str) : Prop where
  pos : 1 ≤ t
  on : itN s t x = some x
  mn : ∀ j, 1 ≤ j → j < t → itN s j x ≠ some x
theorem Per.mul {t : Nat} {x : Str} (p : itN s t x = some x) : ∀ k, itN s (t * k) x = some x
  | 0 => rfl
  | k + 1 => by rw [Nat.mul_succ, itN_add, Per.mul p k]; exact p
theorem Per.all {t : Nat} {x : Str} (p : Per s t x) (n : Nat) : ∃ y, itN s n x = some y := by
  have := Per.mul p.on (n + 1)
  refine itN_some this ?_
  have := p.pos
  have h : 1 * (n + 1) ≤ t * (n + 1) := Nat.mul_le_mul_right _ this
  omega
theorem Per.uniq {t u : Nat} {x : Str} (p : Per s t x) (q : Per s u x) : t = u := by
  rcases Nat.lt_trichotomy t u with h | h | h
  · exact (q.mn t p.pos h p.on).elim
  · exact h
  · exact (p.mn u q.pos h q.on).elim
/-- all that is come to comes again -/
theorem Per.shift {t n : Nat} {x y : Str} (p : Per s t x) (h : itN s n x = some y) : itN s t y = some y := by
  have a : itN s (n + t) x = itN s t y := by rw [itN_add, h]; rfl
  have b : itN s (t + n) x = itN s n x := by rw [itN_add, p.on]; rfl
  rw [← a, Nat.add_comm, b, h]
theorem Per.back {t n : Nat} {x y : Str} (p : Per s t x) (h : itN s n x = some y) : ∃ m, itN s m y = some x := by
  have e := Per.mul p.on (n + 1)
  have hl : n ≤ t * (n + 1) := by
    have h : 1 * (n + 1) ≤ t * (n + 1) := Nat.mul_le_mul_right _ p.pos
    omega
  refine ⟨t * (n + 1) - n, ?_⟩
  have : itN s (n + (t * (n + 1) - n)) x = itN s (t * (n + 1) - n) y := by rw [itN_add, h]; rfl
  rw [← this, show n + (t * (n + 1) - n) = t * (n + 1) by omega, e]
theorem Per.move {t n : Nat} {x y : Str} (p : Per s t x) (h : itN s n x = some y) : Per s t y := by
  refine ⟨p.pos, p.shift h, fun j a b c => ?_⟩
  obtain ⟨m, hm⟩ := p.back h
  have p' : Per s j y ∨ True := .inr trivial
  have e : itN s j x = some x := by
    have a1 : itN s (m + j) y = itN s j x := by rw [itN_add, hm]; rfl
    have a2 : itN s (j + m) y = itN s m y := by rw [itN_add, c]; rfl
    rw [← a1, Nat.add_comm, a2, hm]
  exact p.mn j a b e
theorem Per.inj {t i j : Nat} {x : Str} (p : Per s t x) (hi : i < t) (hj : j < t) (h : itN s i x = itN s j x) : i = j := by
  have key : ∀ a b, a < b → b < t → itN s a x = itN s b x → False := fun a b hab hb e => by
    obtain ⟨y, hy⟩ := p.all a
    have p' := p.move hy
    have : itN s (a + (b - a)) x = itN s (b - a) y := by rw [itN_add, hy]; rfl
    rw [show a + (b - a) = b by omega, ← e, hy] at this
    exact p'.mn (b - a) (by omega) (by omega) this.symm
  rcases Nat.lt_trichotomy i j with q | q | q
  · exact (key i j q hj h).elim
  · exact q
  · exact (key j i q hi h.symm).elim
end
/-! the least of texts -/
end MP
/-! rings by powers -/
namespace MP
open PySem L2
section
variable {s : Str → Option Str}
open Classical in
noncomputable def pv (s : Str → Option Str) (h : Str) : Nat := if p : ∃ t, Per s t h then p.choose else 0
/-- those that come back behind t steps are noted, once -/
def addR (s : Str → Option Str) (t : Nat) : List Str → List Str → List Str
  | acc, [] => acc
  | acc, h :: L => addR s t (if itN s t h = some h ∧ h ∉ acc then acc ++ [h] else acc) L
def rd (s : Str → Option Str) (l : List Str) : Nat → List Str
  | 0 => []
  | t + 1 => addR s (t + 1) (rd s l t) l
/-- the last heading to which the steps lead -/
def sp (s : Str → Option Str) : Nat → Str → Str
  | 0, h => h
  | n + 1, h => (s (sp s n h)).getD (sp s n h)
end
end MP
/-! headings called otherwise -/
namespace MP
open PySem L2
end MP
/-! sorted rows of texts -/
namespace MP
open PySem PySem.Spec PyProof.Rows L2 PySem.SeqAt PySem.W
end MP
/-! choices of places, losses -/
namespace MP
open PySem L2
end MP
/-! sorted(t) of a tuple of ints; all ascending tuples are choices; x in a list of truths, in a list of tuples -/
namespace MP
open PySem L2 PySem.W PyProof.Rows
theorem encL_injG : ∀ {a b : List Nat}, encL a = encL b → a = b
  | [], [], _ => rfl
  | [], _ :: _, h => by cases h
  | _ :: _, [], h => by cases h
  | x :: a, y :: b, h => by
    have h : D.int (x : Int) :: encL a = D.int (y : Int) :: encL b := h
    obtain ⟨h1, h2⟩ := List.cons.inj h
    have := D.int.inj h1
    rw [encL_injG h2, show x = y by omega]
theorem maxDD_natsG : ∀ (l : List Nat) (a : Nat), ∃ m, maxDD (inat a) (encL l) = inat m ∧ m ∈ a :: l ∧ ∀ y ∈ a :: l, y ≤ m
  | [], a => ⟨a, rfl, by simp, by simp⟩
  | b :: l, a => by
    have e : maxDD (inat a) (encL (b :: l)) = maxDD (if PySem.W.dataLt (inat a).py (inat b).py then inat b else inat a) (encL l) := rfl
    have d : PySem.W.dataLt (inat a).py (inat b).py = decide (a < b) := by
      show PySem.W.dataLt (.int (a : Int)) (.int (b : Int)) = _
      rw [PySem.W.dataLt_int]
      by_cases z : a < b
      · rw [decide_eq_true z, decide_eq_true (by omega)]
      · rw [decide_eq_false z, decide_eq_false (by omega)]
    rw [e, d]
    by_cases z : a < b
    · rw [decide_eq_true z, if_pos rfl]
      obtain ⟨m, h1, h2, h3⟩ := maxDD_natsG l b
      refine ⟨m, h1, List.mem_cons_of_mem _ h2, fun y hy => ?_⟩
      rcases List.mem_cons.mp hy with rfl | hy
      · have := h3 b (by simp); omega
      · exact h3 y hy
    · rw [decide_eq_false z, if_neg (by simp)]
      obtain ⟨m, h1, h2, h3⟩ := maxDD_natsG l a
      refine ⟨m, h1, ?_, fun y hy => ?_⟩
      · rcases List.mem_cons.mp h2 with q | q
        · rw [q]; simp
        · simp [q]
      · rcases List.mem_cons.mp hy with rfl | hy
        · exact h3 _ (by simp)
        · rcases List.mem_cons.mp hy with rfl | hy
          · have := h3 a (by simp); omega
          · exact h3 y (by simp [hy])
theorem maxC_natsG (l : List Nat) (hl : l ≠ []) : ∃ m, maxC [.lst (encL l)] = some (inat m) ∧ m ∈ l ∧ ∀ y ∈ l, y ≤ m := by
  cases l with
  | nil => exact absurd rfl hl
  | cons a l =>
    obtain ⟨m, h1, h2, h3⟩ := maxDD_natsG l a
    refine ⟨m, ?_, h2, h3⟩
    have p1 : plains (encL (a :: l)) = true := by
      have := (flt_ok 1 (.lst (encL (a :: l))) (by rw [flt]; exact flts_nats _ _)).1
      simpa [D.plain] using this
    have pm : ∀ ds : List D, pys ds = ds.map D.py := fun ds => by
      induction ds with
      | nil => rfl
      | cons d ds ih => rw [pys, ih]; rfl
    have p2 : PyData.depthAll (pys (encL (a :: l))) ≤ 64 := by
      have := (flt_ok 1 (.lst (encL (a :: l))) (by rw [flt]; exact flts_nats _ _)).2
      simp only [D.py, PyData.depth] at this
      omega
    have p3 : alikeB (pys (encL (a :: l))) = true := by
      rw [pm]
      unfold alikeB encL
      rw [List.map_map]
      simp only [Bool.and_eq_true, List.all_eq_true, List.mem_map]
      refine ⟨?_, ?_⟩
      · rintro _ ⟨x, _, rfl⟩ _ ⟨y, _, rfl⟩
        rfl
      · rintro _ ⟨x, _, rfl⟩
        rfl
    show (if plains (encL (a :: l)) && decide (PyData.depthAll (pys (encL (a :: l))) ≤ 64) && alikeB (pys (encL (a :: l))) then some (maxDD (inat a) (encL l)) else none) = _
    rw [p1, p3, decide_eq_true p2, h1]
    rfl
end MP
namespace MP.k61
open PySem L2 MP
/-! draws -/
theorem taken_spec (ns : List Int) (i s r m : Int) (hi : 0 ≤ i) (hm : 0 < m) (hm2 : m < 1073741824) : ∃ n i' s' r', F__law_taken (rowD ns i s r) [.int m] = some (.int n, rowD ns i' s' r') ∧ 0 ≤ n ∧ n < m ∧ 0 ≤ i' := by
  unfold F__law_taken runR d__law_taken
  have md : ∀ x : Int, 0 ≤ x % m ∧ x % m < m := fun x => ⟨Int.emod_nonneg x (by omega), Int.emod_lt_of_pos x hm⟩
  by_cases hr : 0 < r
  · simp [rowD, hr, hm, ixN, divC, hm2]
    exact ⟨_, _, ⟨rfl, rfl⟩, (md r).1, (md r).2, hi⟩
  · by_cases hl : (ns.length : Int) < i + 1
    · simp [rowD, hr, hm, ixN, divC, hm2, hl, mulC]
      exact ⟨_, _, ⟨rfl, rfl⟩, (md _).1, (md _).2, by omega⟩
    · obtain ⟨j, rfl⟩ : ∃ j : Nat, i = j := ⟨i.toNat, by omega⟩
      have hj : j < ns.length := by omega
      have e : atI (ns.map D.int) (j : Int) = some (.int ns[j]) := by rw [atI_nat' (by simpa using hj)]; simp [hj]
      by_cases hb : (10 : Int) ^ 18 ≤ ns[j]
      · simp [rowD, hr, hm, ixN, divC, hm2, hl, mulC, e, powC] at hb ⊢
        simp [hb, hm]
        exact ⟨_, _, ⟨rfl, rfl⟩, (md _).1, (md _).2, by omega⟩
      · have hb' : ¬ 1000000000000000000 ≤ ns[j] := by simpa using hb
        first
          | (refine ⟨ns[j] % m, j + 1, (s * 48271 + ns[j] + 11) % 2147483647, 0, ?_, (md _).1, (md _).2, by omega⟩; simp [rowD, hr, hm, ixN, divC, hm2, hl, mulC, e, powC, hb']; done)
          | (refine ⟨ns[j] % m, j + 1, (s * 48271 + ns[j] + 11) % 2147483647, r, ?_, (md _).1, (md _).2, by omega⟩; simp [rowD, hr, hm, ixN, divC, hm2, hl, mulC, e, powC, hb']; done)
theorem takenN (ns : List Int) (i s r : Int) (m : Nat) (hi : 0 ≤ i) (hm : 0 < m) (hm2 : m < 1073741824) : ∃ (n : Nat) (i' s' r' : Int), F__law_taken (rowD ns i s r) [.int (m : Int)] = some (.int n, rowD ns i' s' r') ∧ n < m ∧ 0 ≤ i' := by
  obtain ⟨n, i', s', r', h1, h2, h3, h4⟩ := taken_spec ns i s r m hi (by omega) (by omega)
  exact ⟨n.toNat, i', s', r', by rw [h1, Int.toNat_of_nonneg h2], by omega, h4⟩
/-- as a step: any slots, the row at j -/
theorem takenC (ns : List Int) {i s r : Int} {m : Int} (m' : Nat) (j : Nat) {ρ : Env} (hρ : look ρ j = .lst (rowD ns i s r)) (hi : 0 ≤ i) (hm : 0 < m') (hm2 : m' < 1073741824) (em : m = m' := by rfl) :
    ∃ (n : Nat) (i' s' r' : Int), callR1 F__law_taken j [.int m] ρ = .ok (.int n) (ρ.set j (.lst (rowD ns i' s' r'))) ∧ n < m' ∧ 0 ≤ i' := by
  subst em
  obtain ⟨n, i', s', r', h1, h2, h3⟩ := takenN ns i s r m' hi hm hm2
  exact ⟨n, i', s', r', callR1_of hρ h1, h2, h3⟩
end MP.k61
namespace MP.k61
open PySem L2 MP
/-! cards and drawers -/
def W (s : Str) : Prop := F_is_word [.str s] = some (.bl true)
theorem W_no : F_is_word [.str ""] = some (.bl false) := rfl
structure CardOk (c : C) : Prop where
  w : W c.h
  bl : c.bs.length ≤ 6
  br : ∀ b ∈ c.bs, 1 ≤ b ∧ b ≤ 999
  bp : c.bs.Pairwise (· < ·)
  se : c.see = "" ∨ (c.bs = [] ∧ c.al = [] ∧ W c.see ∧ c.see ≠ c.h)
  ll : c.al.length ≤ 4
  an : c.al.Nodup
  aw : ∀ a ∈ c.al, W a ∧ a ≠ c.h
theorem number_spec (p a b : Int) : F_is_number [.int p, .int a, .int b] = some (.bl (decide (a ≤ p ∧ p ≤ b))) := by
  have h1 : isiD "int" (.int p) = some (.bl true) := rfl
  have h2 : isiD "bool" (.int p) = some (.bl false) := rfl
  unfold F_is_number runV d_is_number
  by_cases e1 : a ≤ p
  · simp -implicitDefEqProofs [h1, h2, chain2, e1]
  · simp -implicitDefEqProofs [h1, h2, chain2, e1]
theorem eqT_nil {ds : List D} (h : okD (.tup ds) = true) : eqD (.tup ds) (.tup []) = some (.bl ds.isEmpty) := by
  have h2 : okD (.tup []) = true := rfl
  unfold eqD
  rw [h, h2]
  cases ds with
  | nil => rfl
  | cons d ds => simp [pys, D.py, PyData.eqv, PyData.eqvAll]
theorem zipL_ints : ∀ a b : List Int, zipL (a.map D.int) (b.map D.int) = (a.zip b).map fun p => .tup [.int p.1, .int p.2]
  | [], b => by cases b <;> rfl
  | x :: a, [] => rfl
  | x :: a, y :: b => by simp [zipL, zipL_ints a b]
theorem zip_tail {l : List Int} (h : l.Pairwise (· < ·)) : ∀ p ∈ l.zip (l.drop 1), p.1 < p.2 := by
  cases l with
  | nil => simp
  | cons x l =>
    have key : ∀ (l : List Int) (x : Int), (x :: l).Pairwise (· < ·) → ∀ p ∈ (x :: l).zip l, p.1 < p.2 := by
      intro l
      induction l with
      | nil => intro x _ p hp; simp at hp
      | cons y l ih =>
        intro x hx p hp
        rw [List.zip_cons_cons, List.mem_cons] at hp
        rcases hp with rfl | hp
        · exact (List.pairwise_cons.mp hx).1 y (by simp)
        · exact ih y (List.pairwise_cons.mp hx).2 p hp
    simpa using key l x h
theorem books_spec (bs : List Int) (h1 : bs.length ≤ 6) (h2 : ∀ b ∈ bs, 1 ≤ b ∧ b ≤ 999) (h3 : bs.Pairwise (· < ·)) : F_are_books [.tup (bs.map D.int)] = some (.bl true) := by
  have l1 := lc_mapA (b := bName 1) (g := callD F_is_number (consD (vD 1) (consD (kD (.int 1)) (consD (kD (.int 999)) nilD)))) (vs := [1]) (ρ := [.tup (bs.map D.int), .non, .non, .non]) D.int (fun _ => .bl true) (L := bs) fun b hb =>
    ⟨[.tup (bs.map D.int), .int b, .non, .non], rfl, by
      have := h2 b hb
      simp -implicitDefEqProofs [number_spec, this], rfl⟩
  have a1 : allD [.lst (bs.map fun _ => D.bl true)] = some (.bl true) := by
    have := allD_bl (bs.map fun _ => true)
    rw [List.map_map] at this
    rw [show (bs.map fun _ => D.bl true) = bs.map (D.bl ∘ fun _ => true) from rfl, this]
    simp
  have c : cutD (bs.map D.int) (some 1) none = (bs.drop 1).map D.int := by rw [show (1 : Int) = ((1 : Nat) : Int) from rfl, cut_from, List.map_drop]
  have z : zipO [.tup (bs.map D.int), .tup ((bs.drop 1).map D.int)] = some ((bs.zip (bs.drop 1)).map fun p => .tup [.int p.1, .int p.2]) := by
    show some (zipL _ _) = _; rw [zipL_ints]
  have l2 := lc_mapA (b := bTup 2 (bCons (bName 2) (bCons (bName 3) bNil))) (g := op2 ltD (vD 2) (vD 3)) (vs := [2, 3]) (ρ := [.tup (bs.map D.int), .non, .non, .non]) (fun p : Int × Int => .tup [.int p.1, .int p.2]) (fun _ => .bl true) (L := bs.zip (bs.drop 1)) fun p hp =>
    ⟨[.tup (bs.map D.int), .non, .int p.1, .int p.2], rfl, by
      have := zip_tail h3 p hp
      simp -implicitDefEqProofs [this], rfl⟩
  have a2 : allD [.lst ((bs.zip (bs.drop 1)).map fun _ => D.bl true)] = some (.bl true) := by
    have := allD_bl ((bs.zip (bs.drop 1)).map fun _ => true)
    rw [List.map_map] at this
    rw [show ((bs.zip (bs.drop 1)).map fun _ => D.bl true) = (bs.zip (bs.drop 1)).map (D.bl ∘ fun _ => true) from rfl, this]
    simp
  have n1 : ¬ (6 : Int) < bs.length := by omega
  unfold F_are_books runV d_are_books
  simp -implicitDefEqProofs only [List.length_cons, List.length_nil, startD_ap, List.cons_append, List.nil_append, Nat.reduceAdd, Nat.reduceSub, List.replicate, if_true, seqS_ap, ifS_ap, orB_ap, asB_ap, op2_ap, callD_ap, consD_ap, nilD_ap, vD_ap, kD_ap, look_zero, look_succ, bnd_ok, bnd_ap, ret_ap, ofO_some, lenD_t, List.length_map, gtD_ii, n1, decide_false, bl1_bl, Bool.false_eq_true, if_false, notB_ap, lstM_ap, lcD_ap, itD_ap, seqOf_t, l1, a1, Bool.not_true, sb_ok, nxS_ap, sq_nx, retS_ap, zipM_ap, slM_ap, someP_ap, int1_int, noP_ap, slD_t, c, z, l2, a2, sq_rt, endV_rt]
theorem others_spec (h : Str) (al : List Str) (h1 : al.length ≤ 4) (h2 : al.Nodup) (h3 : ∀ a ∈ al, W a ∧ a ≠ h) : F_are_others [.str h, .tup (al.map D.str)] = some (.bl true) := by
  have l1 := lc_mapA (b := bName 2) (g := andD (callD F_is_word (consD (vD 2) nilD)) (op2 neD (vD 2) (vD 0))) (vs := [2]) (ρ := [.str h, .tup (al.map D.str), .non]) D.str (fun _ => .bl true) (L := al) fun a ha =>
    ⟨[.str h, .tup (al.map D.str), .str a], rfl, by
      obtain ⟨q1, q2⟩ := h3 a ha
      have q1 : F_is_word [.str a] = some (.bl true) := q1
      simp -implicitDefEqProofs [q1, neD_ss, q2], rfl⟩
  have a1 : allD [.lst (al.map fun _ => D.bl true)] = some (.bl true) := by
    have := allD_bl (al.map fun _ => true)
    rw [List.map_map] at this
    rw [show (al.map fun _ => D.bl true) = al.map (D.bl ∘ fun _ => true) from rfl, this]
    simp
  have n1 : ¬ (4 : Int) < al.length := by omega
  have n2 : ¬ (al.length : Int) < al.length := by omega
  have s1 := lenSet_strs h2 (by omega)
  unfold F_are_others runV d_are_others
  simp -implicitDefEqProofs only [List.length_cons, List.length_nil, startD_ap, List.cons_append, List.nil_append, Nat.reduceAdd, Nat.reduceSub, List.replicate, if_true, seqS_ap, ifS_ap, orB_ap, asB_ap, op2_ap, op1_ap, callD_ap, consD_ap, nilD_ap, vD_ap, kD_ap, look_zero, look_succ, bnd_ok, bnd_ap, ret_ap, ofO_some, lenD_t, List.length_map, gtD_ii, ltD_ii, n1, n2, s1, decide_false, bl1_bl, Bool.false_eq_true, if_false, lstM_ap, lcD_ap, itD_ap, seqOf_t, l1, a1, sb_ok, nxS_ap, sq_nx, retS_ap, sq_rt, endV_rt]
theorem card_spec (c : C) (h : CardOk c) : F_Card [.str c.h, .tup (c.bs.map D.int), .str c.see, .tup (c.al.map D.str)] = some [sm c] := by
  have w1 : F_is_word [.str c.h] = some (.bl true) := h.w
  have b1 := books_spec c.bs h.bl h.br h.bp
  have o1 := others_spec c.h c.al h.ll h.an h.aw
  have k1 : eqD (.tup (c.bs.map D.int)) (.tup []) = some (.bl c.bs.isEmpty) := by
    rw [eqT_nil (okD_flt (k := 1) (by omega) (flt_mapT fun _ _ => flt_int))]; simp
  have k2 : eqD (.tup (c.al.map D.str)) (.tup []) = some (.bl c.al.isEmpty) := by
    rw [eqT_nil (okD_flt (k := 1) (by omega) (flt_mapT fun _ _ => flt_str))]; simp
  unfold F_Card runI d_Card
  rcases h.se with e | ⟨e1, e2, e3, e4⟩
  · have w2 := W_no
    rw [← e] at w2
    cases hb : c.bs.isEmpty <;> cases ha : c.al.isEmpty <;>
      simp -implicitDefEqProofs [w1, b1, o1, k1, k2, hb, ha, w2, neD_ss, e, endI, sm, W_no]
  · have e3 : F_is_word [.str c.see] = some (.bl true) := e3
    have b0 : F_are_books [.tup []] = some (.bl true) := by rw [e1] at b1; exact b1
    have o0 : F_are_others [.str c.h, .tup []] = some (.bl true) := by rw [e2] at o1; exact o1
    have t0 : eqD (.tup []) (.tup []) = some (.bl true) := rfl
    by_cases q : c.see = ""
    · rw [q] at e3; rw [W_no] at e3; simp at e3
    · simp -implicitDefEqProofs [w1, b0, o0, t0, e1, e2, e3, neD_ss, e4, q, endI, sm]
theorem mkCard (c : C) (h : CardOk c) : makeD "Card" F_Card [.str c.h, .tup (c.bs.map D.int), .str c.see, .tup (c.al.map D.str)] = some (cd c) := by
  unfold makeD; rw [card_spec c h]; rfl
theorem mkDrawer0 (cs : List D) (h : cs.length ≤ 16) : F_Drawer [.tup cs] = some [.tup cs] := by
  unfold F_Drawer runI d_Drawer
  have : ¬ (16 : Int) < cs.length := by omega
  simp [this, endI]
theorem mkDrawer (cs : List C) (hn : cs.length ≤ 16) : makeD "Drawer" F_Drawer [.tup (cs.map cd)] = some (dr cs) := by
  unfold makeD
  rw [mkDrawer0 _ (by simpa using hn)]
  rfl
end MP.k61
namespace MP.k61
open PySem L2 MP
theorem heading_spec (c : C) : F_Card_heading [cd c] = some (.str c.h) := by
  unfold F_Card_heading runV d_Card_heading
  simp [cd, sm]
theorem cards_spec (cs : List C) : F_Drawer_cards [dr cs] = some (.tup (cs.map cd)) := by
  unfold F_Drawer_cards runV d_Drawer_cards
  simp [dr]
theorem hd_of (c : C) : isC "Card" F_Card_heading [] (cd c) = some (.str c.h) := by
  have : isC "Card" F_Card_heading [] (cd c) = F_Card_heading [cd c] := by unfold cd; rw [isC_ins, if_pos rfl]
  rw [this, heading_spec]
theorem cs_of (cs : List C) : isC "Drawer" F_Drawer_cards [] (dr cs) = some (.tup (cs.map cd)) := by
  have : isC "Drawer" F_Drawer_cards [] (dr cs) = F_Drawer_cards [dr cs] := by unfold dr; rw [isC_ins, if_pos rfl]
  rw [this, cards_spec]
end MP.k61
namespace MP.k61
open PySem L2 MP
/-! the program's lookups -/
theorem body_halves (cs : List C) (h : Str) (lo hi mid : Nat) (met : List Nat) (t e : D) (hm : mid < cs.length) (em : ((lo : Int) + ((hi : Int) - 1)) / 2 = mid) (hml : met.length < 2000) :
    b1_by_halves [dr cs, .str h, .lst (encL met), .int lo, .int ((hi : Int) - 1), t, e] =
      if cs[mid].h = h then .rt (encR (some mid, met ++ [mid])) [dr cs, .str h, .lst (encL (met ++ [mid])), .int lo, .int ((hi : Int) - 1), .int mid, .str cs[mid].h]
      else if ltS h cs[mid].h then .nx [dr cs, .str h, .lst (encL (met ++ [mid])), .int lo, .int ((mid : Int) - 1), .int mid, .str cs[mid].h]
      else .nx [dr cs, .str h, .lst (encL (met ++ [mid])), .int (mid + 1 : Nat), .int ((hi : Int) - 1), .int mid, .str cs[mid].h] := by
  have ap : app1 2 (.int mid) [dr cs, .str h, .lst (encL met), .int lo, .int ((hi : Int) - 1), .int mid, e] = .nx [dr cs, .str h, .lst (encL (met ++ [mid])), .int lo, .int ((hi : Int) - 1), .int mid, e] := by
    rw [app1_of (rs := encL met) rfl (by simp; omega), encL_snoc]; rfl
  unfold b1_by_halves
  by_cases e1 : cs[mid].h = h
  · simp -implicitDefEqProofs [eqD_ss, divC, em, ap, cd_at cs hm, hd_of, cs_of, e1, encR, encO]
  · by_cases e2 : ltS h cs[mid].h
    · simp at e2
      simp -implicitDefEqProofs [eqD_ss, divC, em, ap, cd_at cs hm, hd_of, cs_of, e1, e2]
    · have e2' : ¬ (h.cps < cs[mid].h.cps) := fun z => e2 (by simpa using z)
      simp -implicitDefEqProofs [eqD_ss, divC, em, ap, cd_at cs hm, hd_of, cs_of, e1, e2']
theorem halves (cs : List C) (h : Str) : ∀ (n lo hi : Nat) (met : List Nat) (t e : D), hi ≤ cs.length → hi - lo < n → met.length + (hi - lo) ≤ 2000 →
    (∃ ρ, whileS (asB (op2 leD (vD 3) (vD 4))) b1_by_halves n [dr cs, .str h, .lst (encL met), .int lo, .int ((hi : Int) - 1), t, e] = .rt (encR (half (cs.map C.h) h lo hi met)) ρ) ∨
    (∃ met' lo' hi' t' e', half (cs.map C.h) h lo hi met = (none, met') ∧ whileS (asB (op2 leD (vD 3) (vD 4))) b1_by_halves n [dr cs, .str h, .lst (encL met), .int lo, .int ((hi : Int) - 1), t, e] = .nx [dr cs, .str h, .lst (encL met'), lo', hi', t', e'])
  | 0, lo, hi, met, t, e, _, h2, _ => by omega
  | n + 1, lo, hi, met, t, e, h1, h2, h3 => by
    rw [half]
    by_cases hlt : lo < hi
    · obtain ⟨mid, em⟩ : ∃ mid, mid = (lo + hi - 1) / 2 := ⟨_, rfl⟩
      rw [← em, dif_pos hlt]
      have hm : mid < cs.length := by omega
      have eg : (cs.map C.h).getD mid h = cs[mid].h := by simp [List.getD_eq_getElem?_getD, hm]
      have hc : asB (op2 leD (vD 3) (vD 4)) [dr cs, .str h, .lst (encL met), .int lo, .int ((hi : Int) - 1), t, e] = .ok true [dr cs, .str h, .lst (encL met), .int lo, .int ((hi : Int) - 1), t, e] := by
        have : (lo : Int) ≤ (hi : Int) - 1 := by omega
        simp [this]
      rw [while_step hc, body_halves cs h lo hi mid met t e hm (by omega) (by omega), eg]
      by_cases e1 : cs[mid].h = h
      · rw [if_pos e1, if_pos e1]; exact .inl ⟨_, rfl⟩
      · rw [if_neg e1, if_neg e1]
        by_cases e2 : ltS h cs[mid].h
        · rw [if_pos e2, if_pos e2, lp_nx]
          exact halves cs h n lo mid (met ++ [mid]) _ _ (by omega) (by omega) (by simp; omega)
        · rw [if_neg e2, if_neg e2, lp_nx]
          exact halves cs h n (mid + 1) hi (met ++ [mid]) _ _ h1 (by omega) (by simp; omega)
    · have hc : asB (op2 leD (vD 3) (vD 4)) [dr cs, .str h, .lst (encL met), .int lo, .int ((hi : Int) - 1), t, e] = .ok false [dr cs, .str h, .lst (encL met), .int lo, .int ((hi : Int) - 1), t, e] := by
        have : ¬ (lo : Int) ≤ (hi : Int) - 1 := by omega
        simp [this]
      rw [dif_neg hlt, while_end hc]
      exact .inr ⟨met, _, _, _, _, rfl, rfl⟩
theorem by_halves_spec (cs : List C) (h : Str) (hn : cs.length < 1000) : F_by_halves [dr cs, .str h] = some (encR (half (cs.map C.h) h 0 cs.length [])) := by
  unfold F_by_halves runV d_by_halves
  generalize hN : (1000000 : Nat) = N
  have hN' : cs.length - 0 < N := by omega
  rcases halves cs h N 0 cs.length [] .non .non (by omega) hN' (by simp; omega) with ⟨ρ, e⟩ | ⟨met', lo', hi', t', e', e1, e2⟩
  · have e : whileS (asB (op2 leD (vD 3) (vD 4))) b1_by_halves N [dr cs, .str h, .lst [], .int 0, .int ((cs.length : Int) - 1), .non, .non] = .rt (encR (half (cs.map C.h) h 0 cs.length [])) ρ := e
    simp -implicitDefEqProofs [cs_of, e]
  · have e2 : whileS (asB (op2 leD (vD 3) (vD 4))) b1_by_halves N [dr cs, .str h, .lst [], .int 0, .int ((cs.length : Int) - 1), .non, .non] = .nx [dr cs, .str h, .lst (encL met'), lo', hi', t', e'] := e2
    rw [e1]
    simp -implicitDefEqProofs [cs_of, e2, encR, encO]
theorem body_obo (cs : List C) (h : Str) (x : C) (leaf : Bool) (i : Nat) (hi : i < 1000) :
    b1_one_by_one [dr cs, .str h, .bl leaf, .int i, cd x] =
      if x.h = h then .rt (encR (some i, List.range (i + 1))) [dr cs, .str h, .bl leaf, .int i, cd x]
      else if leaf = true ∧ ltS h x.h then .rt (encR (none, List.range (i + 1))) [dr cs, .str h, .bl leaf, .int i, cd x]
      else .nx [dr cs, .str h, .bl leaf, .int i, cd x] := by
  unfold b1_one_by_one
  by_cases e1 : x.h = h
  · simp -implicitDefEqProofs [eqD_ss, hd_of, e1, encR, encO, rg_enc i hi]
  · cases leaf with
    | false => simp -implicitDefEqProofs [eqD_ss, hd_of, e1]
    | true =>
      by_cases e2 : ltS h x.h
      · simp at e2
        simp -implicitDefEqProofs [eqD_ss, hd_of, e1, e2, encR, encO, rg_enc i hi]
      · have e2' : ¬ (h.cps < x.h.cps) := fun z => e2 (by simpa using z)
        simp -implicitDefEqProofs [eqD_ss, hd_of, e1, e2']
theorem obo (cs : List C) (h : Str) (leaf : Bool) : ∀ (r : List C) (i : Nat) (t e : D), i + r.length < 1000 →
    (∃ ρ, forL (bTup 2 (bCons (bName 3) (bCons (bName 4) bNil))) b1_one_by_one (enumL i (r.map cd)) [dr cs, .str h, .bl leaf, t, e] = .rt (encR (scan leaf h (r.map C.h) i)) ρ) ∨
    (scan leaf h (r.map C.h) i = (none, List.range (i + r.length)) ∧ ∃ t' e', forL (bTup 2 (bCons (bName 3) (bCons (bName 4) bNil))) b1_one_by_one (enumL i (r.map cd)) [dr cs, .str h, .bl leaf, t, e] = .nx [dr cs, .str h, .bl leaf, t', e'])
  | [], i, t, e, _ => .inr ⟨rfl, t, e, rfl⟩
  | x :: r, i, t, e, hl => by
    simp only [List.length_cons] at hl
    have es : enumL i ((x :: r).map cd) = .tup [.int (i : Nat), cd x] :: enumL (i + 1) (r.map cd) := rfl
    rw [es, forL_cons (ρ1 := [dr cs, .str h, .bl leaf, .int (i : Nat), cd x]) rfl, body_obo cs h x leaf i (by omega), List.map_cons]
    unfold scan
    by_cases e1 : x.h = h
    · rw [if_pos e1, if_pos e1]; exact .inl ⟨_, rfl⟩
    · rw [if_neg e1, if_neg e1]
      by_cases e2 : leaf = true ∧ ltS h x.h
      · rw [if_pos e2, if_pos e2]; exact .inl ⟨_, rfl⟩
      · rw [if_neg e2, if_neg e2, lp_nx]
        have := obo cs h leaf r (i + 1) (.int (i : Nat)) (cd x) (by omega)
        rw [show i + (x :: r).length = i + 1 + r.length by simp; omega]
        exact this
theorem obo_spec (cs : List C) (h : Str) (leaf : Bool) (hn : cs.length < 1000) : F_one_by_one [dr cs, .str h, .bl leaf] = some (encR (scan leaf h (cs.map C.h) 0)) := by
  unfold F_one_by_one runV d_one_by_one
  rcases obo cs h leaf cs 0 .non .non (by omega) with ⟨ρ, e⟩ | ⟨e1, t', e', e2⟩
  · simp -implicitDefEqProofs [cs_of, e]
  · rw [e1]
    simp -implicitDefEqProofs [cs_of, e2, encR, encO, rg_enc' cs.length hn]
theorem looked_up_spec (cs : List C) (rule h : Str) (hn : cs.length < 1000) : F_looked_up [dr cs, .str rule, .str h] = some (encR (lk rule (cs.map C.h) h)) := by
  unfold F_looked_up runV d_looked_up lk
  rw [List.length_map]
  by_cases hr : rule = "half"
  · simp -implicitDefEqProofs [eqD_ss, hr, by_halves_spec cs h hn]
  · simp -implicitDefEqProofs [eqD_ss, hr, obo_spec cs h _ hn]
end MP.k61
namespace MP.k61
open PySem L2 MP
/-! headings of a drawer -/
end MP.k61
namespace MP.k61
open PySem L2 MP
/-! check_rule -/
theorem check_rule_spec (rule : Str) (hr : rule = "all" ∨ rule = "leaf" ∨ rule = "half") : F_check_rule [.str rule] = some .non := by
  rcases hr with rfl | rfl | rfl <;> rfl
end MP.k61
namespace MP.k61
open PySem L2 MP
/-! check_heading -/
end MP.k61
namespace MP.k61
open PySem L2 MP
/-! filed drawers, equality -/
theorem srt_cd (cs : List C) : sortLO (op1 (isC "Card" F_Card_heading []) (vD 0)) (.tup (cs.map cd)) = if cs.length ≤ 16000000 then some ((cs.mergeSort fun a b => leS a.h b.h).map cd) else none := by
  have k : ∀ l : List C, keysH (op1 (isC "Card" F_Card_heading []) (vD 0)) (l.map cd) = some (l.map C.h) := fun l => by
    induction l with
    | nil => rfl
    | cons c l ih =>
      have e : keyH (op1 (isC "Card" F_Card_heading []) (vD 0)) (cd c) = some c.h := by
        unfold keyH
        simp -implicitDefEqProofs [hd_of]
      have : keysH (op1 (isC "Card" F_Card_heading []) (vD 0)) ((c :: l).map cd) = (keyH (op1 (isC "Card" F_Card_heading []) (vD 0)) (cd c)).bind fun z => (keysH (op1 (isC "Card" F_Card_heading []) (vD 0)) (l.map cd)).map (z :: ·) := rfl
      rw [this, ih, e]; rfl
  unfold sortLO
  rw [items_t]
  simp only [Option.bind_some, List.length_map, k, Option.map_some]
  split
  · congr 1
    unfold sortBy
    have : (cs.map cd).zip (cs.map C.h) = cs.map fun c => (cd c, c.h) := by
      clear k
      rename_i hq
      clear hq
      induction cs with
      | nil => rfl
      | cons c l ih => simp [ih]
    rw [this, ← List.map_mergeSort (r := fun a b => leS a.h b.h) (fun a _ b _ => rfl), List.map_map]
    rfl
  · rfl
def fl (cs : List C) : List C := cs.mergeSort fun a b => leS a.h b.h
theorem fl_len (cs : List C) : (fl cs).length = cs.length := List.length_mergeSort ..
theorem fl_mem {cs : List C} {c : C} : c ∈ fl cs ↔ c ∈ cs := List.mem_mergeSort
theorem sortLM_ap' {h g : M D} {ρ : Env} : sortLM h g ρ = (g ρ).bnd fun d => ofO (sortLO h d) := rfl
end MP.k61
namespace MP.k61
open PySem L2 MP
/-! draws of the second part: cards, drawers, rules -/
theorem lc_draw {α : Type} {b : Bd} {c : M Bool} {g : M D} {vs : List Nat} (enc : α → D) (I : Env → Prop) (R : α → D → Prop) : ∀ (L : List α) (acc : List D) (ρ : Env), I ρ →
    (∀ a ∈ L, ∀ ρ, I ρ → ∃ ρ1, b (enc a) ρ = some ρ1 ∧ ∃ t ρ2, c ρ1 = .ok t ρ2 ∧ (t = true → ∃ y ρ3, g ρ2 = .ok y ρ3 ∧ I (restore vs ρ ρ3) ∧ R a y) ∧ (t = false → I (restore vs ρ ρ2))) →
    ∃ (S : List (α × D)) (ρ' : Env), lcL b c g vs (L.map enc) ρ acc = .ok (acc ++ S.map fun p => p.2) ρ' ∧ I ρ' ∧ (S.map fun p => p.1).Sublist L ∧ ∀ p ∈ S, R p.1 p.2
  | [], acc, ρ, h, _ => ⟨[], ρ, by simp [lcL], h, by simp, by simp⟩
  | a :: L, acc, ρ, h, st => by
    obtain ⟨ρ1, e1, t, ρ2, e2, ht, hf⟩ := st a (by simp) ρ h
    cases t with
    | true =>
      obtain ⟨y, ρ3, e3, h3, r⟩ := ht rfl
      obtain ⟨S, ρ', e4, h4, sb, rr⟩ := lc_draw enc I R L (acc ++ [y]) _ h3 fun x hx => st x (by simp [hx])
      refine ⟨(a, y) :: S, ρ', ?_, h4, by simpa using sb, fun p hp => ?_⟩
      · rw [List.map_cons]
        unfold lcL
        rw [e1]
        simp only
        rw [e2]
        simp only
        rw [e3]
        simp only
        rw [e4]
        simp
      · rcases List.mem_cons.mp hp with rfl | hp
        · exact r
        · exact rr p hp
    | false =>
      obtain ⟨S, ρ', e4, h4, sb, rr⟩ := lc_draw enc I R L acc _ (hf rfl) fun x hx => st x (by simp [hx])
      refine ⟨S, ρ', ?_, h4, sb.cons _, rr⟩
      rw [List.map_cons]
      unfold lcL
      rw [e1]
      simp only
      rw [e2]
      simp only
      rw [e4]
/-- the row as it is drawn from, the other slots -/
def DrS (ns : List Int) (rest : List D) (ρ : Env) : Prop := ∃ i s r, 0 ≤ i ∧ ρ = .lst (rowD ns i s r) :: rest
abbrev five : List Str := ["ant", "bee", "cat", "dog", "elk"]
abbrev six : List Str := ["ant", "bee", "cat", "dog", "elk", "fox"]
abbrev bks : List Int := [1, 2, 3, 300]
theorem W_six : ∀ s ∈ six, W s := by
  intro s hs
  simp only [six, List.mem_cons, List.not_mem_nil, or_false] at hs
  rcases hs with rfl | rfl | rfl | rfl | rfl | rfl <;> rfl
theorem five_six : ∀ s ∈ five, s ∈ six := by decide
/-- a card as the law draws it -/
structure Drawn (c : C) : Prop where
  ok : CardOk c
  h : c.h ∈ five
  see : c.see = "" ∨ c.see ∈ six
  al : ∀ a ∈ c.al, a ∈ six
  bl : c.bs.length ≤ 4
  br : ∀ b ∈ c.bs, b ∈ bks
def oth (h : Str) : List Str := six.filter fun x => !decide (x = h)
theorem oth_mem {h x : Str} : x ∈ oth h ↔ x ∈ six ∧ x ≠ h := by unfold oth; simp
theorem oth_len : ∀ h ∈ five, (oth h).length = 5 := by decide
theorem oth_nd (h : Str) : (oth h).Nodup := by unfold oth; exact (show six.Nodup by decide).sublist List.filter_sublist
theorem drS_takes {ns : List Int} {rest : List D} {m : Nat} {j k : Int} {i s r : Int} (hi : 0 ≤ i) (hm : 0 < m) (hm2 : m < 1073741824) (ej : j = m) :
    ∃ (n : Nat) (i' s' r' : Int), n < m ∧ 0 ≤ i' ∧ asB (op2 eqD (callR F__law_taken 0 (consD (kD (.int j)) nilD)) (kD (.int k))) (.lst (rowD ns i s r) :: rest) = .ok (decide ((n : Int) = k)) (.lst (rowD ns i' s' r') :: rest) := by
  obtain ⟨n, i', s', r', e1, h1, h2⟩ := takenC ns (m := j) m 0 (ρ := .lst (rowD ns i s r) :: rest) rfl hi hm hm2 ej
  have e1 : callR1 F__law_taken 0 [.int j] (.lst (rowD ns i s r) :: rest) = .ok (.int n) (.lst (rowD ns i' s' r') :: rest) := e1
  refine ⟨n, i', s', r', h1, h2, ?_⟩
  simp -implicitDefEqProofs [e1, eqD_ii]
theorem rule2_spec (ns : List Int) (i s r : Int) (hi : 0 ≤ i) : ∃ rule i' s' r', F__law_rule (rowD ns i s r) [] = some (.str rule, rowD ns i' s' r') ∧ (rule = "all" ∨ rule = "leaf" ∨ rule = "half") ∧ 0 ≤ i' := by
  obtain ⟨n, i', s', r', e1, h1, h2⟩ := takenC ns (m := 3) 3 0 (ρ := [.lst (rowD ns i s r)]) rfl hi (by omega) (by omega)
  have e1 : callR1 F__law_taken 0 [.int 3] [.lst (rowD ns i s r)] = .ok (.int n) [.lst (rowD ns i' s' r')] := e1
  unfold F__law_rule runR d__law_rule
  have hn : n = 0 ∨ n = 1 ∨ n = 2 := by omega
  rcases hn with rfl | rfl | rfl
  · exact ⟨"all", i', s', r', by simp -implicitDefEqProofs [e1], by simp, h2⟩
  · exact ⟨"half", i', s', r', by simp -implicitDefEqProofs [e1], by simp, h2⟩
  · exact ⟨"leaf", i', s', r', by simp -implicitDefEqProofs [e1], by simp, h2⟩
theorem rule2C (ns : List Int) {i s r : Int} (j : Nat) {ρ : Env} (hρ : look ρ j = .lst (rowD ns i s r)) (hi : 0 ≤ i) :
    ∃ (rule : Str) (i' s' r' : Int), callR1 F__law_rule j [] ρ = .ok (.str rule) (ρ.set j (.lst (rowD ns i' s' r'))) ∧ (rule = "all" ∨ rule = "leaf" ∨ rule = "half") ∧ 0 ≤ i' := by
  obtain ⟨rule, i', s', r', h1, h2, h3⟩ := rule2_spec ns i s r hi
  exact ⟨rule, i', s', r', callR1_of hρ h1, h2, h3⟩
theorem subl_of {α : Type} {S : List (α × D)} {enc : α → D} (h : ∀ p ∈ S, p.2 = enc p.1) : (S.map fun p => p.2) = (S.map fun p => p.1).map enc := by
  rw [List.map_map]
  exact List.map_congr_left fun p hp => h p hp
theorem card2_spec (ns : List Int) (i s r : Int) (hi : 0 ≤ i) : ∃ c i' s' r', F__law_card (rowD ns i s r) [] = some (cd c, rowD ns i' s' r') ∧ Drawn c ∧ 0 ≤ i' := by
  obtain ⟨n1, i1, s1, r1, e1, h1, hi1⟩ := takenC ns (m := 5) 5 0 (ρ := [.lst (rowD ns i s r), .lst (five.map D.str), .non, .non, .non, .non, .non, .non]) rfl hi (by omega) (by omega)
  have e1 : callR1 F__law_taken 0 [.int 5] [.lst (rowD ns i s r), .lst (five.map D.str), .non, .non, .non, .non, .non, .non] = .ok (.int n1) [.lst (rowD ns i1 s1 r1), .lst (five.map D.str), .non, .non, .non, .non, .non, .non] := e1
  obtain ⟨n2, i2, s2, r2, e2, h2, hi2⟩ := takenC ns (m := 3) 3 0 (ρ := [.lst (rowD ns i1 s1 r1), .lst (five.map D.str), .non, .non, .non, .non, .non, .non]) rfl hi1 (by omega) (by omega)
  have e2 : callR1 F__law_taken 0 [.int 3] [.lst (rowD ns i1 s1 r1), .lst (five.map D.str), .non, .non, .non, .non, .non, .non] = .ok (.int n2) [.lst (rowD ns i2 s2 r2), .lst (five.map D.str), .non, .non, .non, .non, .non, .non] := e2
  obtain ⟨nm, hnm⟩ : ∃ nm, nm = five[n1]'(by simpa using h1) := ⟨_, rfl⟩
  have hm : nm ∈ five := by rw [hnm]; exact List.getElem_mem _
  have ix : ixD (.lst (five.map D.str)) (.int n1) = some (.str nm) := by
    have hl : n1 < five.length := by simpa using h1
    rw [ixD_l, atI_nat' (by simpa using h1), hnm, List.getElem?_map, List.getElem?_eq_getElem hl]; rfl
  have ix : ixD (.lst [.str "ant", .str "bee", .str "cat", .str "dog", .str "elk"]) (.int n1) = some (.str nm) := ix
  have e1 : callR1 F__law_taken 0 [.int 5] [.lst (rowD ns i s r), .lst [.str "ant", .str "bee", .str "cat", .str "dog", .str "elk"], .non, .non, .non, .non, .non, .non] = .ok (.int n1) [.lst (rowD ns i1 s1 r1), .lst [.str "ant", .str "bee", .str "cat", .str "dog", .str "elk"], .non, .non, .non, .non, .non, .non] := e1
  have e2 : callR1 F__law_taken 0 [.int 3] [.lst (rowD ns i1 s1 r1), .lst [.str "ant", .str "bee", .str "cat", .str "dog", .str "elk"], .non, .non, .non, .non, .non, .non] = .ok (.int n2) [.lst (rowD ns i2 s2 r2), .lst [.str "ant", .str "bee", .str "cat", .str "dog", .str "elk"], .non, .non, .non, .non, .non, .non] := e2
  have hw := W_six nm (five_six nm hm)
  have l1 := lc_mapF (b := bName 6) (c := asB (op2 neD (vD 6) (vD 2))) (g := vD 6) (vs := [6]) (ρ := [.lst (rowD ns i2 s2 r2), .lst [.str "ant", .str "bee", .str "cat", .str "dog", .str "elk"], .str nm, .int n2, .non, .non, .non, .non]) D.str (fun x => !decide (x = nm)) D.str (L := six) fun a ha =>
    ⟨[.lst (rowD ns i2 s2 r2), .lst [.str "ant", .str "bee", .str "cat", .str "dog", .str "elk"], .str nm, .int n2, .non, .non, .str a, .non], rfl, by simp -implicitDefEqProofs [neD_ss], fun _ => rfl, rfl⟩
  have l1 : lcL (bName 6) (asB (op2 neD (vD 6) (vD 2))) (vD 6) [6] [.str "ant", .str "bee", .str "cat", .str "dog", .str "elk", .str "fox"] [.lst (rowD ns i2 s2 r2), .lst [.str "ant", .str "bee", .str "cat", .str "dog", .str "elk"], .str nm, .int n2, .non, .non, .non, .non] [] = .ok ((oth nm).map D.str) [.lst (rowD ns i2 s2 r2), .lst [.str "ant", .str "bee", .str "cat", .str "dog", .str "elk"], .str nm, .int n2, .non, .non, .non, .non] := l1
  have ad : addD (.lst [.str "ant", .str "bee", .str "cat", .str "dog", .str "elk"]) (.lst [.str "fox"]) = some (.lst [.str "ant", .str "bee", .str "cat", .str "dog", .str "elk", .str "fox"]) := rfl
  have ol := oth_len nm hm
  by_cases hp : n2 = 0
  · -- a see card
    subst hp
    have e2 : callR1 F__law_taken 0 [.int 3] [.lst (rowD ns i1 s1 r1), .lst [.str "ant", .str "bee", .str "cat", .str "dog", .str "elk"], .non, .non, .non, .non, .non, .non] = .ok (.int 0) [.lst (rowD ns i2 s2 r2), .lst [.str "ant", .str "bee", .str "cat", .str "dog", .str "elk"], .non, .non, .non, .non, .non, .non] := e2
    have l1 : lcL (bName 6) (asB (op2 neD (vD 6) (vD 2))) (vD 6) [6] [.str "ant", .str "bee", .str "cat", .str "dog", .str "elk", .str "fox"] [.lst (rowD ns i2 s2 r2), .lst [.str "ant", .str "bee", .str "cat", .str "dog", .str "elk"], .str nm, .int 0, .non, .non, .non, .non] [] = .ok ((oth nm).map D.str) [.lst (rowD ns i2 s2 r2), .lst [.str "ant", .str "bee", .str "cat", .str "dog", .str "elk"], .str nm, .int 0, .non, .non, .non, .non] := l1
    obtain ⟨n3, i3, s3, r3, e3, h3, hi3⟩ := takenC ns (m := 5) 5 0 (ρ := [.lst (rowD ns i2 s2 r2), .lst [.str "ant", .str "bee", .str "cat", .str "dog", .str "elk"], .str nm, .int 0, .lst ((oth nm).map D.str), .non, .non, .non]) rfl hi2 (by omega) (by omega)
    have e3 : callR1 F__law_taken 0 [.int 5] [.lst (rowD ns i2 s2 r2), .lst [.str "ant", .str "bee", .str "cat", .str "dog", .str "elk"], .str nm, .int 0, .lst ((oth nm).map D.str), .non, .non, .non] = .ok (.int n3) [.lst (rowD ns i3 s3 r3), .lst [.str "ant", .str "bee", .str "cat", .str "dog", .str "elk"], .str nm, .int 0, .lst ((oth nm).map D.str), .non, .non, .non] := e3
    obtain ⟨sn, hsn⟩ : ∃ sn, sn = (oth nm)[n3]'(by omega) := ⟨_, rfl⟩
    have sm' : sn ∈ oth nm := by rw [hsn]; exact List.getElem_mem _
    obtain ⟨q1, q2⟩ := oth_mem.mp sm'
    have ix2 : ixD (.lst ((oth nm).map D.str)) (.int n3) = some (.str sn) := by
      rw [ixD_l, atI_nat' (by simp; omega), hsn]; simp
    have ok : CardOk ⟨nm, [], sn, []⟩ := ⟨hw, by simp, by simp, by simp, .inr ⟨rfl, rfl, W_six sn q1, q2⟩, by simp, by simp, by simp⟩
    have mk := mkCard ⟨nm, [], sn, []⟩ ok
    have mk : makeD "Card" F_Card [.str nm, .tup [], .str sn, .tup []] = some (cd ⟨nm, [], sn, []⟩) := mk
    refine ⟨⟨nm, [], sn, []⟩, i3, s3, r3, ?_, ⟨ok, hm, .inr q1, by simp, by simp, by simp⟩, hi3⟩
    unfold F__law_card runR d__law_card
    simp -implicitDefEqProofs only [List.length_cons, List.length_nil, startD_ap, List.cons_append, List.nil_append, Nat.reduceAdd, Nat.reduceSub, List.replicate, if_true, seqS_ap, setS_ap, lstM_ap, lstD_ap, consD_ap, nilD_ap, vD_ap, kD_ap, look_zero, look_succ, bnd_ok, bnd_ap, ret_ap, ofO_some, szO_5, szO_4, szO_2, szO_1, szO_nil, sb_ok, List.set_cons_succ, List.set_cons_zero, sq_nx, unpS_ap, tupD_ap, op2_ap, callR_ap, e1, ix, e2, bTup_ap, bCons_ap, bName_ap, bNil_ap, Option.bind_some, setLS_ap, lcD_ap, itD_ap, ad, seqOf_l, seqOf_t, l1, ifS_ap, asB_ap, eqD_ii, decide_true, bl1_bl, retS_ap, callD_ap, ixOwn_ap, mk, sq_rt, endR_rt, backR_l, e3, ix2]
  · have hp' : ¬ ((n2 : Int) = 0) := by omega
    obtain ⟨S1, ρ1, e3, ⟨i3, s3, r3, hi3, rfl⟩, sb1, rr1⟩ := lc_draw (b := bName 6) (c := asB (op2 eqD (callR F__law_taken 0 (consD (kD (.int 4)) nilD)) (kD (.int 0)))) (g := vD 6) (vs := [6]) D.str (DrS ns [.lst [.str "ant", .str "bee", .str "cat", .str "dog", .str "elk"], .str nm, .int n2, .lst ((oth nm).map D.str), .non, .non, .non]) (fun a y => y = .str a) (oth nm) []
      [.lst (rowD ns i2 s2 r2), .lst [.str "ant", .str "bee", .str "cat", .str "dog", .str "elk"], .str nm, .int n2, .lst ((oth nm).map D.str), .non, .non, .non] ⟨i2, s2, r2, hi2, rfl⟩ (fun a ha ρ ⟨i, s, r, hi, er⟩ => by
        subst er
        obtain ⟨n, i', s', r', h1, h2, e⟩ := drS_takes (ns := ns) (rest := [.lst [.str "ant", .str "bee", .str "cat", .str "dog", .str "elk"], .str nm, .int n2, .lst ((oth nm).map D.str), .non, .str a, .non]) (m := 4) (j := 4) (k := 0) (i := i) (s := s) (r := r) hi (by omega) (by omega) rfl
        exact ⟨_, rfl, _, _, e, fun _ => ⟨.str a, _, rfl, ⟨i', s', r', h2, rfl⟩, rfl⟩, fun _ => ⟨i', s', r', h2, rfl⟩⟩)
    have m1 := subl_of (enc := D.str) rr1
    obtain ⟨al, hal⟩ : ∃ al, al = S1.map fun p => p.1 := ⟨_, rfl⟩
    rw [m1, ← hal, List.nil_append] at e3
    rw [← hal] at sb1
    have al4 : ∀ a ∈ al.take 4, a ∈ oth nm := fun a ha => sb1.subset (List.mem_of_mem_take ha)
    have cu : cutD (al.map D.str) none (some 4) = (al.take 4).map D.str := by rw [show (4 : Int) = ((4 : Nat) : Int) from rfl, cut_to, List.map_take]
    obtain ⟨S2, ρ2, e4, ⟨i4, s4, r4, hi4, rfl⟩, sb2, rr2⟩ := lc_draw (b := bName 7) (c := asB (op2 eqD (callR F__law_taken 0 (consD (kD (.int 3)) nilD)) (kD (.int 0)))) (g := vD 7) (vs := [7]) D.int (DrS ns [.lst [.str "ant", .str "bee", .str "cat", .str "dog", .str "elk"], .str nm, .int n2, .lst ((oth nm).map D.str), .tup ((al.take 4).map D.str), .non, .non]) (fun a y => y = .int a) bks []
      [.lst (rowD ns i3 s3 r3), .lst [.str "ant", .str "bee", .str "cat", .str "dog", .str "elk"], .str nm, .int n2, .lst ((oth nm).map D.str), .tup ((al.take 4).map D.str), .non, .non] ⟨i3, s3, r3, hi3, rfl⟩ (fun a ha ρ ⟨i, s, r, hi, er⟩ => by
        subst er
        obtain ⟨n, i', s', r', h1, h2, e⟩ := drS_takes (ns := ns) (rest := [.lst [.str "ant", .str "bee", .str "cat", .str "dog", .str "elk"], .str nm, .int n2, .lst ((oth nm).map D.str), .tup ((al.take 4).map D.str), .non, .int a]) (m := 3) (j := 3) (k := 0) (i := i) (s := s) (r := r) hi (by omega) (by omega) rfl
        exact ⟨_, rfl, _, _, e, fun _ => ⟨.int a, _, rfl, ⟨i', s', r', h2, rfl⟩, rfl⟩, fun _ => ⟨i', s', r', h2, rfl⟩⟩)
    have m2 := subl_of (enc := D.int) rr2
    obtain ⟨bs, hbs⟩ : ∃ bs, bs = S2.map fun p => p.1 := ⟨_, rfl⟩
    rw [m2, ← hbs, List.nil_append] at e4
    rw [← hbs] at sb2
    have e4 : lcL (bName 7) (asB (op2 eqD (callR F__law_taken 0 (consD (kD (.int 3)) nilD)) (kD (.int 0)))) (vD 7) [7] [.int 1, .int 2, .int 3, .int 300] [.lst (rowD ns i3 s3 r3), .lst [.str "ant", .str "bee", .str "cat", .str "dog", .str "elk"], .str nm, .int n2, .lst ((oth nm).map D.str), .tup ((al.take 4).map D.str), .non, .non] [] = .ok (bs.map D.int) [.lst (rowD ns i4 s4 r4), .lst [.str "ant", .str "bee", .str "cat", .str "dog", .str "elk"], .str nm, .int n2, .lst ((oth nm).map D.str), .tup ((al.take 4).map D.str), .non, .non] := e4
    have bm : ∀ b ∈ bs, b ∈ bks := fun b hb => sb2.subset hb
    have bl : bs.length ≤ 4 := sb2.length_le
    have ok : CardOk ⟨nm, bs, "", al.take 4⟩ := ⟨hw, by show bs.length ≤ 6; omega, fun b hb => by
      have := bm b hb
      simp only [bks, List.mem_cons, List.not_mem_nil, or_false] at this
      rcases this with rfl | rfl | rfl | rfl <;> decide, List.Pairwise.sublist sb2 (by decide), .inl rfl, by simp; omega, ((oth_nd nm).sublist sb1).sublist (List.take_sublist _ _), fun a ha => ⟨W_six a (oth_mem.mp (al4 a ha)).1, (oth_mem.mp (al4 a ha)).2⟩⟩
    have mk := mkCard ⟨nm, bs, "", al.take 4⟩ ok
    have mk : makeD "Card" F_Card [.str nm, .tup (bs.map D.int), .str "", .tup ((al.take 4).map D.str)] = some (cd ⟨nm, bs, "", al.take 4⟩) := mk
    refine ⟨⟨nm, bs, "", al.take 4⟩, i4, s4, r4, ?_, ⟨ok, hm, .inl rfl, fun a ha => (oth_mem.mp (al4 a ha)).1, bl, bm⟩, hi4⟩
    unfold F__law_card runR d__law_card
    simp -implicitDefEqProofs only [List.length_cons, List.length_nil, startD_ap, List.cons_append, List.nil_append, Nat.reduceAdd, Nat.reduceSub, List.replicate, if_true, seqS_ap, setS_ap, lstM_ap, lstD_ap, consD_ap, nilD_ap, vD_ap, kD_ap, look_zero, look_succ, bnd_ok, bnd_ap, ret_ap, ofO_some, szO_5, szO_4, szO_2, szO_1, szO_nil, sb_ok, List.set_cons_succ, List.set_cons_zero, sq_nx, unpS_ap, tupD_ap, op2_ap, callR_ap, e1, ix, e2, bTup_ap, bCons_ap, bName_ap, bNil_ap, Option.bind_some, setLS_ap, lcD_ap, itD_ap, ad, seqOf_l, seqOf_t, l1, ifS_ap, asB_ap, eqD_ii, decide_true, bl1_bl, retS_ap, callD_ap, ixOwn_ap, mk, sq_rt, endR_rt, backR_l, hp', decide_false, Bool.false_eq_true, if_false, nxS_ap, slM_ap, noP_ap, someP_ap, int1_int, slD_l, cu, tupleD_l, e3, e4, List.append_nil]
theorem card2C (ns : List Int) {i s r : Int} (j : Nat) {ρ : Env} (hρ : look ρ j = .lst (rowD ns i s r)) (hi : 0 ≤ i) :
    ∃ (c : C) (i' s' r' : Int), callR1 F__law_card j [] ρ = .ok (cd c) (ρ.set j (.lst (rowD ns i' s' r'))) ∧ Drawn c ∧ 0 ≤ i' := by
  obtain ⟨c, i', s', r', h1, h2, h3⟩ := card2_spec ns i s r hi
  exact ⟨c, i', s', r', callR1_of hρ h1, h2, h3⟩
theorem drawer2_spec (ns : List Int) (i s r : Int) (most : Nat) (hi : 0 ≤ i) (hm : most ≤ 16) : ∃ cs i' s' r', F__law_drawer (rowD ns i s r) [.int (most : Int)] = some (dr cs, rowD ns i' s' r') ∧ (∀ c ∈ cs, Drawn c) ∧ cs.length ≤ most ∧ 0 ≤ i' := by
  have ad : addD (.int (most : Int)) (.int 1) = some (.int ((most : Int) + 1)) := rfl
  obtain ⟨n1, i1, s1, r1, e1, h1, hi1⟩ := takenC ns (m := (most : Int) + 1) (most + 1) 0 (ρ := [.lst (rowD ns i s r), .int (most : Int), .non, .non]) rfl hi (by omega) (by omega) (by omega)
  have e1 : callR1 F__law_taken 0 [.int ((most : Int) + 1)] [.lst (rowD ns i s r), .int (most : Int), .non, .non] = .ok (.int n1) [.lst (rowD ns i1 s1 r1), .int (most : Int), .non, .non] := e1
  have rg := rng1_nat n1 (by omega)
  obtain ⟨S1, ρ1, e2, ⟨i2, s2, r2, hi2, rfl⟩, sb, rr⟩ := lc_draw (b := bName 3) (c := yesM) (g := callR F__law_card 0 nilD) (vs := [3]) inat (DrS ns [.int (most : Int), .non, .non]) (fun _ y => ∃ c, y = cd c ∧ Drawn c) (List.range n1) []
    [.lst (rowD ns i1 s1 r1), .int (most : Int), .non, .non] ⟨i1, s1, r1, hi1, rfl⟩ (fun a ha ρ ⟨i, s, r, hi, er⟩ => by
      subst er
      obtain ⟨c, i', s', r', e, dc, hi'⟩ := card2C ns (i := i) (s := s) (r := r) 0 (ρ := [.lst (rowD ns i s r), .int (most : Int), .non, inat a]) rfl hi
      exact ⟨_, rfl, true, _, rfl, fun _ => ⟨cd c, _, by rw [callR_ap, nilD_ap, bnd_ok]; exact e, ⟨i', s', r', hi', rfl⟩, c, rfl, dc⟩, fun z => by cases z⟩)
  obtain ⟨cs, hcs, hd⟩ : ∃ cs : List C, (S1.map fun p => p.2) = cs.map cd ∧ ∀ c ∈ cs, Drawn c := by
    clear e2 sb
    induction S1 with
    | nil => exact ⟨[], rfl, by simp⟩
    | cons p S ih =>
      obtain ⟨cs, q1, q2⟩ := ih fun q hq => rr q (by simp [hq])
      obtain ⟨c, q3, q4⟩ := rr p (by simp)
      refine ⟨c :: cs, by rw [List.map_cons, List.map_cons, q1, q3], fun z hz => ?_⟩
      rcases List.mem_cons.mp hz with rfl | hz
      · exact q4
      · exact q2 z hz
  have hl : cs.length ≤ most := by
    have q := sb.length_le
    have q2 := congrArg List.length hcs
    simp at q q2
    omega
  rw [hcs, List.nil_append] at e2
  obtain ⟨n3, i3, s3, r3, h3, hi3, e3⟩ := drS_takes (ns := ns) (rest := [.int (most : Int), .lst (cs.map cd), .non]) (m := 2) (j := 2) (k := 0) (i := i2) (s := s2) (r := r2) hi2 (by omega) (by omega) rfl
  by_cases h0 : (n3 : Int) = 0
  · have s1 : sortLO (op1 (isC "Card" F_Card_heading []) (vD 0)) (.lst (cs.map cd)) = _ := (show _ = sortLO (op1 (isC "Card" F_Card_heading []) (vD 0)) (.tup (cs.map cd)) from rfl).trans (srt_cd cs)
    rw [if_pos (by omega)] at s1
    have m := mkDrawer (fl cs) (by rw [fl_len]; omega)
    refine ⟨fl cs, i3, s3, r3, ?_, fun c hc => hd c (fl_mem.mp hc), by rw [fl_len]; exact hl, hi3⟩
    rw [decide_eq_true h0] at e3
    unfold fl at m ⊢
    unfold F__law_drawer runR d__law_drawer
    simp -implicitDefEqProofs only [List.length_cons, List.length_nil, startD_ap, List.cons_append, List.nil_append, Nat.reduceAdd, Nat.reduceSub, List.replicate, if_true, seqS_ap, setS_ap, lstM_ap, lstD_ap, consD_ap, nilD_ap, vD_ap, kD_ap, look_zero, look_succ, bnd_ok, bnd_ap, ret_ap, ofO_some, szO_5, szO_4, szO_2, szO_1, szO_nil, sb_ok, List.set_cons_succ, List.set_cons_zero, sq_nx, unpS_ap, tupD_ap, op2_ap, callR_ap, e1, bTup_ap, bCons_ap, bName_ap, bNil_ap, Option.bind_some, setLS_ap, lcD_ap, itD_ap, seqOf_l, seqOf_t, ifS_ap, bl1_bl, retS_ap, callD_ap, sq_rt, endR_rt, backR_l, rngD_ap, ad, rg, e2, e3, lstM_ap, sortLM_ap', s1, tupleD_l, List.append_nil, m, nxS_ap]
  · have m := mkDrawer cs (by omega)
    refine ⟨cs, i3, s3, r3, ?_, hd, hl, hi3⟩
    rw [decide_eq_false h0] at e3
    unfold F__law_drawer runR d__law_drawer
    simp -implicitDefEqProofs only [List.length_cons, List.length_nil, startD_ap, List.cons_append, List.nil_append, Nat.reduceAdd, Nat.reduceSub, List.replicate, if_true, seqS_ap, setS_ap, lstM_ap, lstD_ap, consD_ap, nilD_ap, vD_ap, kD_ap, look_zero, look_succ, bnd_ok, bnd_ap, ret_ap, ofO_some, szO_5, szO_4, szO_2, szO_1, szO_nil, sb_ok, List.set_cons_succ, List.set_cons_zero, sq_nx, unpS_ap, tupD_ap, op2_ap, callR_ap, e1, bTup_ap, bCons_ap, bName_ap, bNil_ap, Option.bind_some, setLS_ap, lcD_ap, itD_ap, seqOf_l, seqOf_t, ifS_ap, bl1_bl, retS_ap, callD_ap, sq_rt, endR_rt, backR_l, rngD_ap, ad, rg, e2, e3, lstM_ap, tupleD_l, List.append_nil, m, nxS_ap, Bool.false_eq_true, if_false]
theorem drawer2C (ns : List Int) {i s r : Int} {m : Int} (most : Nat) (j : Nat) {ρ : Env} (hρ : look ρ j = .lst (rowD ns i s r)) (hi : 0 ≤ i) (hm : most ≤ 16) (em : m = most := by rfl) :
    ∃ (cs : List C) (i' s' r' : Int), callR1 F__law_drawer j [.int m] ρ = .ok (dr cs) (ρ.set j (.lst (rowD ns i' s' r'))) ∧ (∀ c ∈ cs, Drawn c) ∧ cs.length ≤ most ∧ 0 ≤ i' := by
  subst em
  obtain ⟨cs, i', s', r', h1, h2, h3, h4⟩ := drawer2_spec ns i s r most hi hm
  exact ⟨cs, i', s', r', callR1_of hρ h1, h2, h3, h4⟩
end MP.k61
namespace MP.k61
open PySem L2 MP
end MP.k61
namespace MP.k61
open PySem L2 MP
/-! == of cards, of lists of cards -/
instance : DecidableEq C := fun a b => decidable_of_iff (a.h = b.h ∧ a.bs = b.bs ∧ a.see = b.see ∧ a.al = b.al) (by
  obtain ⟨h1, b1, s1, a1⟩ := a
  obtain ⟨h2, b2, s2, a2⟩ := b
  simp)
end MP.k61
namespace MP.k61
open PySem L2 MP
/-! landings of any cards; drawer[place]; entry cards by headings -/
end MP.k61
namespace MP.k61
open PySem L2 MP
/-! piles: cards that are put in front -/
def at0 (cs : List C) (p : Nat) : C := cs.getD p ⟨"", [], "", []⟩
def pk (cs : List C) (o : List Nat) : List C := o.map (at0 cs)
def hit (rule : Str) (h : Str) (l : List C) : Option Nat := (lk rule (l.map C.h) h).1
def rc (rule : Str) (h : Str) (l : List C) : List C := match hit rule h l with
  | some p => fr l p
  | none => l
def ro (cs : List C) (rule : Str) (h : Str) (o : List Nat) : List Nat := match hit rule h (pk cs o) with
  | some p => fr o p
  | none => o
def Pm (cs : List C) (o : List Nat) : Prop := o.Perm (List.range cs.length)
theorem Pm.lt {cs : List C} {o : List Nat} (h : Pm cs o) : ∀ p ∈ o, p < cs.length := fun p hp => List.mem_range.mp (List.Perm.mem_iff h |>.mp hp)
theorem Pm.len {cs : List C} {o : List Nat} (h : Pm cs o) : o.length = cs.length := by have := List.Perm.length_eq h; simpa using this
/-! the code -/
/-! checks -/
end MP.k61
namespace MP.k61
open PySem L2 MP
/-! cards that wear -/
theorem scan_seen {leaf : Bool} {h : Str} : ∀ (r : List Str) (i : Nat), ∃ m, (scan leaf h r i).2 = List.range m ∧ m ≤ i + r.length
  | [], i => ⟨i, rfl, by simp⟩
  | x :: r, i => by
    unfold scan
    split
    · exact ⟨i + 1, rfl, by rw [List.length_cons]; omega⟩
    · split
      · exact ⟨i + 1, rfl, by rw [List.length_cons]; omega⟩
      · obtain ⟨m, e, hm⟩ := scan_seen r (i + 1)
        exact ⟨m, e, by rw [List.length_cons]; omega⟩
theorem half_seen {hs : List Str} {h : Str} : ∀ (n lo hi : Nat) (met : List Nat), hi - lo ≤ n → hi ≤ hs.length → ∃ X, (half hs h lo hi met).2 = met ++ X ∧ X.Nodup ∧ ∀ p ∈ X, lo ≤ p ∧ p < hi
  | 0, lo, hi, met, hn, hl => by
    unfold half
    rw [dif_neg (by omega)]
    exact ⟨[], by simp, by simp, by simp⟩
  | n + 1, lo, hi, met, hn, hl => by
    unfold half
    by_cases hlt : lo < hi
    · rw [dif_pos hlt]
      split
      · exact ⟨[(lo + hi - 1) / 2], rfl, by simp, fun p hp => by simp at hp; omega⟩
      · split
        · obtain ⟨X, e, nd, hX⟩ := half_seen (hs := hs) (h := h) n lo ((lo + hi - 1) / 2) (met ++ [(lo + hi - 1) / 2]) (by omega) (by omega)
          refine ⟨(lo + hi - 1) / 2 :: X, by rw [e]; simp, List.nodup_cons.mpr ⟨fun z => by have := hX _ z; omega, nd⟩, fun p hp => ?_⟩
          rcases List.mem_cons.mp hp with rfl | hp
          · omega
          · have := hX p hp; omega
        · obtain ⟨X, e, nd, hX⟩ := half_seen (hs := hs) (h := h) n ((lo + hi - 1) / 2 + 1) hi (met ++ [(lo + hi - 1) / 2]) (by omega) (by omega)
          refine ⟨(lo + hi - 1) / 2 :: X, by rw [e]; simp, List.nodup_cons.mpr ⟨fun z => by have := hX _ z; omega, nd⟩, fun p hp => ?_⟩
          rcases List.mem_cons.mp hp with rfl | hp
          · omega
          · have := hX p hp; omega
    · rw [dif_neg hlt]
      exact ⟨[], by simp, by simp, by simp⟩
theorem lk_seen (rule : Str) (hs : List Str) (h : Str) : (lk rule hs h).2.Nodup ∧ ∀ p ∈ (lk rule hs h).2, p < hs.length := by
  unfold lk
  split
  · obtain ⟨X, e, nd, hX⟩ := half_seen (hs := hs) (h := h) hs.length 0 hs.length [] (by omega) (Nat.le_refl _)
    rw [e, List.nil_append]
    exact ⟨nd, fun p hp => (hX p hp).2⟩
  · obtain ⟨m, e, hm⟩ := scan_seen (leaf := decide (rule = "leaf")) (h := h) hs 0
    rw [e]
    exact ⟨List.nodup_range, fun p hp => by have := List.mem_range.mp hp; omega⟩
/-- the places that are looked at, as they were at first; whether something is found -/
def sn (cs : List C) (rule h : Str) (left : List Nat) : List Nat := ((lk rule ((pk cs left).map C.h) h).2).map fun i => left.getD i 0
def fd (cs : List C) (rule h : Str) (left : List Nat) : Bool := (hit rule h (pk cs left)).isSome
def inc (c : Nat → Nat) (L : List Nat) : Nat → Nat := fun p => c p + L.count p
def stp (cs : List C) (rule : Str) (s : Nat) (h : Str) (x : List Nat × (Nat → Nat)) : List Nat × (Nat → Nat) := (x.1.filter fun p => decide (inc x.2 (sn cs rule h x.1) p < s), inc x.2 (sn cs rule h x.1))
end MP.k61
namespace MP.k61
open PySem L2 MP
/-! rounds that are skipped -/
theorem lk_len (rule : Str) (hs : List Str) (h : Str) : (lk rule hs h).2.length ≤ hs.length := by
  have ⟨nd, lt⟩ := lk_seen rule hs h
  have := nd_lenG _ (List.range hs.length) nd fun x hx => List.mem_range.mpr (lt x hx)
  simpa using this
end MP.k61
namespace MP.k61
open PySem L2 MP
/-! look_up, never_found -/
theorem heading_ok {h : Str} (hw : W h) : F_check_heading [.str h] = some .non := by
  have hw : F_is_word [.str h] = some (.bl true) := hw
  unfold F_check_heading runV d_check_heading
  simp -implicitDefEqProofs [hw]
theorem look_up_spec (cs : List C) (rule h : Str) (hr : rule = "all" ∨ rule = "leaf" ∨ rule = "half") (hw : W h) (hn : cs.length < 1000) : F_look_up [dr cs, .str rule, .str h] = some (encR (lk rule (cs.map C.h) h)) := by
  have c1 := check_rule_spec rule hr
  have c2 := heading_ok hw
  have c3 := looked_up_spec cs rule h hn
  unfold F_look_up runV d_look_up
  simp -implicitDefEqProofs [c1, c2, c3]
end MP.k61
namespace MP.k61
open PySem L2 MP
/-! somebody who is watched -/
abbrev Pr := Str × Str
def encP (p : Pr) : D := .tup [.str p.1, .str p.2]
def lkp (cs : List C) (p : Pr) : Option Nat × List Nat := lk p.1 (cs.map C.h) p.2
def rowO (cs : List C) (p : Pr) : D := .tup [encP p, encO (lkp cs p).1, .tup (encL (lkp cs p).2)]
def obs (cs : List C) (ps : List Pr) (met : List Nat) (b : Bool) : D := .ins "Observer" [.lst (ps.map (rowO cs)), .tup (encL met), .bl b]
def prs_ (R N : List Str) : List Pr := R.flatMap fun r => N.map fun h => (r, h)
theorem full_obs (cs : List C) (ps : List Pr) (met : List Nat) (b : Bool) : fullB (obs cs ps met b) = true := by
  have : (flds "Observer").length = 3 := by decide +kernel
  unfold fullB obs
  simp only
  rw [this]
  rfl
theorem sc_row (cs : List C) (p : Pr) : scal2 (rowO cs p) = true := by
  have a : (encL (lkp cs p).2).all scalB = true := by
    unfold encL
    rw [List.all_map]
    exact List.all_eq_true.mpr fun _ _ => rfl
  unfold rowO encP
  cases (lkp cs p).1 <;> simp [scal2, scal1, scalB, encO, a]
theorem sc_rows (cs : List C) (ps : List Pr) : (ps.map (rowO cs)).all scal2 = true := by
  rw [List.all_map]
  exact List.all_eq_true.mpr fun p _ => sc_row cs p
theorem flt_row (cs : List C) (p : Pr) : flt 2 (rowO cs p) = true := by
  have a : ∀ k, flts k (encL (lkp cs p).2) = true := fun _ => flts_nats _ _
  unfold rowO encP
  cases (lkp cs p).1 <;> simp [flt, flts, encO, a]
theorem ok_rows (cs : List C) (ps : List Pr) : okD (.lst (ps.map (rowO cs))) = true := okD_flt (k := 3) (by omega) (by
  rw [flt]
  exact flts_all _ fun d hd => by
    obtain ⟨p, _, rfl⟩ := List.mem_map.mp hd
    exact flt_row cs p)
theorem ofC_obs {cs : List C} {ps : List Pr} {met : List Nat} {b : Bool} {j : Nat} {ρ : Env} (h : look ρ j = obs cs ps met b) : ofC "Observer" j ρ = .ok () ρ := by
  unfold ofC
  rw [h]
  unfold obs
  simp
theorem callO {cs : List C} {ps : List Pr} {met : List Nat} {b : Bool} {ff : FMf} {j : Nat} {ρ : Env} {d : D} {fl : Bool} (hj : look ρ j = obs cs ps met b) (h : ff (obs cs ps met b) [] = some (d, obs cs ps met b)) : callM "Observer" fl ff j nilD ρ = .ok d ρ := by
  have q := callM1_of (fl := fl) (j := j) (ρ := ρ) (ff := ff) (ds := []) (d := d) (d1 := obs cs ps met b) (by rw [hj]; exact h) (by rw [full_obs]; simp)
  have e : ρ.set j (obs cs ps met b) = ρ := by rw [← hj]; exact set_look
  rw [e] at q
  rw [callM_ap, ofC_obs hj]
  exact q
theorem callO' {cs : List C} {ps ps' : List Pr} {met met' : List Nat} {b b' : Bool} {ff : FMf} {j : Nat} {ρ : Env} {d : D} {fl : Bool} {gs : M (List D)} {ds : List D} (hj : look ρ j = obs cs ps met b) (hg : gs ρ = .ok ds ρ) (h : ff (obs cs ps met b) ds = some (d, obs cs ps' met' b')) : callM "Observer" fl ff j gs ρ = .ok d (ρ.set j (obs cs ps' met' b')) := by
  have q := callM1_of (fl := fl) (j := j) (ρ := ρ) (ff := ff) (ds := ds) (d := d) (d1 := obs cs ps' met' b') (by rw [hj]; exact h) (by rw [full_obs]; simp)
  rw [callM_ap, ofC_obs hj]
  show (gs ρ).bnd (callM1 fl ff j) = _
  rw [hg]
  exact q
section
variable (cs : List C) (ps : List Pr) (met : List Nat) (b : Bool)
theorem runM_obs (n m : Nat) (g : SM) (ds : List D) : onIns (runM n m g) (obs cs ps met b) ds = runM n m g (obs cs ps met b) ds := rfl
theorem fo0 : fldD "Observer" 0 (obs cs ps met b) = some (.lst (ps.map (rowO cs))) := rfl
theorem fo1 : fldD "Observer" 1 (obs cs ps met b) = some (.tup (encL met)) := rfl
theorem fo2 : fldD "Observer" 2 (obs cs ps met b) = some (.bl b) := rfl
theorem pairs_spec : F_Observer_pairs_x (obs cs ps met b) [] = some (.tup (ps.map encP), obs cs ps met b) := by
  have l := lc_mapA (b := bTup 3 (bCons (bName 1) (bCons (bName 2) (bCons (bName 3) bNil)))) (g := vD 1) (vs := [1, 2, 3]) (ρ := [obs cs ps met b, .non, .non, .non]) (rowO cs) encP (L := ps) fun p _ => ⟨[obs cs ps met b, encP p, encO (lkp cs p).1, .tup (encL (lkp cs p).2)], rfl, rfl, rfl⟩
  have v : itD (op1 (fldD "Observer" 0) (vD 0)) [obs cs ps met b, .non, .non, .non] = .ok (ps.map (rowO cs)) [obs cs ps met b, .non, .non, .non] := by
    simp -implicitDefEqProofs only [itD_ap, op1_ap, vD_ap, look_zero, bnd_ok, bnd_ap, fo0, ofO_some, seqOf_l]
  have c1 : sclL [.M, .U, .U, .U] (lcD (bTup 3 (bCons (bName 1) (bCons (bName 2) (bCons (bName 3) bNil)))) (itD (op1 (fldD "Observer" 0) (vD 0))) yesM (vD 1) [1, 2, 3]) [obs cs ps met b, .non, .non, .non] = .ok (ps.map encP) [obs cs ps met b, .non, .non, .non] := by
    refine sclL_ok (ρ1 := [obs cs ps met b, .non, .non, .non]) ?_ ?_ ?_
    · simp [fulls, full_obs, Stt.own]
    · rw [lcD_ap, v, bnd_ok]; exact l
    · rw [List.all_map]; exact List.all_eq_true.mpr fun _ _ => rfl
  unfold F_Observer_pairs_x
  rw [runM_obs]
  unfold runM d_Observer_pairs_x
  simp -implicitDefEqProofs only [List.length_cons, List.length_nil, startD_ap, List.cons_append, List.nil_append, Nat.reduceAdd, Nat.reduceSub, List.replicate, if_true, seqS_ap, retS_ap, callD_ap, consD_ap, nilD_ap, lstM_ap, c1, bnd_ok, bnd_ap, ret_ap, tupleD_l, ofO_some, sb_ok, sq_rt, endM_rt, look_zero]
theorem places_spec : F_Observer_places_x (obs cs ps met b) [] = some (.tup (encL met), obs cs ps met b) := by
  unfold F_Observer_places_x
  rw [runM_obs]
  unfold runM d_Observer_places_x
  simp -implicitDefEqProofs only [List.length_cons, List.length_nil, startD_ap, List.cons_append, List.nil_append, Nat.reduceAdd, Nat.reduceSub, List.replicate, if_true, seqS_ap, retS_ap, fldO_ap, look_zero, fo1, ofO_some, sb_ok, sq_rt, endM_rt]
theorem closed_spec : F_Observer_is_closed_x (obs cs ps met b) [] = some (.bl b, obs cs ps met b) := by
  unfold F_Observer_is_closed_x
  rw [runM_obs]
  unfold runM d_Observer_is_closed_x
  simp -implicitDefEqProofs only [List.length_cons, List.length_nil, startD_ap, List.cons_append, List.nil_append, Nat.reduceAdd, Nat.reduceSub, List.replicate, if_true, seqS_ap, retS_ap, fldO_ap, look_zero, fo2, ofO_some, sb_ok, sq_rt, endM_rt]
/-- what can be found -/
def fnds (cs : List C) (ps : List Pr) : List Nat := ps.filterMap fun p => (lkp cs p).1
/-- where the next look can be -/
def nxs (cs : List C) (ps : List Pr) (n : Nat) : List Nat := ps.filterMap fun p => (lkp cs p).2[n]?
theorem lkp_len (cs : List C) (p : Pr) : (lkp cs p).2.length ≤ cs.length := by
  have := lk_len p.1 (cs.map C.h) p.2
  rw [List.length_map] at this
  exact this
theorem lkp_lt (cs : List C) (p : Pr) : ∀ i ∈ (lkp cs p).2, i < cs.length := fun i hi => by
  have := (lk_seen p.1 (cs.map C.h) p.2).2 i hi
  rwa [List.length_map] at this
theorem lkp_fst (cs : List C) (p : Pr) {i : Nat} (h : (lkp cs p).1 = some i) : i < cs.length := by
  have := lk_lt (rule := p.1) (hs := cs.map C.h) (h := p.2) h
  rwa [List.length_map] at this
theorem filt_opt {α : Type} (f : α → Option Nat) : ∀ L : List α, ((L.filter fun p => (f p).isSome).map fun p => encO (f p)) = encL (L.filterMap f)
  | [] => rfl
  | p :: L => by
    cases h : f p with
    | none => rw [List.filter_cons, List.filterMap_cons, h, if_neg (by simp)]; exact filt_opt f L
    | some i => rw [List.filter_cons, List.filterMap_cons, h, if_pos (show (some i).isSome = true from rfl), List.map_cons, h, filt_opt f L]; rfl
theorem could_spec (hn : cs.length ≤ 16) (hp : ps.length ≤ 1000) : F_Observer_could_find_x (obs cs ps met b) [] = some (.lst (encL (srtN (fnds cs ps))), obs cs ps met b) := by
  have l := lc_mapF (b := bTup 3 (bCons (bName 1) (bCons (bName 2) (bCons (bName 3) bNil)))) (c := asB (op2 notND (vD 2) (kD .non))) (g := vD 2) (vs := [1, 2, 3]) (ρ := [obs cs ps met b, .non, .non, .non]) (rowO cs) (fun p => (lkp cs p).1.isSome) (fun p => encO (lkp cs p).1) (L := ps) fun p _ => ⟨[obs cs ps met b, encP p, encO (lkp cs p).1, .tup (encL (lkp cs p).2)], rfl, by
    have q : notND (encO (lkp cs p).1) .non = some (.bl (lkp cs p).1.isSome) := by cases (lkp cs p).1 <;> rfl
    simp -implicitDefEqProofs only [asB_ap, op2_ap, vD_ap, kD_ap, look_succ, look_zero, bnd_ok, bnd_ap, q, ofO_some, bl1_bl], fun _ => rfl, rfl⟩
  rw [filt_opt] at l
  have v : itD (op1 (fldD "Observer" 0) (vD 0)) [obs cs ps met b, .non, .non, .non] = .ok (ps.map (rowO cs)) [obs cs ps met b, .non, .non, .non] := by
    simp -implicitDefEqProofs only [itD_ap, op1_ap, vD_ap, look_zero, bnd_ok, bnd_ap, fo0, ofO_some, seqOf_l]
  have c1 : sclL [.M, .U, .U, .U] (lcD (bTup 3 (bCons (bName 1) (bCons (bName 2) (bCons (bName 3) bNil)))) (itD (op1 (fldD "Observer" 0) (vD 0))) (asB (op2 notND (vD 2) (kD .non))) (vD 2) [1, 2, 3]) [obs cs ps met b, .non, .non, .non] = .ok (encL (fnds cs ps)) [obs cs ps met b, .non, .non, .non] := by
    refine sclL_ok (ρ1 := [obs cs ps met b, .non, .non, .non]) ?_ ?_ ?_
    · simp [fulls, full_obs, Stt.own]
    · rw [lcD_ap, v, bnd_ok]; exact l
    · unfold encL
      rw [List.all_map]; exact List.all_eq_true.mpr fun _ _ => rfl
  have ll : (fnds cs ps).length ≤ ps.length := List.length_filterMap_le _ _
  have s := sortSet_N (fnds cs ps) (by omega) fun n h => by
    obtain ⟨p, _, e⟩ := List.mem_filterMap.mp h
    have := lkp_fst cs p e
    omega
  unfold F_Observer_could_find_x
  rw [runM_obs]
  unfold runM d_Observer_could_find_x
  simp -implicitDefEqProofs only [List.length_cons, List.length_nil, startD_ap, List.cons_append, List.nil_append, Nat.reduceAdd, Nat.reduceSub, List.replicate, if_true, seqS_ap, retS_ap, lstM_ap, c1, bnd_ok, bnd_ap, ret_ap, s, ofO_some, sb_ok, sq_rt, endM_rt, look_zero]
theorem next_spec (hn : cs.length ≤ 16) (hp : ps.length ≤ 1000) : F_Observer_next_places_x (obs cs ps met b) [] = some (.lst (encL (srtN (nxs cs ps met.length))), obs cs ps met b) := by
  have e : ((ps.filter fun p => ((lkp cs p).2[met.length]?).isSome).map fun p => encO (lkp cs p).2[met.length]?) = encL (nxs cs ps met.length) := filt_opt (fun p : Pr => (lkp cs p).2[met.length]?) ps
  have l := lc_mapF (b := bTup 3 (bCons (bName 2) (bCons (bName 3) (bCons (bName 4) bNil)))) (c := asB (op2 gtD (callD lenD (consD (vD 4) nilD)) (vD 1))) (g := op2 ixD (vD 4) (vD 1)) (vs := [2, 3, 4]) (ρ := [obs cs ps met b, .int (met.length : Nat), .non, .non, .non]) (rowO cs) (fun p => ((lkp cs p).2[met.length]?).isSome) (fun p => encO (lkp cs p).2[met.length]?) (L := ps) fun p _ => ⟨[obs cs ps met b, .int (met.length : Nat), encP p, encO (lkp cs p).1, .tup (encL (lkp cs p).2)], rfl, by
    have ln : lenD [.tup (encL (lkp cs p).2)] = some (.int ((lkp cs p).2.length : Nat)) := by rw [lenD_t, encL_len]
    have q : gtD (.int ((lkp cs p).2.length : Nat)) (.int (met.length : Nat)) = some (.bl ((lkp cs p).2[met.length]?).isSome) := by
      rw [gtD_ii]
      by_cases z : met.length < (lkp cs p).2.length
      · rw [decide_eq_true (by omega), List.getElem?_eq_getElem z]; rfl
      · rw [decide_eq_false (by omega), List.getElem?_eq_none (by omega)]; rfl
    simp -implicitDefEqProofs only [asB_ap, op2_ap, callD_ap, consD_ap, nilD_ap, ret_ap, vD_ap, look_succ, look_zero, bnd_ok, bnd_ap, ln, q, ofO_some, bl1_bl], fun h => by
    obtain ⟨i, hi⟩ := Option.isSome_iff_exists.mp h
    have z := (List.getElem?_eq_some_iff.mp hi).1
    have q : ixD (.tup (encL (lkp cs p).2)) (.int (met.length : Nat)) = some (encO (lkp cs p).2[met.length]?) := by
      rw [ixD_t, atI_nat' (by rw [encL_len]; exact z)]
      unfold encL
      rw [List.getElem?_map, hi]; rfl
    simp -implicitDefEqProofs only [op2_ap, vD_ap, look_succ, look_zero, bnd_ok, bnd_ap, q, ofO_some], rfl⟩
  rw [e] at l
  have v : itD (op1 (fldD "Observer" 0) (vD 0)) [obs cs ps met b, .int (met.length : Nat), .non, .non, .non] = .ok (ps.map (rowO cs)) [obs cs ps met b, .int (met.length : Nat), .non, .non, .non] := by
    simp -implicitDefEqProofs only [itD_ap, op1_ap, vD_ap, look_zero, bnd_ok, bnd_ap, fo0, ofO_some, seqOf_l]
  have c1 : sclL [.M, .V, .U, .U, .U] (lcD (bTup 3 (bCons (bName 2) (bCons (bName 3) (bCons (bName 4) bNil)))) (itD (op1 (fldD "Observer" 0) (vD 0))) (asB (op2 gtD (callD lenD (consD (vD 4) nilD)) (vD 1))) (op2 ixD (vD 4) (vD 1)) [2, 3, 4]) [obs cs ps met b, .int (met.length : Nat), .non, .non, .non] = .ok (encL (nxs cs ps met.length)) [obs cs ps met b, .int (met.length : Nat), .non, .non, .non] := by
    refine sclL_ok (ρ1 := [obs cs ps met b, .int (met.length : Nat), .non, .non, .non]) ?_ ?_ ?_
    · simp [fulls, full_obs, Stt.own]
    · rw [lcD_ap, v, bnd_ok]; exact l
    · unfold encL
      rw [List.all_map]; exact List.all_eq_true.mpr fun _ _ => rfl
  have ll : (nxs cs ps met.length).length ≤ ps.length := List.length_filterMap_le _ _
  have s := sortSet_N (nxs cs ps met.length) (by omega) fun n h => by
    obtain ⟨p, _, e⟩ := List.mem_filterMap.mp h
    have := lkp_lt cs p n (List.mem_of_getElem? e)
    omega
  have ln : lenD [.tup (encL met)] = some (.int (met.length : Nat)) := by rw [lenD_t, encL_len]
  unfold F_Observer_next_places_x
  rw [runM_obs]
  unfold runM d_Observer_next_places_x
  simp -implicitDefEqProofs only [List.length_cons, List.length_nil, startD_ap, List.cons_append, List.nil_append, Nat.reduceAdd, Nat.reduceSub, List.replicate, if_true, seqS_ap, setS_ap, callD_ap, consD_ap, nilD_ap, fldO_ap, look_zero, fo1, ofO_some, bnd_ok, bnd_ap, ret_ap, ln, sb_ok, List.set_cons_succ, List.set_cons_zero, sq_nx, retS_ap, lstM_ap, c1, s, sq_rt, endM_rt]
/-- how many looks there can be -/
theorem most_spec (hne : ps ≠ []) : ∃ m : Nat, F_Observer_most_looks_x (obs cs ps met b) [] = some (.int ((m : Int) - (met.length : Nat)), obs cs ps met b) ∧ maxC [.lst (encL (ps.map fun p => (lkp cs p).2.length))] = some (inat m) ∧ (∃ p ∈ ps, m = (lkp cs p).2.length) ∧ ∀ p ∈ ps, (lkp cs p).2.length ≤ m := by
  obtain ⟨m, m1, m2, m3⟩ := maxC_natsG (ps.map fun p => (lkp cs p).2.length) (by simpa using hne)
  obtain ⟨p, hp, e⟩ := List.mem_map.mp m2
  refine ⟨m, ?_, m1, ⟨p, hp, e.symm⟩, fun q hq => m3 _ (List.mem_map.mpr ⟨q, hq, rfl⟩)⟩
  have l := lc_mapA (b := bTup 3 (bCons (bName 1) (bCons (bName 2) (bCons (bName 3) bNil)))) (g := callD lenD (consD (vD 3) nilD)) (vs := [1, 2, 3]) (ρ := [obs cs ps met b, .non, .non, .non]) (rowO cs) (fun p => inat (lkp cs p).2.length) (L := ps) fun p _ => ⟨[obs cs ps met b, encP p, encO (lkp cs p).1, .tup (encL (lkp cs p).2)], rfl, by
    have ln : lenD [.tup (encL (lkp cs p).2)] = some (inat (lkp cs p).2.length) := by rw [lenD_t, encL_len]
    simp -implicitDefEqProofs only [callD_ap, consD_ap, nilD_ap, ret_ap, vD_ap, look_succ, look_zero, bnd_ok, bnd_ap, ln, ofO_some], rfl⟩
  have em : (ps.map fun p => inat (lkp cs p).2.length) = encL (ps.map fun p => (lkp cs p).2.length) := by unfold encL; rw [List.map_map]; rfl
  rw [em] at l
  have v : itD (op1 (fldD "Observer" 0) (vD 0)) [obs cs ps met b, .non, .non, .non] = .ok (ps.map (rowO cs)) [obs cs ps met b, .non, .non, .non] := by
    simp -implicitDefEqProofs only [itD_ap, op1_ap, vD_ap, look_zero, bnd_ok, bnd_ap, fo0, ofO_some, seqOf_l]
  have c1 : sclL [.M, .U, .U, .U] (lcD (bTup 3 (bCons (bName 1) (bCons (bName 2) (bCons (bName 3) bNil)))) (itD (op1 (fldD "Observer" 0) (vD 0))) yesM (callD lenD (consD (vD 3) nilD)) [1, 2, 3]) [obs cs ps met b, .non, .non, .non] = .ok (encL (ps.map fun p => (lkp cs p).2.length)) [obs cs ps met b, .non, .non, .non] := by
    refine sclL_ok (ρ1 := [obs cs ps met b, .non, .non, .non]) ?_ ?_ ?_
    · simp [fulls, full_obs, Stt.own]
    · rw [lcD_ap, v, bnd_ok]; exact l
    · unfold encL
      rw [List.all_map]; exact List.all_eq_true.mpr fun _ _ => rfl
  have ln : lenD [.tup (encL met)] = some (.int (met.length : Nat)) := by rw [lenD_t, encL_len]
  have sb : intOp (fun _ _ => true) (fun i j => D.int (i - j)) (inat m) (.int (met.length : Nat)) = some (.int ((m : Int) - (met.length : Nat))) := rfl
  unfold F_Observer_most_looks_x
  rw [runM_obs]
  unfold runM d_Observer_most_looks_x
  simp -implicitDefEqProofs only [List.length_cons, List.length_nil, startD_ap, List.cons_append, List.nil_append, Nat.reduceAdd, Nat.reduceSub, List.replicate, if_true, seqS_ap, retS_ap, op2_ap, callD_ap, consD_ap, nilD_ap, lstM_ap, c1, bnd_ok, bnd_ap, ret_ap, m1, ofO_some, fldO_ap, look_zero, fo1, ln, sb, sb_ok, sq_rt, endM_rt]
/-- some rows are kept -/
theorem narrow_spec (ps' : List Pr) (hne : ps' ≠ []) : F_Observer_narrow_l (obs cs ps met b) [.lst (ps'.map (rowO cs))] = some (.int (ps'.length : Nat), obs cs ps' met b) := by
  have e : eqD (.lst (ps'.map (rowO cs))) (.lst []) = some (.bl false) := by
    rw [eqD_nil (ok_rows cs ps')]
    cases ps' with
    | nil => exact absurd rfl hne
    | cons _ _ => rfl
  have mv : mvLenS "Observer" 0 0 1 [obs cs ps met b, .lst (ps'.map (rowO cs))] = .rt (.int (ps'.length : Nat)) [obs cs ps' met b, .lst (ps'.map (rowO cs))] := by
    unfold mvLenS obs
    simp -implicitDefEqProofs [putI]
  unfold F_Observer_narrow_l
  rw [runM_obs]
  unfold runM d_Observer_narrow_l
  simp -implicitDefEqProofs only [List.length_cons, List.length_nil, startD_ap, List.cons_append, List.nil_append, Nat.reduceAdd, Nat.reduceSub, List.replicate, if_true, seqS_ap, ifS_ap, asB_ap, cmpOwn_ap, lstM_ap, lstD_ap, nilD_ap, ret_ap, bnd_ok, bnd_ap, szO_nil, ofO_some, look_succ, look_zero, e, bl1_bl, sb_ok, Bool.false_eq_true, if_false, nxS_ap, sq_nx, mv, endM_rt]
theorem open_spec : F_Observer_check_open_x (obs cs ps met false) [] = some (.non, obs cs ps met false) := by
  unfold F_Observer_check_open_x
  rw [runM_obs]
  unfold runM d_Observer_check_open_x
  simp -implicitDefEqProofs only [List.length_cons, List.length_nil, startD_ap, List.cons_append, List.nil_append, Nat.reduceAdd, Nat.reduceSub, List.replicate, if_true, seqS_ap, ifS_ap, asB_ap, fldO_ap, look_zero, fo2, ofO_some, bnd_ok, bnd_ap, bl1_bl, sb_ok, Bool.false_eq_true, if_false, nxS_ap, sq_nx, endM_nx]
theorem callNO {ps' : List Pr} {j : Nat} {ρ : Env} {gs : M (List D)} (hj : look ρ j = obs cs ps met b) (hg : gs ρ = .ok (ps'.map (rowO cs)) ρ) (hne : ps' ≠ []) : callN "Observer" false F_Observer_narrow_l j gs ρ = .ok (.int (ps'.length : Nat)) (ρ.set j (obs cs ps' met b)) := by
  unfold callN bnd
  rw [ofC_obs hj]
  show (gs ρ).bnd _ = _
  rw [hg]
  show (match F_Observer_narrow_l (look ρ j) [.lst (ps'.map (rowO cs))] with
    | some (d, d1) => if (!false || fullB d1) = true then Res.ok d (ρ.set j d1) else .bad
    | none => .bad) = _
  rw [hj, narrow_spec cs ps met b ps' hne]
  rfl
/-- the next look is at x -/
def sees (cs : List C) (n x : Nat) (p : Pr) : Bool := decide ((lkp cs p).2[n]? = some x)
theorem slice_one (L : List Nat) (n x : Nat) : eqD (.tup (cutD (encL L) (some (n : Int)) (some ((n : Int) + 1)))) (.tup [.int (x : Nat)]) = some (.bl (decide (L[n]? = some x))) := by
  have c : cutD (encL L) (some (n : Int)) (some ((n : Int) + 1)) = encL ((L.drop n).take 1) := by
    by_cases z : n < L.length
    · have := cut_mid (encL L) n (n + 1) (by rw [encL_len]; omega) (by rw [encL_len]; omega)
      rw [show ((n + 1 : Nat) : Int) = (n : Int) + 1 from by omega] at this
      rw [this]
      unfold encL
      rw [List.map_take, List.map_drop, show n + 1 - n = 1 by omega]
    · unfold cutD
      rw [show ((n : Int) + 1) = ((n + 1 : Nat) : Int) from by omega, HT.sIx_nat, HT.sIx_nat, encL_len, Nat.min_eq_right (by omega), Nat.min_eq_right (by omega), List.drop_eq_nil_of_le (by rw [encL_len]; omega), List.drop_eq_nil_of_le (by omega)]
      simp [encL]
  rw [c]
  have h1 : okD (.tup (encL ((L.drop n).take 1))) = true := encL_okT _
  have h2 : okD (.tup [.int (x : Nat)]) = true := encL_okT [x]
  rw [eqD_pur h1 h2 (purs_encL _) rfl]
  congr 2
  rw [decide_eq_decide]
  have : (L.drop n).take 1 = (L[n]?).toList := by
    cases h : L[n]? with
    | none => rw [List.getElem?_eq_none_iff] at h; rw [List.drop_eq_nil_of_le h]; rfl
    | some y =>
      obtain ⟨z, e⟩ := List.getElem?_eq_some_iff.mp h
      rw [List.drop_eq_getElem_cons z, e]; rfl
  rw [this]
  cases h : L[n]? with
  | none => constructor <;> (intro q; first | cases q | (have := D.tup.inj q; cases this))
  | some y =>
    constructor
    · intro q
      have := D.tup.inj q
      have : D.int (y : Nat) = .int (x : Nat) := (List.cons.inj this).1
      have := D.int.inj this
      congr 1; omega
    · intro q
      cases q; rfl
theorem saw_spec (x : Nat) (hm : met.length ≤ 100) (hne : ps.filter (sees cs met.length x) ≠ []) : F_Observer_saw_x (obs cs ps met false) [.int (x : Nat)] = some (.int ((ps.filter (sees cs met.length x)).length : Nat), obs cs (ps.filter (sees cs met.length x)) (met ++ [x]) false) := by
  have op := callO (cs := cs) (ps := ps) (met := met) (b := false) (j := 0) (ρ := [obs cs ps met false, .int (x : Nat), .non, .non, .non]) (fl := false) rfl (open_spec cs ps met)
  have ln : lenD [.tup (encL met)] = some (.int (met.length : Nat)) := by rw [lenD_t, encL_len]
  have l := lcF (i := 4) (c := asB (op2 eqD (slM (op2 ixD (vD 4) (kD (.int 2))) (someP (vD 2)) (someP (op2 addD (vD 2) (kD (.int 1))))) (tupD (consD (vD 1) nilD)))) (g := vD 4) (ρ := [obs cs ps met false, .int (x : Nat), .int (met.length : Nat), .non, .non]) (rowO cs) (sees cs met.length x) (rowO cs) (L := ps) (by simp) (fun p _ => by
    have i2 : ixD (rowO cs p) (.int 2) = some (.tup (encL (lkp cs p).2)) := ixD_t.trans atI_2
    have ad : addD (.int (met.length : Nat)) (.int 1) = some (.int (((met.length : Nat) : Int) + 1)) := rfl
    have e := slice_one (lkp cs p).2 met.length x
    simp -implicitDefEqProofs only [asB_ap, op2_ap, slM_ap, someP_ap, vD_ap, kD_ap, List.set_cons_succ, List.set_cons_zero, look_succ, look_zero, bnd_ok, bnd_ap, i2, ofO_some, int1_int, ad, slD_t, tupD_ap, consD_ap, nilD_ap, ret_ap, szO_1, e, bl1_bl]
    rfl) fun p _ _ => rfl
  have v : itD (op1 (fldD "Observer" 0) (vD 0)) [obs cs ps met false, .int (x : Nat), .int (met.length : Nat), .non, .non] = .ok (ps.map (rowO cs)) [obs cs ps met false, .int (x : Nat), .int (met.length : Nat), .non, .non] := by
    simp -implicitDefEqProofs only [itD_ap, op1_ap, vD_ap, look_zero, bnd_ok, bnd_ap, fo0, ofO_some, seqOf_l]
  have c1 : sclL [.M, .V, .V, .U, .U] (lcD (bName 4) (itD (op1 (fldD "Observer" 0) (vD 0))) (asB (op2 eqD (slM (op2 ixD (vD 4) (kD (.int 2))) (someP (vD 2)) (someP (op2 addD (vD 2) (kD (.int 1))))) (tupD (consD (vD 1) nilD)))) (vD 4) [4]) [obs cs ps met false, .int (x : Nat), .int (met.length : Nat), .non, .non] = .ok ((ps.filter (sees cs met.length x)).map (rowO cs)) [obs cs ps met false, .int (x : Nat), .int (met.length : Nat), .non, .non] := by
    refine sclL_ok (ρ1 := [obs cs ps met false, .int (x : Nat), .int (met.length : Nat), .non, .non]) ?_ ?_ ?_
    · simp [fulls, full_obs, Stt.own]
    · rw [lcD_ap, v, bnd_ok]; exact l
    · exact sc_rows cs _
  have na := callNO cs ps met false (j := 0) (ρ := [obs cs ps met false, .int (x : Nat), .int (met.length : Nat), .non, .non]) rfl c1 hne
  generalize hps' : ps.filter (sees cs met.length x) = ps' at na
  have it : itemsOf (.tup (encL met)) = some (encL met) := rfl
  have sz : szO (encL met ++ [.int (x : Nat)]) = some (encL (met ++ [x])) := by
    rw [szO_of (by rw [List.length_append, encL_len]; simp; omega)]
    unfold encL; rw [List.map_append]; rfl
  have s5 : ∀ x3, setF "Observer" 1 0 (tupD (starD (fldO "Observer" 1 0) (consD (vD 1) nilD))) [obs cs ps' met false, .int (x : Nat), .int (met.length : Nat), x3, .non] = .nx [obs cs ps' (met ++ [x]) false, .int (x : Nat), .int (met.length : Nat), x3, .non] := fun x3 => by
    rw [setF_ap]
    simp -implicitDefEqProofs only [tupD_ap, starD_ap, fldO_ap, look_zero, look_succ, fo1, ofO_some, bnd_ok, bnd_ap, it, consD_ap, vD_ap, nilD_ap, ret_ap, sz, sb_ok]
    rfl
  unfold F_Observer_saw_x
  rw [runM_obs]
  unfold runM d_Observer_saw_x
  generalize callN "Observer" false F_Observer_narrow_l 0 _ = NA at na ⊢
  simp -implicitDefEqProofs only [List.length_cons, List.length_nil, startD_ap, List.cons_append, List.nil_append, Nat.reduceAdd, Nat.reduceSub, List.replicate, if_true, seqS_ap, exprS_ap, op, sb_ok, sq_nx, setS_ap, callD_ap, consD_ap, nilD_ap, fldO_ap, look_zero, look_succ, fo1, ofO_some, bnd_ok, bnd_ap, ret_ap, ln, List.set_cons_succ, List.set_cons_zero, na, s5, retS_ap, vD_ap, sq_rt, endM_rt]
/-- no look is left -/
def ends_ (cs : List C) (n : Nat) (p : Pr) : Bool := decide ((lkp cs p).2.length = n)
theorem ended_spec (hne : ps.filter (ends_ cs met.length) ≠ []) : F_Observer_ended_x (obs cs ps met false) [] = some (.int ((ps.filter (ends_ cs met.length)).length : Nat), obs cs (ps.filter (ends_ cs met.length)) met true) := by
  have op := callO (cs := cs) (ps := ps) (met := met) (b := false) (j := 0) (ρ := [obs cs ps met false, .non, .non]) (fl := false) rfl (open_spec cs ps met)
  have ln : lenD [.tup (encL met)] = some (.int (met.length : Nat)) := by rw [lenD_t, encL_len]
  have l := lcF (i := 2) (c := asB (op2 eqD (callD lenD (consD (op2 ixD (vD 2) (kD (.int 2))) nilD)) (callD lenD (consD (op1 (fldD "Observer" 1) (vD 0)) nilD)))) (g := vD 2) (ρ := [obs cs ps met false, .non, .non]) (rowO cs) (ends_ cs met.length) (rowO cs) (L := ps) (by simp) (fun p _ => by
    have i2 : ixD (rowO cs p) (.int 2) = some (.tup (encL (lkp cs p).2)) := ixD_t.trans atI_2
    have l2 : lenD [.tup (encL (lkp cs p).2)] = some (.int ((lkp cs p).2.length : Nat)) := by rw [lenD_t, encL_len]
    have e : eqD (.int ((lkp cs p).2.length : Nat)) (.int (met.length : Nat)) = some (.bl (ends_ cs met.length p)) := by
      rw [eqD_ii]; unfold ends_; congr 2; rw [decide_eq_decide]; omega
    simp -implicitDefEqProofs only [asB_ap, op2_ap, op1_ap, callD_ap, consD_ap, nilD_ap, ret_ap, vD_ap, kD_ap, List.set_cons_succ, List.set_cons_zero, look_succ, look_zero, bnd_ok, bnd_ap, i2, l2, fo1, ln, e, ofO_some, bl1_bl]) fun p _ _ => rfl
  have v : itD (op1 (fldD "Observer" 0) (vD 0)) [obs cs ps met false, .non, .non] = .ok (ps.map (rowO cs)) [obs cs ps met false, .non, .non] := by
    simp -implicitDefEqProofs only [itD_ap, op1_ap, vD_ap, look_zero, bnd_ok, bnd_ap, fo0, ofO_some, seqOf_l]
  have c1 : sclL [.M, .U, .U] (lcD (bName 2) (itD (op1 (fldD "Observer" 0) (vD 0))) (asB (op2 eqD (callD lenD (consD (op2 ixD (vD 2) (kD (.int 2))) nilD)) (callD lenD (consD (op1 (fldD "Observer" 1) (vD 0)) nilD)))) (vD 2) [2]) [obs cs ps met false, .non, .non] = .ok ((ps.filter (ends_ cs met.length)).map (rowO cs)) [obs cs ps met false, .non, .non] := by
    refine sclL_ok (ρ1 := [obs cs ps met false, .non, .non]) ?_ ?_ ?_
    · simp [fulls, full_obs, Stt.own]
    · rw [lcD_ap, v, bnd_ok]; exact l
    · exact sc_rows cs _
  have na := callNO cs ps met false (j := 0) (ρ := [obs cs ps met false, .non, .non]) rfl c1 hne
  generalize hps' : ps.filter (ends_ cs met.length) = ps' at na
  have s5 : ∀ x1, setF "Observer" 2 0 (kD (.bl true)) [obs cs ps' met false, x1, .non] = .nx [obs cs ps' met true, x1, .non] := fun x1 => by
    rw [setF_ap]; rfl
  unfold F_Observer_ended_x
  rw [runM_obs]
  unfold runM d_Observer_ended_x
  generalize callN "Observer" false F_Observer_narrow_l 0 _ = NA at na ⊢
  simp -implicitDefEqProofs only [List.length_cons, List.length_nil, startD_ap, List.cons_append, List.nil_append, Nat.reduceAdd, Nat.reduceSub, List.replicate, if_true, seqS_ap, exprS_ap, op, sb_ok, sq_nx, setS_ap, na, List.set_cons_succ, List.set_cons_zero, s5, retS_ap, vD_ap, look_succ, look_zero, sq_rt, endM_rt]
end
/-! it is made -/
theorem chk1 (s0 d R N : D) : ∀ (L : List Str) (x4 x5 : D), (∀ r ∈ L, r = "all" ∨ r = "leaf" ∨ r = "half") → ∃ y4, forL (bName 4) b1_Observer (L.map D.str) [s0, d, R, N, x4, x5] = .nx [s0, d, R, N, y4, x5]
  | [], x4, x5, _ => ⟨x4, rfl⟩
  | r :: L, x4, x5, h => by
    have c := check_rule_spec r (h r (by simp))
    obtain ⟨y, i⟩ := chk1 s0 d R N L (.str r) x5 fun z hz => h z (by simp [hz])
    have bb : b1_Observer [s0, d, R, N, .str r, x5] = .nx [s0, d, R, N, .str r, x5] := by
      unfold b1_Observer
      simp -implicitDefEqProofs only [seqS_ap, exprS_ap, callD_ap, consD_ap, nilD_ap, ret_ap, vD_ap, look_succ, look_zero, bnd_ok, bnd_ap, c, ofO_some, sb_ok, sq_nx, nxS_ap]
    exact ⟨y, by rw [List.map_cons, forL_cons (ρ1 := [s0, d, R, N, .str r, x5]) rfl, bb, lp_nx, i]⟩
theorem chk2 (s0 d R N : D) : ∀ (L : List Str) (x4 x5 : D), (∀ r ∈ L, W r) → ∃ y5, forL (bName 5) b2_Observer (L.map D.str) [s0, d, R, N, x4, x5] = .nx [s0, d, R, N, x4, y5]
  | [], x4, x5, _ => ⟨x5, rfl⟩
  | r :: L, x4, x5, h => by
    have c := heading_ok (h r (by simp))
    obtain ⟨y, i⟩ := chk2 s0 d R N L x4 (.str r) fun z hz => h z (by simp [hz])
    have bb : b2_Observer [s0, d, R, N, x4, .str r] = .nx [s0, d, R, N, x4, .str r] := by
      unfold b2_Observer
      simp -implicitDefEqProofs only [seqS_ap, exprS_ap, callD_ap, consD_ap, nilD_ap, ret_ap, vD_ap, look_succ, look_zero, bnd_ok, bnd_ap, c, ofO_some, sb_ok, sq_nx, nxS_ap]
    exact ⟨y, by rw [List.map_cons, forL_cons (ρ1 := [s0, d, R, N, x4, .str r]) rfl, bb, lp_nx, i]⟩
theorem rows_loop (cs : List C) (hn : cs.length < 1000) (N : List Str) (hN : N.length ≤ 60) : ∀ (L : List Str) (acc : List Pr) (x4 x5 : D) (R : D), (∀ r ∈ L, r = "all" ∨ r = "leaf" ∨ r = "half") → acc.length + 60 * L.length < 10000 → ∃ y4, forL (bName 4) b3_Observer (L.map D.str) [.ins "Observer" [.lst (acc.map (rowO cs))], dr cs, R, .tup (N.map D.str), x4, x5] = .nx [.ins "Observer" [.lst ((acc ++ prs_ L N).map (rowO cs))], dr cs, R, .tup (N.map D.str), y4, x5]
  | [], acc, x4, x5, R, _, _ => ⟨x4, by simp [prs_, forL]⟩
  | r :: L, acc, x4, x5, R, h, hl => by
    simp only [List.length_cons] at hl
    rw [List.map_cons, forL_cons (ρ1 := [.ins "Observer" [.lst (acc.map (rowO cs))], dr cs, R, .tup (N.map D.str), .str r, x5]) rfl]
    have lc := lcM (i := 5) (g := tupD (consD (tupD (consD (vD 4) (consD (vD 5) nilD))) (starD (callD F_looked_up (consD (vD 1) (consD (vD 4) (consD (vD 5) nilD)))) nilD))) (ρ := [.ins "Observer" [.lst (acc.map (rowO cs))], dr cs, R, .tup (N.map D.str), .str r, x5]) D.str (fun h => rowO cs (r, h)) (L := N) (by simp) fun a _ => by
      have l := looked_up_spec cs r a (by omega)
      have it : itemsOf (encR (lk r (cs.map C.h) a)) = some [encO (lk r (cs.map C.h) a).1, .tup (encL (lk r (cs.map C.h) a).2)] := rfl
      unfold rowO encP lkp
      simp -implicitDefEqProofs [l, it]
    have em : (N.map fun h => rowO cs (r, h)) = (N.map fun h => (r, h)).map (rowO cs) := by rw [List.map_map]; rfl
    rw [em] at lc
    have b : b3_Observer [.ins "Observer" [.lst (acc.map (rowO cs))], dr cs, R, .tup (N.map D.str), .str r, x5] = .nx [.ins "Observer" [.lst ((acc ++ N.map fun h => (r, h)).map (rowO cs))], dr cs, R, .tup (N.map D.str), .str r, x5] := by
      have f0 : lstO (fldD "Observer" 0 (.ins "Observer" [.lst (acc.map (rowO cs))])) = some (acc.map (rowO cs)) := rfl
      have lt : acc.length + N.length < 16000000 := by omega
      unfold b3_Observer extF
      generalize hQ : (N.map fun h => (r, h)) = Q at lc ⊢
      have hQl : Q.length = N.length := by rw [← hQ, List.length_map]
      simp -implicitDefEqProofs [f0, lc, lt, setBox, hQl]
    obtain ⟨y, ih⟩ := rows_loop cs hn N hN L (acc ++ N.map fun h => (r, h)) (.str r) x5 R (fun z hz => h z (by simp [hz])) (by simp; omega)
    refine ⟨y, ?_⟩
    rw [b, lp_nx, ih]
    simp [prs_]
theorem mk_obs (cs : List C) (hn : cs.length < 1000) (R N : List Str) (hR : ∀ r ∈ R, r = "all" ∨ r = "leaf" ∨ r = "half") (hN : ∀ n ∈ N, W n) (lR : R.length ≤ 60) (lN : N.length ≤ 60) (hne : prs_ R N ≠ []) :
    makeM "Observer" F_Observer [dr cs, .tup (R.map D.str), .tup (N.map D.str)] = some (obs cs (prs_ R N) [] false) := by
  obtain ⟨y4, e1⟩ := chk1 (.ins "Observer" []) (dr cs) (.tup (R.map D.str)) (.tup (N.map D.str)) R .non .non hR
  obtain ⟨y5, e2⟩ := chk2 (.ins "Observer" []) (dr cs) (.tup (R.map D.str)) (.tup (N.map D.str)) N y4 .non hN
  obtain ⟨z4, e3⟩ := rows_loop cs hn N lN R [] y4 y5 (.tup (R.map D.str)) hR (by simp; omega)
  rw [List.nil_append, List.map_nil] at e3
  have ok := ok_rows cs (prs_ R N)
  have em : ((prs_ R N).map (rowO cs)).isEmpty = false := by
    cases h : prs_ R N with
    | nil => exact absurd h hne
    | cons _ _ => rfl
  have f0 : lstO (fldD "Observer" 0 (obs cs (prs_ R N) [] false)) = some ((prs_ R N).map (rowO cs)) := rfl
  have fl : (flds "Observer").length = 3 := by decide +kernel
  have d : d_Observer [.ins "Observer" [], dr cs, .tup (R.map D.str), .tup (N.map D.str), .non, .non] = .nx [obs cs (prs_ R N) [] false, dr cs, .tup (R.map D.str), .tup (N.map D.str), z4, y5] := by
    unfold obs at f0 ⊢
    generalize (prs_ R N).map (rowO cs) = X at *
    unfold d_Observer
    simp -implicitDefEqProofs [e1, e2, putI, e3, f0, ok, em]
    rfl
  have ff : F_Observer (.ins "Observer" []) [dr cs, .tup (R.map D.str), .tup (N.map D.str)] = some (.non, obs cs (prs_ R N) [] false) := by
    have h : F_Observer (.ins "Observer" []) [dr cs, .tup (R.map D.str), .tup (N.map D.str)] = endM (d_Observer [.ins "Observer" [], dr cs, .tup (R.map D.str), .tup (N.map D.str), .non, .non]) := by
      unfold F_Observer onIns runM
      simp -implicitDefEqProofs
    rw [h, d]
    rfl
  exact makeM_of ff (by rw [fl]; rfl)
theorem encP_flt (p : Pr) : flt 1 (encP p) = true := by simp [encP, flt, flts]
theorem encP_pur (p : Pr) : pur (encP p) = true := by simp [encP, pur, purs]
theorem encP_inj {p q : Pr} (h : encP p = encP q) : p = q := by
  unfold encP at h
  have h := D.tup.inj h
  obtain ⟨h1, h2⟩ := List.cons.inj h
  obtain ⟨h2, _⟩ := List.cons.inj h2
  exact Prod.ext (D.str.inj h1) (D.str.inj h2)
theorem okD_encPs (ps : List Pr) : okD (.tup (ps.map encP)) = true := okD_flt (k := 2) (by omega) (by
  rw [flt]
  exact flts_all _ fun d hd => by
    obtain ⟨p, _, rfl⟩ := List.mem_map.mp hd
    exact encP_flt p)
theorem inU_encP (neg : Bool) (q : Pr) (ps : List Pr) : inU neg (encP q) (.tup (ps.map encP)) = some (.bl (xor neg (decide (q ∈ ps)))) := by
  have ok : ∀ p, okD (encP p) = true := fun p => okD_flt (k := 1) (by omega) (encP_flt p)
  have e : ((pys (ps.map encP)).any fun z => PyData.eqv z (encP q).py) = decide (q ∈ ps) := by
    rw [pys_map, List.map_map]
    induction ps with
    | nil => rfl
    | cons t L ih =>
      rw [List.map_cons, List.any_cons, ih]
      have h := eqD_pur (ok t) (ok q) (encP_pur t) (encP_pur q)
      unfold eqD at h
      rw [ok t, ok q] at h
      have h : PyData.eqv (encP t).py (encP q).py = decide (encP t = encP q) := by simpa using h
      show (PyData.eqv (encP t).py (encP q).py || _) = _
      rw [h]
      by_cases z : t = q
      · subst z; simp
      · have h1 : ¬ encP t = encP q := fun y => z (encP_inj y)
        have z' : ¬ q = t := fun y => z y.symm
        rw [decide_eq_false h1, Bool.false_or, decide_eq_decide]
        exact ⟨fun h => List.mem_cons_of_mem _ h, fun h => (List.mem_cons.mp h).resolve_left z'⟩
  unfold inU
  show (if okD (encP q) && okD (.tup (ps.map encP)) then some (D.bl (xor neg ((pys (ps.map encP)).any fun z => PyData.eqv z (encP q).py))) else none) = _
  rw [ok q, okD_encPs, e]; rfl
theorem neD_encPs (ps qs : List Pr) : neD (.tup (ps.map encP)) (.tup (qs.map encP)) = some (.bl (!decide (ps = qs))) := by
  rw [neD_pur (okD_encPs ps) (okD_encPs qs) (purs_map _ _ fun p _ => encP_pur p) (purs_map _ _ fun p _ => encP_pur p)]
  congr 3
  rw [decide_eq_decide]
  exact ⟨fun h => (List.map_inj_right fun _ _ e => encP_inj e).mp (D.tup.inj h), fun h => by rw [h]⟩
/-- the pairs that are left behind k looks like those of st -/
def atK_ (cs : List C) (st : List Nat) (k : Nat) (ps : List Pr) : List Pr := ps.filter fun p => decide ((lkp cs p).2.take k = st.take k)
theorem take_step {L st : List Nat} {k : Nat} (hk : k < st.length) : (L.take (k + 1) = st.take (k + 1)) ↔ (L.take k = st.take k ∧ L[k]? = some st[k]) := by
  constructor
  · intro h
    refine ⟨?_, ?_⟩
    · have := congrArg (List.take k) h
      rwa [List.take_take, List.take_take, Nat.min_eq_left (by omega)] at this
    · have := congrArg (fun l => l[k]?) h
      simp only [List.getElem?_take, show k < k + 1 by omega, if_true] at this
      rw [this, List.getElem?_eq_getElem hk]
  · rintro ⟨h1, h2⟩
    rw [List.take_succ, List.take_succ, h1, h2, List.getElem?_eq_getElem hk]
theorem atK_step {cs : List C} {st : List Nat} {k : Nat} {ps : List Pr} (hk : k < st.length) : (atK_ cs st k ps).filter (sees cs k st[k]) = atK_ cs st (k + 1) ps := by
  unfold atK_ sees
  rw [List.filter_filter]
  refine List.filter_congr fun p _ => ?_
  rw [← Bool.decide_and, decide_eq_decide, take_step hk]
  exact And.comm
theorem atK_zero {cs : List C} {st : List Nat} {ps : List Pr} : atK_ cs st 0 ps = ps := by
  unfold atK_
  exact List.filter_eq_self.mpr fun _ _ => by simp
theorem atK_mem {cs : List C} {st : List Nat} {k : Nat} {ps : List Pr} {p : Pr} (hp : p ∈ ps) (h : (lkp cs p).2 = st) : p ∈ atK_ cs st k ps := List.mem_filter.mpr ⟨hp, by rw [h]; simp⟩
/-- those with just these looks -/
def same_ (cs : List C) (st : List Nat) (ps : List Pr) : List Pr := ps.filter fun p => decide ((lkp cs p).2 = st)
theorem atK_end {cs : List C} {st : List Nat} {ps : List Pr} : (atK_ cs st st.length ps).filter (ends_ cs st.length) = same_ cs st ps := by
  unfold atK_ ends_ same_
  rw [List.filter_filter]
  refine List.filter_congr fun p _ => ?_
  rw [← Bool.decide_and, decide_eq_decide, List.take_length]
  constructor
  · rintro ⟨h2, h1⟩
    rw [List.take_of_length_le (by omega)] at h1
    exact h1
  · intro h
    rw [h]
    exact ⟨rfl, List.take_length⟩
theorem atK_len {cs : List C} {st : List Nat} {k : Nat} {ps : List Pr} : (atK_ cs st k ps).length ≤ ps.length := List.length_filter_le _ _
theorem same_mem {cs : List C} {st : List Nat} {ps : List Pr} {p : Pr} (hp : p ∈ ps) (h : (lkp cs p).2 = st) : p ∈ same_ cs st ps := List.mem_filter.mpr ⟨hp, decide_eq_true h⟩
theorem nxs_mem {cs : List C} {ps : List Pr} {n x : Nat} {p : Pr} (hp : p ∈ ps) (h : (lkp cs p).2[n]? = some x) : x ∈ srtN (nxs cs ps n) := srtN_mem.mpr (List.mem_filterMap.mpr ⟨p, hp, h⟩)
theorem fnds_mem {cs : List C} {ps : List Pr} {x : Nat} {p : Pr} (hp : p ∈ ps) (h : (lkp cs p).1 = some x) : x ∈ srtN (fnds cs ps) := srtN_mem.mpr (List.mem_filterMap.mpr ⟨p, hp, h⟩)
end MP.k61
namespace MP.k61
open PySem L2 MP
abbrev R3 : List Str := ["all", "half", "leaf"]
abbrev P0 : List Pr := prs_ R3 six
/-- falling numbers are sorted ones read from behind -/
theorem fall_sorted (l : List Nat) (h : l.Pairwise (· ≥ ·)) : revO (.lst ((sortI (ofN l)).map D.int)) = some (encL l) := by
  have e : sortI (ofN l) = (ofN l).reverse := by
    refine List.Perm.eq_of_pairwise (le := (· ≤ ·)) (fun x y _ _ h1 h2 => by omega) (sortI_pw _) ?_ ((sortI_perm _).trans (List.reverse_perm _).symm)
    rw [List.pairwise_reverse]
    unfold ofN
    rw [List.pairwise_map]
    exact h.imp fun {a b} q => Int.ofNat_le.mpr q
  rw [e, encL_I]
  show some ((ofN l).reverse.map D.int).reverse = _
  rw [← List.map_reverse, List.reverse_reverse]
section
variable (cs : List C) (hn : cs.length ≤ 10) (rule name : Str) (op : Option Nat) (st : List Nat) (eo : lkp cs (rule, name) = (op, st)) (hP : (rule, name) ∈ P0)
include hn eo hP
theorem watch_loop (x0 x1 x2 x3 x7 x12 x13 x14 x15 : D) : ∀ (m k : Nat) (cn : List Nat) (x11 : D), k + m = st.length → cn.length ≤ 1000 + k → ∃ y11,
    forL (bName 11) b1_law (encL (List.range' k m)) [x0, x1, x2, x3, dr cs, .str rule, .str name, x7, .tup (encL st), obs cs (atK_ cs st k P0) (st.take k) false, .lst (encL cn), x11, x12, x13, x14, x15] = .nx [x0, x1, x2, x3, dr cs, .str rule, .str name, x7, .tup (encL st), obs cs (atK_ cs st st.length P0) st false, .lst (encL (cn ++ (List.range' (k + 1) m).map fun j => (atK_ cs st j P0).length)), y11, x12, x13, x14, x15]
  | 0, k, cn, x11, hk, hc => ⟨x11, by
    have : k = st.length := by omega
    subst this
    simp only [List.take_length, List.range'_zero, List.map_nil, List.append_nil]
    rfl⟩
  | m + 1, k, cn, x11, hk, hc => by
    have hks : k < st.length := by omega
    have e2 : (lkp cs (rule, name)).2 = st := by rw [eo]
    have ml : (st.take k).length = k := by rw [List.length_take]; omega
    have sl : st.length ≤ 10 := by have := lkp_len cs (rule, name); rw [e2] at this; omega
    have pl : (atK_ cs st k P0).length ≤ 18 := atK_len
    have inP : (rule, name) ∈ atK_ cs st k P0 := atK_mem hP e2
    have c1 := callO (fl := true) (ff := F_Observer_pairs_x) (j := 9) (ρ := [x0, x1, x2, x3, dr cs, .str rule, .str name, x7, .tup (encL st), obs cs (atK_ cs st k P0) (st.take k) false, .lst (encL cn), .int (k : Nat), x12, x13, x14, x15]) rfl (pairs_spec cs (atK_ cs st k P0) (st.take k) false)
    have c2 := callO (fl := true) (ff := F_Observer_next_places_x) (j := 9) (ρ := [x0, x1, x2, x3, dr cs, .str rule, .str name, x7, .tup (encL st), obs cs (atK_ cs st k P0) (st.take k) false, .lst (encL cn), .int (k : Nat), x12, x13, x14, x15]) rfl (next_spec cs (atK_ cs st k P0) (st.take k) false (by omega) (by omega))
    rw [ml] at c2
    have c3 := callO (fl := true) (ff := F_Observer_places_x) (j := 9) (ρ := [x0, x1, x2, x3, dr cs, .str rule, .str name, x7, .tup (encL st), obs cs (atK_ cs st k P0) (st.take k) false, .lst (encL cn), .int (k : Nat), x12, x13, x14, x15]) rfl (places_spec cs (atK_ cs st k P0) (st.take k) false)
    have i1 := inU_encP true (rule, name) (atK_ cs st k P0)
    rw [decide_eq_true inP] at i1
    have i1 : inU true (.tup [.str rule, .str name]) (.tup ((atK_ cs st k P0).map encP)) = some (.bl false) := i1
    have i2 := in_natL true st[k] (srtN (nxs cs (atK_ cs st k P0) k))
    rw [decide_eq_true (nxs_mem inP (by rw [e2]; exact List.getElem?_eq_getElem hks))] at i2
    have i2 : inD true (.int (st[k] : Nat)) (.lst (encL (srtN (nxs cs (atK_ cs st k P0) k)))) = some (.bl false) := i2
    have ix : ixD (.tup (encL st)) (.int (k : Nat)) = some (.int (st[k] : Nat)) := by
      rw [ixD_t, atI_nat' (by rw [encL_len]; exact hks)]
      unfold encL
      rw [List.getElem?_map, List.getElem?_eq_getElem hks]; rfl
    have ct := cut_to (encL st) k
    have ct : cutD (encL st) none (some (k : Int)) = encL (st.take k) := by rw [ct]; unfold encL; rw [List.map_take]
    have i3 : neD (.tup (encL (st.take k))) (.tup (encL (st.take k))) = some (.bl false) := neD_self (encL_okT _)
    have stp := atK_step (cs := cs) (ps := P0) hks
    have inP2 : (rule, name) ∈ atK_ cs st (k + 1) P0 := atK_mem hP e2
    have sw := saw_spec cs (atK_ cs st k P0) (st.take k) st[k] (by rw [ml]; omega) (by
      rw [ml, stp]; intro z; rw [z] at inP2; cases inP2)
    rw [ml, stp] at sw
    have tk : st.take k ++ [st[k]] = st.take (k + 1) := by rw [List.take_succ, List.getElem?_eq_getElem hks]; rfl
    rw [tk] at sw
    have c4 := callO' (fl := true) (ff := F_Observer_saw_x) (j := 9) (ρ := [x0, x1, x2, x3, dr cs, .str rule, .str name, x7, .tup (encL st), obs cs (atK_ cs st k P0) (st.take k) false, .lst (encL cn), .int (k : Nat), x12, x13, x14, x15]) (gs := consD (op2 ixD (vD 8) (vD 11)) nilD) rfl (by
      simp -implicitDefEqProofs only [consD_ap, op2_ap, vD_ap, look_succ, look_zero, bnd_ok, bnd_ap, ix, ofO_some, nilD_ap, ret_ap]) sw
    have c4 : callM "Observer" true F_Observer_saw_x 9 (consD (op2 ixD (vD 8) (vD 11)) nilD) [x0, x1, x2, x3, dr cs, .str rule, .str name, x7, .tup (encL st), obs cs (atK_ cs st k P0) (st.take k) false, .lst (encL cn), .int (k : Nat), x12, x13, x14, x15] = .ok (.int ((atK_ cs st (k + 1) P0).length : Nat)) [x0, x1, x2, x3, dr cs, .str rule, .str name, x7, .tup (encL st), obs cs (atK_ cs st (k + 1) P0) (st.take (k + 1)) false, .lst (encL cn), .int (k : Nat), x12, x13, x14, x15] := c4
    have ap : ∀ X Y, app1 10 (.int ((atK_ cs st (k + 1) P0).length : Nat)) [x0, x1, x2, x3, dr cs, .str rule, .str name, x7, .tup (encL st), X, .lst (encL cn), Y, x12, x13, x14, x15] = .nx [x0, x1, x2, x3, dr cs, .str rule, .str name, x7, .tup (encL st), X, .lst (encL (cn ++ [(atK_ cs st (k + 1) P0).length])), Y, x12, x13, x14, x15] := fun X Y => by
      unfold app1
      have hl : (encL cn).length < 16000000 := by rw [encL_len]; omega
      have em : encL (cn ++ [(atK_ cs st (k + 1) P0).length]) = encL cn ++ [.int ((atK_ cs st (k + 1) P0).length : Nat)] := by unfold encL; rw [List.map_append]; rfl
      rw [em]
      simp -implicitDefEqProofs only [look_succ, look_zero, hl, if_true, List.set_cons_succ, List.set_cons_zero]
    have b : b1_law [x0, x1, x2, x3, dr cs, .str rule, .str name, x7, .tup (encL st), obs cs (atK_ cs st k P0) (st.take k) false, .lst (encL cn), .int (k : Nat), x12, x13, x14, x15] = .nx [x0, x1, x2, x3, dr cs, .str rule, .str name, x7, .tup (encL st), obs cs (atK_ cs st (k + 1) P0) (st.take (k + 1)) false, .lst (encL (cn ++ [(atK_ cs st (k + 1) P0).length])), .int (k : Nat), x12, x13, x14, x15] := by
      unfold b1_law
      generalize atK_ cs st k P0 = A at *
      generalize atK_ cs st (k + 1) P0 = A' at *
      simp -implicitDefEqProofs only [sq_nx, seqS_ap, ret_ap, bnd_ok, bnd_ap, sb_ok, ofO_some, consD_ap, nilD_ap, vD_ap, kD_ap, look_succ, look_zero, List.set_cons_succ, List.set_cons_zero, nxS_ap, ifS_ap, orB_ap, asB_ap, op2_ap, tupD_ap, szO_2, c1, i1, bl1_bl, Bool.false_eq_true, if_false, ix, c2, i2, c3, slM_ap, noP_ap, someP_ap, int1_int, slD_t, ct, i3, appS_ap, c4, ap]
    obtain ⟨y11, ih⟩ := watch_loop x0 x1 x2 x3 x7 x12 x13 x14 x15 m (k + 1) (cn ++ [(atK_ cs st (k + 1) P0).length]) (.int (k : Nat)) (by omega) (by rw [List.length_append, List.length_singleton]; omega)
    refine ⟨y11, ?_⟩
    have ec : encL (List.range' k (m + 1)) = .int (k : Nat) :: encL (List.range' (k + 1) m) := by rw [List.range'_succ]; rfl
    rw [ec, forL_cons (ρ1 := [x0, x1, x2, x3, dr cs, .str rule, .str name, x7, .tup (encL st), obs cs (atK_ cs st k P0) (st.take k) false, .lst (encL cn), .int (k : Nat), x12, x13, x14, x15]) rfl, b, lp_nx, ih, List.append_assoc, List.range'_succ]
    rfl
end
/-- the pairs with just these looks, rule by rule -/
theorem due_loop (cs : List C) (hn : cs.length ≤ 10) (st : List Nat) (x0 x1 x3 x5 x6 x7 x9 x10 x11 x14 x15 : D) : ∀ (L : List Str) (acc : List Pr) (x13 : D), (∀ r ∈ L, r ∈ R3) → acc.length + 6 * L.length ≤ 1000 → ∃ y13,
    forL (bName 13) b2_law (L.map D.str) [x0, x1, .tup (six.map D.str), x3, dr cs, x5, x6, x7, .tup (encL st), x9, x10, x11, .lst (acc.map encP), x13, x14, x15] = .nx [x0, x1, .tup (six.map D.str), x3, dr cs, x5, x6, x7, .tup (encL st), x9, x10, x11, .lst ((acc ++ same_ cs st (prs_ L six)).map encP), y13, x14, x15]
  | [], acc, x13, _, _ => ⟨x13, by rw [show same_ cs st (prs_ [] six) = [] from rfl, List.append_nil]; rfl⟩
  | r :: L, acc, x13, h, hl => by
    simp only [List.length_cons] at hl
    have hr : r = "all" ∨ r = "leaf" ∨ r = "half" := by
      have := h r (by simp)
      simp only [List.mem_cons, List.not_mem_nil, or_false] at this
      rcases this with rfl | rfl | rfl
      · exact .inl rfl
      · exact .inr (.inr rfl)
      · exact .inr (.inl rfl)
    have l := lcF (i := 15) (c := asB (op2 eqD (op2 ixD (callD F_look_up (consD (vD 4) (consD (vD 13) (consD (vD 15) nilD)))) (kD (.int 1))) (vD 8))) (g := tupD (consD (vD 13) (consD (vD 15) nilD))) (ρ := [x0, x1, .tup (six.map D.str), x3, dr cs, x5, x6, x7, .tup (encL st), x9, x10, x11, .lst (acc.map encP), .str r, x14, x15]) D.str (fun h => decide ((lkp cs (r, h)).2 = st)) (fun h => encP (r, h)) (L := six) (by simp) (fun a ha => by
      have lu := look_up_spec cs r a hr (W_six a ha) (by omega)
      have i1 : ixD (encR (lk r (cs.map C.h) a)) (.int 1) = some (.tup (encL (lkp cs (r, a)).2)) := ixD_t.trans atI_1
      have e : eqD (.tup (encL (lkp cs (r, a)).2)) (.tup (encL st)) = some (.bl (decide ((lkp cs (r, a)).2 = st))) := by
        rw [eqD_pur (encL_okT _) (encL_okT _) (purs_encL _) (purs_encL _)]
        congr 2
        rw [decide_eq_decide]
        exact ⟨fun z => encL_injG (D.tup.inj z), fun z => by rw [z]⟩
      simp -implicitDefEqProofs only [asB_ap, op2_ap, callD_ap, consD_ap, nilD_ap, ret_ap, vD_ap, kD_ap, List.set_cons_succ, List.set_cons_zero, look_succ, look_zero, bnd_ok, bnd_ap, lu, ofO_some, i1, e, bl1_bl]) fun a _ _ => by
      simp -implicitDefEqProofs only [tupD_ap, consD_ap, nilD_ap, ret_ap, vD_ap, List.set_cons_succ, List.set_cons_zero, look_succ, look_zero, bnd_ok, bnd_ap, szO_2, ofO_some]
      rfl
    have em : ((six.filter fun h => decide ((lkp cs (r, h)).2 = st)).map fun h => encP (r, h)) = (same_ cs st (six.map fun h => (r, h))).map encP := by
      unfold same_
      rw [List.filter_map, List.map_map]; rfl
    rw [em] at l
    have sl : (same_ cs st (six.map fun h => (r, h))).length ≤ 6 := List.length_filter_le _ _
    have ad : addD (.lst (acc.map encP)) (.lst ((same_ cs st (six.map fun h => (r, h))).map encP)) = some (.lst ((acc ++ same_ cs st (six.map fun h => (r, h))).map encP)) := by
      rw [addD_ll, szO_of (by rw [List.length_append, List.length_map, List.length_map]; omega), List.map_append]; rfl
    have b : b2_law [x0, x1, .tup (six.map D.str), x3, dr cs, x5, x6, x7, .tup (encL st), x9, x10, x11, .lst (acc.map encP), .str r, x14, x15] = .nx [x0, x1, .tup (six.map D.str), x3, dr cs, x5, x6, x7, .tup (encL st), x9, x10, x11, .lst ((acc ++ same_ cs st (six.map fun h => (r, h))).map encP), .str r, x14, x15] := by
      unfold b2_law
      generalize six.map D.str = X at *
      simp -implicitDefEqProofs only [sq_nx, seqS_ap, ret_ap, bnd_ok, bnd_ap, sb_ok, ofO_some, consD_ap, nilD_ap, vD_ap, kD_ap, look_succ, look_zero, List.set_cons_succ, List.set_cons_zero, nxS_ap, setS_ap, op2_ap, lstM_ap, lcD_ap, itD_ap, seqOf_t, l, ad]
    obtain ⟨y13, ih⟩ := due_loop cs hn st x0 x1 x3 x5 x6 x7 x9 x10 x11 x14 x15 L (acc ++ same_ cs st (six.map fun h => (r, h))) (.str r) (fun z hz => h z (by simp [hz])) (by rw [List.length_append]; omega)
    refine ⟨y13, ?_⟩
    have es : same_ cs st (prs_ (r :: L) six) = same_ cs st (six.map fun h => (r, h)) ++ same_ cs st (prs_ L six) := by
      unfold same_ prs_
      rw [List.flatMap_cons, List.filter_append]
    rw [List.map_cons, forL_cons (ρ1 := [x0, x1, .tup (six.map D.str), x3, dr cs, x5, x6, x7, .tup (encL st), x9, x10, x11, .lst (acc.map encP), .str r, x14, x15]) rfl, b, lp_nx, ih, es, List.append_assoc]
end MP.k61
namespace MP.k61
open PySem L2 MP
theorem P0_mem {p : Pr} (h : p ∈ P0) : (p.1 = "all" ∨ p.1 = "leaf" ∨ p.1 = "half") ∧ p.2 ∈ six := by
  obtain ⟨r, hr, hh⟩ := List.mem_flatMap.mp h
  obtain ⟨n, hn, rfl⟩ := List.mem_map.mp hh
  refine ⟨?_, hn⟩
  simp only [List.mem_cons, List.not_mem_nil, or_false] at hr
  rcases hr with rfl | rfl | rfl
  · exact .inl rfl
  · exact .inr (.inr rfl)
  · exact .inr (.inl rfl)
theorem P0_in {r n : Str} (hr : r = "all" ∨ r = "leaf" ∨ r = "half") (hn : n ∈ six) : (r, n) ∈ P0 := by
  refine List.mem_flatMap.mpr ⟨r, ?_, List.mem_map.mpr ⟨n, hn, rfl⟩⟩
  rcases hr with rfl | rfl | rfl <;> simp
theorem same_nx {cs : List C} {st : List Nat} {ps : List Pr} : nxs cs (same_ cs st ps) st.length = [] := by
  unfold nxs
  rw [List.filterMap_eq_nil_iff]
  intro p hp
  have := of_decide_eq_true (List.mem_filter.mp hp).2
  rw [this]
  exact List.getElem?_eq_none (Nat.le_refl _)
theorem cnt_le (cs : List C) (st : List Nat) (ps : List Pr) {i j : Nat} (h : i ≤ j) : (atK_ cs st j ps).length ≤ (atK_ cs st i ps).length := by
  unfold atK_
  rw [← List.countP_eq_length_filter, ← List.countP_eq_length_filter]
  refine List.countP_mono_left fun p _ q => ?_
  have q := of_decide_eq_true q
  refine decide_eq_true ?_
  have := congrArg (List.take i) q
  rwa [List.take_take, List.take_take, Nat.min_eq_left h] at this
theorem cnt_same (cs : List C) (st : List Nat) (ps : List Pr) (i : Nat) : (same_ cs st ps).length ≤ (atK_ cs st i ps).length := by
  unfold atK_ same_
  rw [← List.countP_eq_length_filter, ← List.countP_eq_length_filter]
  refine List.countP_mono_left fun p _ q => ?_
  have q := of_decide_eq_true q
  exact decide_eq_true (by rw [q])
theorem cnt_fall (cs : List C) (st : List Nat) (n : Nat) : (([18] ++ (List.range' 1 n).map fun j => (atK_ cs st j P0).length) ++ [(same_ cs st P0).length]).Pairwise (· ≥ ·) := by
  have e : ([18] ++ (List.range' 1 n).map fun j => (atK_ cs st j P0).length) = (List.range' 0 (n + 1)).map fun j => (atK_ cs st j P0).length := by
    rw [List.range'_succ, List.map_cons, atK_zero]; rfl
  rw [e]
  refine List.pairwise_append.mpr ⟨?_, by simp, fun a ha b hb => ?_⟩
  · rw [List.pairwise_map]
    exact (List.pairwise_lt_range' (s := 0) (n := n + 1)).imp fun {a b} h => cnt_le cs st P0 (Nat.le_of_lt h)
  · obtain ⟨j, _, rfl⟩ := List.mem_map.mp ha
    rw [List.mem_singleton.mp hb]
    exact cnt_same cs st P0 j
theorem turn (ns : List Int) (x0 : D) (i s r : Int) (hi' : 0 ≤ i) (x3 x4 x5 x6 x7 x8 x9 x10 x11 x12 x13 x14 x15 : D) : ∃ i' s' r' y4 y5 y6 y7 y8 y9 y10 y11 y12 y13 y14, 0 ≤ i' ∧ b3_law [x0, .lst (rowD ns i s r), .tup (six.map D.str), x3, x4, x5, x6, x7, x8, x9, x10, x11, x12, x13, x14, x15] = .nx [x0, (.lst (rowD ns i' s' r')), .tup (six.map D.str), x3, y4, y5, y6, y7, y8, y9, y10, y11, y12, y13, y14, x15] := by
  obtain ⟨cs, i1, s1, r1, e1, hd, hn, hi1⟩ := drawer2C ns (i := i) (s := s) (r := r) (m := 10) 10 1 (ρ := [x0, .lst (rowD ns i s r), .tup (six.map D.str), x3, x4, x5, x6, x7, x8, x9, x10, x11, x12, x13, x14, x15]) rfl hi' (by omega)
  have e1 : callR1 F__law_drawer 1 [.int 10] [x0, .lst (rowD ns i s r), .tup (six.map D.str), x3, x4, x5, x6, x7, x8, x9, x10, x11, x12, x13, x14, x15] = .ok (dr cs) [x0, .lst (rowD ns i1 s1 r1), .tup (six.map D.str), x3, x4, x5, x6, x7, x8, x9, x10, x11, x12, x13, x14, x15] := e1
  obtain ⟨rule, i2, s2, r2, e2, hr, hi2⟩ := rule2C ns (i := i1) (s := s1) (r := r1) 1 (ρ := [x0, .lst (rowD ns i1 s1 r1), .tup (six.map D.str), x3, x4, x5, x6, x7, x8, x9, x10, x11, x12, x13, x14, x15]) rfl hi1
  have e2 : callR1 F__law_rule 1 [] [x0, .lst (rowD ns i1 s1 r1), .tup (six.map D.str), x3, x4, x5, x6, x7, x8, x9, x10, x11, x12, x13, x14, x15] = .ok (.str rule) [x0, .lst (rowD ns i2 s2 r2), .tup (six.map D.str), x3, x4, x5, x6, x7, x8, x9, x10, x11, x12, x13, x14, x15] := e2
  obtain ⟨n6, i3, s3, r3, e3, hn6, hi3⟩ := takenC ns (i := i2) (s := s2) (r := r2) (m := 6) 6 1 (ρ := [x0, .lst (rowD ns i2 s2 r2), .tup (six.map D.str), x3, dr cs, .str rule, x6, x7, x8, x9, x10, x11, x12, x13, x14, x15]) rfl hi2 (by omega) (by omega)
  have e3 : callR1 F__law_taken 1 [.int 6] [x0, .lst (rowD ns i2 s2 r2), .tup (six.map D.str), x3, dr cs, .str rule, x6, x7, x8, x9, x10, x11, x12, x13, x14, x15] = .ok (.int n6) [x0, .lst (rowD ns i3 s3 r3), .tup (six.map D.str), x3, dr cs, .str rule, x6, x7, x8, x9, x10, x11, x12, x13, x14, x15] := e3
  obtain ⟨name, hN, ix6⟩ : ∃ name ∈ six, ixD (.tup (six.map D.str)) (.int (n6 : Nat)) = some (.str name) := by
    have hl : n6 < six.length := hn6
    refine ⟨six[n6], List.getElem_mem hl, ?_⟩
    rw [ixD_t, atI_nat' (by rw [List.length_map]; exact hl), List.getElem?_map, List.getElem?_eq_getElem hl]; rfl
  have lu := look_up_spec cs rule name hr (W_six name hN) (by omega)
  obtain ⟨op, st, eo⟩ : ∃ (op : Option Nat) (st : List Nat), lkp cs (rule, name) = (op, st) := ⟨_, _, rfl⟩
  have eo' : lk rule (cs.map C.h) name = (op, st) := eo
  rw [eo', show encR (op, st) = .tup [encO op, .tup (encL st)] from rfl] at lu
  have hP := P0_in hr hN
  have e2' : (lkp cs (rule, name)).2 = st := by rw [eo]
  have sl : st.length ≤ 10 := by have := lkp_len cs (rule, name); rw [e2'] at this; omega
  have ne0 : P0 ≠ [] := fun z => by rw [z] at hP; cases hP
  have mk : makeM "Observer" F_Observer [dr cs, .tup [.str "all", .str "half", .str "leaf"], .tup (six.map D.str)] = some (obs cs P0 [] false) := mk_obs cs (by omega) R3 six (fun r h => (P0_mem (P0_in (n := "ant") (by
      simp only [List.mem_cons, List.not_mem_nil, or_false] at h
      rcases h with rfl | rfl | rfl
      · exact .inl rfl
      · exact .inr (.inr rfl)
      · exact .inr (.inl rfl)) (by simp))).1) (fun n h => W_six n h) (by decide) (by decide) ne0
  have s3' : ∀ (x y z : D), szO [x, y, z] = some [x, y, z] := fun _ _ _ => rfl
  have p0 : (unpS (bTup 2 (bCons (bName 4) (bCons (bName 5) bNil))) (tupD (consD (callR F__law_drawer 1 (consD (kD (.int 10)) nilD)) (consD (callR F__law_rule 1 nilD) nilD)))) [x0, .lst (rowD ns i s r), .tup (six.map D.str), x3, x4, x5, x6, x7, x8, x9, x10, x11, x12, x13, x14, x15] = .nx [x0, .lst (rowD ns i2 s2 r2), .tup (six.map D.str), x3, dr cs, .str rule, x6, x7, x8, x9, x10, x11, x12, x13, x14, x15] := by
    generalize rowD ns i s r = W0 at *
    generalize rowD ns i1 s1 r1 = W1 at *
    generalize rowD ns i2 s2 r2 = W2 at *
    generalize six.map D.str = X at *
    simp -implicitDefEqProofs only [sq_nx, seqS_ap, ret_ap, bnd_ok, bnd_ap, sb_ok, ofO_some, consD_ap, nilD_ap, vD_ap, kD_ap, look_succ, look_zero, List.set_cons_succ, List.set_cons_zero, nxS_ap, unpS_ap, tupD_ap, callR_ap, e1, e2, szO_2, bTup_ap, bCons_ap, bName_ap, bNil_ap, List.length_cons, List.length_nil, Nat.reduceAdd, if_true, Option.bind_some]
  have p1 : (setS 6 (op2 ixD (vD 2) (callR F__law_taken 1 (consD (kD (.int 6)) nilD)))) [x0, .lst (rowD ns i2 s2 r2), .tup (six.map D.str), x3, dr cs, .str rule, x6, x7, x8, x9, x10, x11, x12, x13, x14, x15] = .nx [x0, .lst (rowD ns i3 s3 r3), .tup (six.map D.str), x3, dr cs, .str rule, .str name, x7, x8, x9, x10, x11, x12, x13, x14, x15] := by
    generalize six.map D.str = X at *
    simp -implicitDefEqProofs only [sq_nx, seqS_ap, ret_ap, bnd_ok, bnd_ap, sb_ok, ofO_some, consD_ap, nilD_ap, vD_ap, kD_ap, look_succ, look_zero, List.set_cons_succ, List.set_cons_zero, nxS_ap, setS_ap, op2_ap, callR_ap, e3, ix6]
  have p2 : (unpS (bTup 2 (bCons (bName 7) (bCons (bName 8) bNil))) (callD F_look_up (consD (vD 4) (consD (vD 5) (consD (vD 6) nilD))))) [x0, .lst (rowD ns i3 s3 r3), .tup (six.map D.str), x3, dr cs, .str rule, .str name, x7, x8, x9, x10, x11, x12, x13, x14, x15] = .nx [x0, .lst (rowD ns i3 s3 r3), .tup (six.map D.str), x3, dr cs, .str rule, .str name, encO op, .tup (encL st), x9, x10, x11, x12, x13, x14, x15] := by
    generalize six.map D.str = X at *
    simp -implicitDefEqProofs only [sq_nx, seqS_ap, ret_ap, bnd_ok, bnd_ap, sb_ok, ofO_some, consD_ap, nilD_ap, vD_ap, kD_ap, look_succ, look_zero, List.set_cons_succ, List.set_cons_zero, nxS_ap, unpS_ap, callD_ap, lu, bTup_ap, bCons_ap, bName_ap, bNil_ap, List.length_cons, List.length_nil, Nat.reduceAdd, if_true, Option.bind_some]
  have p3 : (parS [9, 10] (consD (callD (makeM "Observer" F_Observer) (consD (vD 4) (consD (tupD (consD (kD (.str "all")) (consD (kD (.str "half")) (consD (kD (.str "leaf")) nilD)))) (consD (vD 2) nilD)))) (consD (lstM (lstD (consD (kD (.int 18)) nilD))) nilD))) [x0, .lst (rowD ns i3 s3 r3), .tup (six.map D.str), x3, dr cs, .str rule, .str name, encO op, .tup (encL st), x9, x10, x11, x12, x13, x14, x15] = .nx [x0, .lst (rowD ns i3 s3 r3), .tup (six.map D.str), x3, dr cs, .str rule, .str name, encO op, .tup (encL st), obs cs P0 [] false, .lst (encL [18]), x11, x12, x13, x14, x15] := by
    generalize six.map D.str = X at *
    generalize P0 = PP at *
    simp -implicitDefEqProofs only [sq_nx, seqS_ap, ret_ap, bnd_ok, bnd_ap, sb_ok, ofO_some, consD_ap, nilD_ap, vD_ap, kD_ap, look_succ, look_zero, List.set_cons_succ, List.set_cons_zero, nxS_ap, parS_ap, callD_ap, tupD_ap, s3', mk, lstM_ap, lstD_ap, szO_1, setAll_cons, setAll_nil]
    rfl
  -- how many looks there can be
  have c41 := callO (fl := true) (ff := F_Observer_pairs_x) (j := 9) (ρ := [x0, .lst (rowD ns i3 s3 r3), .tup (six.map D.str), x3, dr cs, .str rule, .str name, encO op, .tup (encL st), obs cs P0 [] false, .lst (encL [18]), x11, x12, x13, x14, x15]) rfl (pairs_spec cs P0 [] false)
  obtain ⟨m, mo, mc, _, _⟩ := most_spec cs P0 [] false ne0
  have c42 := callO (fl := true) (ff := F_Observer_most_looks_x) (j := 9) (ρ := [x0, .lst (rowD ns i3 s3 r3), .tup (six.map D.str), x3, dr cs, .str rule, .str name, encO op, .tup (encL st), obs cs P0 [] false, .lst (encL [18]), x11, x12, x13, x14, x15]) rfl mo
  have l4 := lcM (i := 13) (g := callD lenD (consD (op2 ixD (callD F_look_up (consD (vD 4) (consD (op2 ixD (vD 13) (kD (.int 0))) (consD (op2 ixD (vD 13) (kD (.int 1))) nilD)))) (kD (.int 1))) nilD)) (ρ := [x0, .lst (rowD ns i3 s3 r3), .tup (six.map D.str), x3, dr cs, .str rule, .str name, encO op, .tup (encL st), obs cs P0 [] false, .lst (encL [18]), x11, x12, x13, x14, x15]) encP (fun p => inat (lkp cs p).2.length) (L := P0) (by simp) fun p hp => by
    obtain ⟨h1, h2⟩ := P0_mem hp
    have j0 : ixD (encP p) (.int 0) = some (.str p.1) := ixD_t.trans atI_0
    have j1 : ixD (encP p) (.int 1) = some (.str p.2) := ixD_t.trans atI_1
    have lu := look_up_spec cs p.1 p.2 h1 (W_six p.2 h2) (by omega)
    have k1 : ixD (encR (lk p.1 (cs.map C.h) p.2)) (.int 1) = some (.tup (encL (lkp cs p).2)) := ixD_t.trans atI_1
    have ln : lenD [.tup (encL (lkp cs p).2)] = some (inat (lkp cs p).2.length) := by rw [lenD_t, encL_len]
    simp -implicitDefEqProofs only [callD_ap, consD_ap, nilD_ap, ret_ap, op2_ap, vD_ap, kD_ap, List.set_cons_succ, List.set_cons_zero, look_succ, look_zero, bnd_ok, bnd_ap, j0, j1, ofO_some, lu, k1, ln]
  have em : (P0.map fun p => inat (lkp cs p).2.length) = encL (P0.map fun p => (lkp cs p).2.length) := by unfold encL; rw [List.map_map]; rfl
  rw [em] at l4
  have n4 : neD (.int ((m : Int) - ((([] : List Nat).length : Nat) : Int))) (inat m) = some (.bl false) := by
    have : ((m : Int) - ((([] : List Nat).length : Nat) : Int)) = (m : Int) := by simp
    rw [this]
    exact neD_self (okD_flt (k := 0) (by omega) rfl)
  have p4 : (ifS (asB (op2 neD (callM "Observer" true F_Observer_most_looks_x 9 nilD) (callD maxC (consD (lstM (lcD (bName 13) (itD (callM "Observer" true F_Observer_pairs_x 9 nilD)) yesM (callD lenD (consD (op2 ixD (callD F_look_up (consD (vD 4) (consD (op2 ixD (vD 13) (kD (.int 0))) (consD (op2 ixD (vD 13) (kD (.int 1))) nilD)))) (kD (.int 1))) nilD)) [13])) nilD)))) (seqS (retS (kD (.bl false))) nxS) nxS) [x0, .lst (rowD ns i3 s3 r3), .tup (six.map D.str), x3, dr cs, .str rule, .str name, encO op, .tup (encL st), obs cs P0 [] false, .lst (encL [18]), x11, x12, x13, x14, x15] = .nx [x0, .lst (rowD ns i3 s3 r3), .tup (six.map D.str), x3, dr cs, .str rule, .str name, encO op, .tup (encL st), obs cs P0 [] false, .lst (encL [18]), x11, x12, x13, x14, x15] := by
    generalize encL (P0.map fun p => (lkp cs p).2.length) = Y at *
    generalize P0.map encP = PX at *
    generalize P0 = PP at *
    generalize six.map D.str = X at *
    simp -implicitDefEqProofs only [sq_nx, seqS_ap, ret_ap, bnd_ok, bnd_ap, sb_ok, ofO_some, consD_ap, nilD_ap, vD_ap, kD_ap, look_succ, look_zero, List.set_cons_succ, List.set_cons_zero, nxS_ap, ifS_ap, asB_ap, op2_ap, bl1_bl, Bool.false_eq_true, if_false, c42, callD_ap, lstM_ap, lcD_ap, itD_ap, c41, seqOf_t, l4, mc, n4]
  -- look by look
  obtain ⟨y11, lp⟩ := watch_loop cs hn rule name op st eo hP x0 (.lst (rowD ns i3 s3 r3)) (.tup (six.map D.str)) x3 (encO op) x12 x13 x14 x15 st.length 0 [18] x11 (by omega) (by simp)
  rw [atK_zero, List.take_zero, ← List.range_eq_range'] at lp
  obtain ⟨CN, hCN⟩ : ∃ CN, CN = [18] ++ (List.range' (0 + 1) st.length).map fun j => (atK_ cs st j P0).length := ⟨_, rfl⟩
  rw [← hCN] at lp
  have ln5 : lenD [.tup (encL st)] = some (.int (st.length : Nat)) := by rw [lenD_t, encL_len]
  have rg5 : rng1 [.int (st.length : Nat)] = some (encL (List.range st.length)) := by
    rw [rng1_of (by omega) (by omega), rangeL_nat]; rfl
  have p5 : (forS (bName 11) (rngD rng1 (consD (callD lenD (consD (vD 8) nilD)) nilD)) b1_law) [x0, .lst (rowD ns i3 s3 r3), .tup (six.map D.str), x3, dr cs, .str rule, .str name, encO op, .tup (encL st), obs cs P0 [] false, .lst (encL [18]), x11, x12, x13, x14, x15] = .nx [x0, .lst (rowD ns i3 s3 r3), .tup (six.map D.str), x3, dr cs, .str rule, .str name, encO op, .tup (encL st), obs cs (atK_ cs st st.length P0) st false, .lst (encL CN), y11, x12, x13, x14, x15] := by
    generalize encL (List.range st.length) = Y at *
    generalize atK_ cs st st.length P0 = AA at *
    generalize P0 = PP at *
    generalize six.map D.str = X at *
    simp -implicitDefEqProofs only [sq_nx, seqS_ap, ret_ap, bnd_ok, bnd_ap, sb_ok, ofO_some, consD_ap, nilD_ap, vD_ap, kD_ap, look_succ, look_zero, List.set_cons_succ, List.set_cons_zero, nxS_ap, forS_ap, rngD_ap, callD_ap, ln5, rg5, lp]
  -- the end
  obtain ⟨SM, hSM⟩ : ∃ SM, SM = same_ cs st P0 := ⟨_, rfl⟩
  have inS : (rule, name) ∈ SM := by rw [hSM]; exact same_mem hP e2'
  have neS : SM ≠ [] := fun z => by rw [z] at inS; cases inS
  have sml : SM.length ≤ 18 := by rw [hSM]; exact List.length_filter_le _ _
  have en := ended_spec cs (atK_ cs st st.length P0) st (by rw [atK_end, ← hSM]; exact neS)
  rw [atK_end, ← hSM] at en
  have c6 := callO' (fl := true) (ff := F_Observer_ended_x) (j := 9) (ρ := [x0, .lst (rowD ns i3 s3 r3), .tup (six.map D.str), x3, dr cs, .str rule, .str name, encO op, .tup (encL st), obs cs (atK_ cs st st.length P0) st false, .lst (encL CN), y11, x12, x13, x14, x15]) (gs := nilD) (ds := []) rfl rfl en
  have c6 : callM "Observer" true F_Observer_ended_x 9 nilD [x0, .lst (rowD ns i3 s3 r3), .tup (six.map D.str), x3, dr cs, .str rule, .str name, encO op, .tup (encL st), obs cs (atK_ cs st st.length P0) st false, .lst (encL CN), y11, x12, x13, x14, x15] = .ok (.int (SM.length : Nat)) [x0, .lst (rowD ns i3 s3 r3), .tup (six.map D.str), x3, dr cs, .str rule, .str name, encO op, .tup (encL st), obs cs SM st true, .lst (encL CN), y11, x12, x13, x14, x15] := c6
  have cnl : CN.length ≤ 20 := by rw [hCN]; simp; omega
  have ap : app1 10 (.int (SM.length : Nat)) [x0, .lst (rowD ns i3 s3 r3), .tup (six.map D.str), x3, dr cs, .str rule, .str name, encO op, .tup (encL st), obs cs SM st true, .lst (encL CN), y11, x12, x13, x14, x15] = .nx [x0, .lst (rowD ns i3 s3 r3), .tup (six.map D.str), x3, dr cs, .str rule, .str name, encO op, .tup (encL st), obs cs SM st true, .lst (encL (CN ++ [SM.length])), y11, x12, x13, x14, x15] := by
    unfold app1
    have hl : (encL CN).length < 16000000 := by rw [encL_len]; omega
    have em : encL (CN ++ [SM.length]) = encL CN ++ [.int (SM.length : Nat)] := by unfold encL; rw [List.map_append]; rfl
    rw [em]
    simp -implicitDefEqProofs only [look_succ, look_zero, hl, if_true, List.set_cons_succ, List.set_cons_zero]
  have p6 : (appS 10 (callM "Observer" true F_Observer_ended_x 9 nilD)) [x0, .lst (rowD ns i3 s3 r3), .tup (six.map D.str), x3, dr cs, .str rule, .str name, encO op, .tup (encL st), obs cs (atK_ cs st st.length P0) st false, .lst (encL CN), y11, x12, x13, x14, x15] = .nx [x0, .lst (rowD ns i3 s3 r3), .tup (six.map D.str), x3, dr cs, .str rule, .str name, encO op, .tup (encL st), obs cs SM st true, .lst (encL (CN ++ [SM.length])), y11, x12, x13, x14, x15] := by
    generalize atK_ cs st st.length P0 = AA at *
    generalize six.map D.str = X at *
    simp -implicitDefEqProofs only [sq_nx, seqS_ap, ret_ap, bnd_ok, bnd_ap, sb_ok, ofO_some, consD_ap, nilD_ap, vD_ap, kD_ap, look_succ, look_zero, List.set_cons_succ, List.set_cons_zero, nxS_ap, appS_ap, c6, ap]
  have c71 := callO (fl := true) (ff := F_Observer_pairs_x) (j := 9) (ρ := [x0, .lst (rowD ns i3 s3 r3), .tup (six.map D.str), x3, dr cs, .str rule, .str name, encO op, .tup (encL st), obs cs SM st true, .lst (encL (CN ++ [SM.length])), y11, x12, x13, x14, x15]) rfl (pairs_spec cs SM st true)
  have fs := fall_sorted (CN ++ [SM.length]) (by rw [hCN, hSM]; exact cnt_fall cs st st.length)
  have so := sort_ints (ofN (CN ++ [SM.length]))
  rw [← encL_I] at so
  have okC : okD (.lst (encL (CN ++ [SM.length]))) = true := okD_flt (k := 1) (by omega) (by rw [flt]; exact flts_nats _ _)
  have n71 := neD_self okC
  have la : ixD (.lst (encL (CN ++ [SM.length]))) (.int (-1)) = some (.int (SM.length : Nat)) := by rw [ixD_l, last_at]
  have ng : negD (.int 1) = some (.int (-1)) := rfl
  have ln7 : lenD [.tup (SM.map encP)] = some (.int (SM.length : Nat)) := by rw [lenD_t, List.length_map]
  have n72 : neD (.int (SM.length : Nat)) (.int (SM.length : Nat)) = some (.bl false) := neD_self (okD_flt (k := 0) (by omega) rfl)
  have i7 := inU_encP true (rule, name) SM
  rw [decide_eq_true inS] at i7
  have i7 : inU true (.tup [.str rule, .str name]) (.tup (SM.map encP)) = some (.bl false) := i7
  have p7 : (ifS (orB (asB (op2 neD (vD 10) (lstM (revM (lstM (sortM (vD 10))))))) (orB (asB (op2 neD (op2 ixD (vD 10) (op1 negD (kD (.int 1)))) (callD lenD (consD (callM "Observer" true F_Observer_pairs_x 9 nilD) nilD)))) (asB (op2 (inU true) (tupD (consD (vD 5) (consD (vD 6) nilD))) (callM "Observer" true F_Observer_pairs_x 9 nilD))))) (seqS (retS (kD (.bl false))) nxS) nxS) [x0, .lst (rowD ns i3 s3 r3), .tup (six.map D.str), x3, dr cs, .str rule, .str name, encO op, .tup (encL st), obs cs SM st true, .lst (encL (CN ++ [SM.length])), y11, x12, x13, x14, x15] = .nx [x0, .lst (rowD ns i3 s3 r3), .tup (six.map D.str), x3, dr cs, .str rule, .str name, encO op, .tup (encL st), obs cs SM st true, .lst (encL (CN ++ [SM.length])), y11, x12, x13, x14, x15] := by
    generalize encL (CN ++ [SM.length]) = Y at *
    generalize (sortI (ofN (CN ++ [SM.length]))).map D.int = Y2 at *
    generalize SM.map encP = PX at *
    generalize six.map D.str = X at *
    simp -implicitDefEqProofs only [sq_nx, seqS_ap, ret_ap, bnd_ok, bnd_ap, sb_ok, ofO_some, consD_ap, nilD_ap, vD_ap, kD_ap, look_succ, look_zero, List.set_cons_succ, List.set_cons_zero, nxS_ap, ifS_ap, asB_ap, op2_ap, bl1_bl, Bool.false_eq_true, if_false, orB_ap, lstM_ap, revM_ap, sortM_ap, so, fs, n71, op1_ap, ng, la, callD_ap, c71, ln7, n72, tupD_ap, szO_2, i7]
  have p8 : (setS 12 (lstM (lstD nilD))) [x0, .lst (rowD ns i3 s3 r3), .tup (six.map D.str), x3, dr cs, .str rule, .str name, encO op, .tup (encL st), obs cs SM st true, .lst (encL (CN ++ [SM.length])), y11, x12, x13, x14, x15] = .nx [x0, .lst (rowD ns i3 s3 r3), .tup (six.map D.str), x3, dr cs, .str rule, .str name, encO op, .tup (encL st), obs cs SM st true, .lst (encL (CN ++ [SM.length])), y11, .lst [], x13, x14, x15] := by
    generalize six.map D.str = X at *
    simp -implicitDefEqProofs only [sq_nx, seqS_ap, ret_ap, bnd_ok, bnd_ap, sb_ok, ofO_some, consD_ap, nilD_ap, vD_ap, kD_ap, look_succ, look_zero, List.set_cons_succ, List.set_cons_zero, nxS_ap, setS_ap, lstM_ap, lstD_ap, szO_nil]
  obtain ⟨y13, du⟩ := due_loop cs hn st x0 (.lst (rowD ns i3 s3 r3)) x3 (.str rule) (.str name) (encO op) (obs cs SM st true) (.lst (encL (CN ++ [SM.length]))) y11 x14 x15 R3 [] x13 (fun _ h => h) (by decide)
  rw [List.nil_append, ← hSM, List.map_nil] at du
  have it9 : seqOf (.tup [.str "all", .str "half", .str "leaf"]) = some (R3.map D.str) := rfl
  have p9 : (forS (bName 13) (itD (tupD (consD (kD (.str "all")) (consD (kD (.str "half")) (consD (kD (.str "leaf")) nilD))))) b2_law) [x0, .lst (rowD ns i3 s3 r3), .tup (six.map D.str), x3, dr cs, .str rule, .str name, encO op, .tup (encL st), obs cs SM st true, .lst (encL (CN ++ [SM.length])), y11, .lst [], x13, x14, x15] = .nx [x0, .lst (rowD ns i3 s3 r3), .tup (six.map D.str), x3, dr cs, .str rule, .str name, encO op, .tup (encL st), obs cs SM st true, .lst (encL (CN ++ [SM.length])), y11, .lst (SM.map encP), y13, x14, x15] := by
    generalize R3.map D.str = RX at *
    generalize SM.map encP = PX at *
    generalize six.map D.str = X at *
    simp -implicitDefEqProofs only [sq_nx, seqS_ap, ret_ap, bnd_ok, bnd_ap, sb_ok, ofO_some, consD_ap, nilD_ap, vD_ap, kD_ap, look_succ, look_zero, List.set_cons_succ, List.set_cons_zero, nxS_ap, forS_ap, itD_ap, tupD_ap, s3', it9, du]
  -- what is told in the end
  have c101 := callO (fl := true) (ff := F_Observer_pairs_x) (j := 9) (ρ := [x0, .lst (rowD ns i3 s3 r3), .tup (six.map D.str), x3, dr cs, .str rule, .str name, encO op, .tup (encL st), obs cs SM st true, .lst (encL (CN ++ [SM.length])), y11, .lst (SM.map encP), y13, x14, x15]) rfl (pairs_spec cs SM st true)
  have c102 := callO (fl := true) (ff := F_Observer_next_places_x) (j := 9) (ρ := [x0, .lst (rowD ns i3 s3 r3), .tup (six.map D.str), x3, dr cs, .str rule, .str name, encO op, .tup (encL st), obs cs SM st true, .lst (encL (CN ++ [SM.length])), y11, .lst (SM.map encP), y13, x14, x15]) rfl (next_spec cs SM st true (by omega) (by omega))
  have nx0 : nxs cs SM st.length = [] := by rw [hSM]; exact same_nx
  rw [nx0] at c102
  obtain ⟨m2, mo2, _, ⟨q, hq, eq⟩, _⟩ := most_spec cs SM st true neS
  have em2 : m2 = st.length := by
    rw [hSM] at hq
    rw [eq, of_decide_eq_true (List.mem_filter.mp hq).2]
  have c103 := callO (fl := true) (ff := F_Observer_most_looks_x) (j := 9) (ρ := [x0, .lst (rowD ns i3 s3 r3), .tup (six.map D.str), x3, dr cs, .str rule, .str name, encO op, .tup (encL st), obs cs SM st true, .lst (encL (CN ++ [SM.length])), y11, .lst (SM.map encP), y13, x14, x15]) rfl mo2
  have c104 := callO (fl := true) (ff := F_Observer_is_closed_x) (j := 9) (ρ := [x0, .lst (rowD ns i3 s3 r3), .tup (six.map D.str), x3, dr cs, .str rule, .str name, encO op, .tup (encL st), obs cs SM st true, .lst (encL (CN ++ [SM.length])), y11, .lst (SM.map encP), y13, x14, x15]) rfl (closed_spec cs SM st true)
  have n101 := neD_encPs SM SM
  rw [decide_eq_true rfl] at n101
  have n101 : neD (.tup (SM.map encP)) (.tup (SM.map encP)) = some (.bl false) := n101
  have s0 : srtN [] = [] := List.eq_nil_iff_forall_not_mem.mpr fun z h => by rw [srtN_mem] at h; cases h
  have n102 : neD (.lst (encL (srtN []))) (.lst []) = some (.bl false) := by rw [s0]; rfl
  have n103 : neD (.int ((m2 : Int) - ((st.length : Nat) : Int))) (.int 0) = some (.bl false) := by
    rw [em2, neD_ii, decide_eq_true (by omega)]; rfl
  have tp : tupleD [.lst (SM.map encP)] = some (.tup (SM.map encP)) := rfl
  have p10 : (ifS (orB (asB (op2 neD (callM "Observer" true F_Observer_pairs_x 9 nilD) (callD tupleD (consD (vD 12) nilD)))) (orB (asB (op2 neD (callM "Observer" true F_Observer_next_places_x 9 nilD) (lstM (lstD nilD)))) (orB (asB (op2 neD (callM "Observer" true F_Observer_most_looks_x 9 nilD) (kD (.int 0)))) (notB (asB (callM "Observer" true F_Observer_is_closed_x 9 nilD)))))) (seqS (retS (kD (.bl false))) nxS) nxS) [x0, .lst (rowD ns i3 s3 r3), .tup (six.map D.str), x3, dr cs, .str rule, .str name, encO op, .tup (encL st), obs cs SM st true, .lst (encL (CN ++ [SM.length])), y11, .lst (SM.map encP), y13, x14, x15] = .nx [x0, .lst (rowD ns i3 s3 r3), .tup (six.map D.str), x3, dr cs, .str rule, .str name, encO op, .tup (encL st), obs cs SM st true, .lst (encL (CN ++ [SM.length])), y11, .lst (SM.map encP), y13, x14, x15] := by
    generalize encL (srtN []) = Y0 at *
    generalize encL (CN ++ [SM.length]) = Y at *
    generalize SM.map encP = PX at *
    generalize six.map D.str = X at *
    simp -implicitDefEqProofs only [sq_nx, seqS_ap, ret_ap, bnd_ok, bnd_ap, sb_ok, ofO_some, consD_ap, nilD_ap, vD_ap, kD_ap, look_succ, look_zero, List.set_cons_succ, List.set_cons_zero, nxS_ap, ifS_ap, asB_ap, op2_ap, bl1_bl, Bool.false_eq_true, if_false, orB_ap, notB_ap, c101, callD_ap, tp, n101, c102, lstM_ap, lstD_ap, szO_nil, n102, c103, n103, c104, Bool.not_true]
  have l11 := lc_mapA (b := bTup 2 (bCons (bName 13) (bCons (bName 15) bNil))) (g := op2 ixD (callD F_look_up (consD (vD 4) (consD (vD 13) (consD (vD 15) nilD)))) (kD (.int 0))) (vs := [13, 15]) (ρ := [x0, .lst (rowD ns i3 s3 r3), .tup (six.map D.str), x3, dr cs, .str rule, .str name, encO op, .tup (encL st), obs cs SM st true, .lst (encL (CN ++ [SM.length])), y11, .lst (SM.map encP), y13, x14, x15]) encP (fun p => encO (lkp cs p).1) (L := SM) fun p hp => ⟨[x0, .lst (rowD ns i3 s3 r3), .tup (six.map D.str), x3, dr cs, .str rule, .str name, encO op, .tup (encL st), obs cs SM st true, .lst (encL (CN ++ [SM.length])), y11, .lst (SM.map encP), .str p.1, x14, .str p.2], rfl, by
    rw [hSM] at hp
    obtain ⟨h1, h2⟩ := P0_mem (List.mem_filter.mp hp).1
    have lu := look_up_spec cs p.1 p.2 h1 (W_six p.2 h2) (by omega)
    have k1 : ixD (encR (lk p.1 (cs.map C.h) p.2)) (.int 0) = some (encO (lkp cs p).1) := ixD_t.trans atI_0
    generalize SM.map encP = PX at *
    generalize six.map D.str = X at *
    simp -implicitDefEqProofs only [callD_ap, consD_ap, nilD_ap, ret_ap, op2_ap, vD_ap, kD_ap, look_succ, look_zero, bnd_ok, bnd_ap, ofO_some, lu, k1], rfl⟩
  have p11 : (setLS 14 (lcD (bTup 2 (bCons (bName 13) (bCons (bName 15) bNil))) (itD (vD 12)) yesM (op2 ixD (callD F_look_up (consD (vD 4) (consD (vD 13) (consD (vD 15) nilD)))) (kD (.int 0))) [13, 15])) [x0, .lst (rowD ns i3 s3 r3), .tup (six.map D.str), x3, dr cs, .str rule, .str name, encO op, .tup (encL st), obs cs SM st true, .lst (encL (CN ++ [SM.length])), y11, .lst (SM.map encP), y13, x14, x15] = .nx [x0, .lst (rowD ns i3 s3 r3), .tup (six.map D.str), x3, dr cs, .str rule, .str name, encO op, .tup (encL st), obs cs SM st true, .lst (encL (CN ++ [SM.length])), y11, .lst (SM.map encP), y13, .lst (SM.map fun p => encO (lkp cs p).1), x15] := by
    generalize (SM.map fun p => encO (lkp cs p).1) = Z at *
    generalize SM.map encP = PX at *
    generalize six.map D.str = X at *
    simp -implicitDefEqProofs only [sq_nx, seqS_ap, ret_ap, bnd_ok, bnd_ap, sb_ok, ofO_some, consD_ap, nilD_ap, vD_ap, kD_ap, look_succ, look_zero, List.set_cons_succ, List.set_cons_zero, nxS_ap, setLS_ap, lcD_ap, itD_ap, seqOf_l, l11]
  have c121 := callO (fl := true) (ff := F_Observer_could_find_x) (j := 9) (ρ := [x0, .lst (rowD ns i3 s3 r3), .tup (six.map D.str), x3, dr cs, .str rule, .str name, encO op, .tup (encL st), obs cs SM st true, .lst (encL (CN ++ [SM.length])), y11, .lst (SM.map encP), y13, .lst (SM.map fun p => encO (lkp cs p).1), x15]) rfl (could_spec cs SM st true (by omega) (by omega))
  have l12 := lcF (i := 11) (c := asB (op2 notND (vD 11) (kD .non))) (g := vD 11) (ρ := [x0, .lst (rowD ns i3 s3 r3), .tup (six.map D.str), x3, dr cs, .str rule, .str name, encO op, .tup (encL st), obs cs SM st true, .lst (encL (CN ++ [SM.length])), y11, .lst (SM.map encP), y13, .lst (SM.map fun p => encO (lkp cs p).1), x15]) (fun p => encO (lkp cs p).1) (fun p => (lkp cs p).1.isSome) (fun p => encO (lkp cs p).1) (L := SM) (by simp) (fun p _ => by
    have q : notND (encO (lkp cs p).1) .non = some (.bl (lkp cs p).1.isSome) := by cases (lkp cs p).1 <;> rfl
    simp -implicitDefEqProofs only [asB_ap, op2_ap, vD_ap, kD_ap, List.set_cons_succ, List.set_cons_zero, look_succ, look_zero, bnd_ok, bnd_ap, q, ofO_some, bl1_bl]) fun p _ _ => rfl
  rw [filt_opt (fun p => (lkp cs p).1)] at l12
  have l12 : lcL (bName 11) (asB (op2 notND (vD 11) (kD .non))) (vD 11) [11] (SM.map fun p => encO (lkp cs p).1) [x0, .lst (rowD ns i3 s3 r3), .tup (six.map D.str), x3, dr cs, .str rule, .str name, encO op, .tup (encL st), obs cs SM st true, .lst (encL (CN ++ [SM.length])), y11, .lst (SM.map encP), y13, .lst (SM.map fun p => encO (lkp cs p).1), x15] [] = .ok (encL (fnds cs SM)) [x0, .lst (rowD ns i3 s3 r3), .tup (six.map D.str), x3, dr cs, .str rule, .str name, encO op, .tup (encL st), obs cs SM st true, .lst (encL (CN ++ [SM.length])), y11, .lst (SM.map encP), y13, .lst (SM.map fun p => encO (lkp cs p).1), x15] := l12
  have fl : (fnds cs SM).length ≤ SM.length := List.length_filterMap_le _ _
  have ss := sortSet_N (fnds cs SM) (by omega) fun n h => by
    obtain ⟨p, _, e⟩ := List.mem_filterMap.mp h
    have := lkp_fst cs p e
    omega
  have n12 : neD (.lst (encL (srtN (fnds cs SM)))) (.lst (encL (srtN (fnds cs SM)))) = some (.bl false) := neD_self (okD_flt (k := 1) (by omega) (by rw [flt]; exact flts_nats _ _))
  have p12 : (ifS (asB (op2 neD (callM "Observer" true F_Observer_could_find_x 9 nilD) (lstM (bnd (lstM (lcD (bName 11) (itD (vD 14)) (asB (op2 notND (vD 11) (kD .non))) (vD 11) [11])) fun d => ofO (sortSetD d))))) (seqS (retS (kD (.bl false))) nxS) nxS) [x0, .lst (rowD ns i3 s3 r3), .tup (six.map D.str), x3, dr cs, .str rule, .str name, encO op, .tup (encL st), obs cs SM st true, .lst (encL (CN ++ [SM.length])), y11, .lst (SM.map encP), y13, .lst (SM.map fun p => encO (lkp cs p).1), x15] = .nx [x0, .lst (rowD ns i3 s3 r3), .tup (six.map D.str), x3, dr cs, .str rule, .str name, encO op, .tup (encL st), obs cs SM st true, .lst (encL (CN ++ [SM.length])), y11, .lst (SM.map encP), y13, .lst (SM.map fun p => encO (lkp cs p).1), x15] := by
    generalize (SM.map fun p => encO (lkp cs p).1) = Z at *
    generalize encL (srtN (fnds cs SM)) = Y1 at *
    generalize encL (fnds cs SM) = Y2 at *
    generalize SM.map encP = PX at *
    generalize six.map D.str = X at *
    simp -implicitDefEqProofs only [sq_nx, seqS_ap, ret_ap, bnd_ok, bnd_ap, sb_ok, ofO_some, consD_ap, nilD_ap, vD_ap, kD_ap, look_succ, look_zero, List.set_cons_succ, List.set_cons_zero, nxS_ap, ifS_ap, asB_ap, op2_ap, bl1_bl, Bool.false_eq_true, if_false, c121, lstM_ap, lcD_ap, itD_ap, seqOf_l, l12, ss, n12]
  have p13 : (ifS (andB (asB (op2 notND (vD 7) (kD .non))) (asB (op2 (inD true) (vD 7) (callM "Observer" true F_Observer_could_find_x 9 nilD)))) (seqS (retS (kD (.bl false))) nxS) nxS) [x0, .lst (rowD ns i3 s3 r3), .tup (six.map D.str), x3, dr cs, .str rule, .str name, encO op, .tup (encL st), obs cs SM st true, .lst (encL (CN ++ [SM.length])), y11, .lst (SM.map encP), y13, .lst (SM.map fun p => encO (lkp cs p).1), x15] = .nx [x0, .lst (rowD ns i3 s3 r3), .tup (six.map D.str), x3, dr cs, .str rule, .str name, encO op, .tup (encL st), obs cs SM st true, .lst (encL (CN ++ [SM.length])), y11, .lst (SM.map encP), y13, .lst (SM.map fun p => encO (lkp cs p).1), x15] := by
    cases hop : op with
    | none =>
      subst hop
      have q : notND (encO none) .non = some (.bl false) := rfl
      generalize (SM.map fun p => encO (lkp cs p).1) = Z at *
      generalize SM.map encP = PX at *
      generalize six.map D.str = X at *
      simp -implicitDefEqProofs only [sq_nx, seqS_ap, ret_ap, bnd_ok, bnd_ap, sb_ok, ofO_some, consD_ap, nilD_ap, vD_ap, kD_ap, look_succ, look_zero, List.set_cons_succ, List.set_cons_zero, nxS_ap, ifS_ap, asB_ap, op2_ap, bl1_bl, Bool.false_eq_true, if_false, andB_ap, q]
    | some pl =>
      subst hop
      have q : notND (encO (some pl)) .non = some (.bl true) := rfl
      have i13 := in_natL true pl (srtN (fnds cs SM))
      rw [decide_eq_true (fnds_mem inS (by rw [eo]))] at i13
      have i13 : inD true (encO (some pl)) (.lst (encL (srtN (fnds cs SM)))) = some (.bl false) := i13
      generalize (SM.map fun p => encO (lkp cs p).1) = Z at *
      generalize encL (srtN (fnds cs SM)) = Y1 at *
      generalize SM.map encP = PX at *
      generalize six.map D.str = X at *
      simp -implicitDefEqProofs only [sq_nx, seqS_ap, ret_ap, bnd_ok, bnd_ap, sb_ok, ofO_some, consD_ap, nilD_ap, vD_ap, kD_ap, look_succ, look_zero, List.set_cons_succ, List.set_cons_zero, nxS_ap, ifS_ap, asB_ap, op2_ap, bl1_bl, Bool.false_eq_true, if_false, andB_ap, q, if_true, c121, i13]
  refine ⟨i3, s3, r3, dr cs, .str rule, .str name, encO op, .tup (encL st), obs cs SM st true, .lst (encL (CN ++ [SM.length])), y11, .lst (SM.map encP), y13, .lst (SM.map fun p => encO (lkp cs p).1), hi3, ?_⟩
  unfold b3_law
  rw [seqS_ap, p0, sq_nx, seqS_ap, p1, sq_nx, seqS_ap, p2, sq_nx, seqS_ap, p3, sq_nx, seqS_ap, p4, sq_nx, seqS_ap, p5, sq_nx, seqS_ap, p6, sq_nx, seqS_ap, p7, sq_nx, seqS_ap, p8, sq_nx, seqS_ap, p9, sq_nx, seqS_ap, p10, sq_nx, seqS_ap, p11, sq_nx, seqS_ap, p12, sq_nx, seqS_ap, p13, sq_nx]
  rfl
theorem turns (ns : List Int) (x0 : D) : ∀ (ds : List D) (i s r : Int) (x3 x4 x5 x6 x7 x8 x9 x10 x11 x12 x13 x14 x15 : D), 0 ≤ i → ∃ ρ, forL (bName 3) b3_law ds [x0, .lst (rowD ns i s r), .tup (six.map D.str), x3, x4, x5, x6, x7, x8, x9, x10, x11, x12, x13, x14, x15] = .nx ρ
  | [], i, s, r, x3, x4, x5, x6, x7, x8, x9, x10, x11, x12, x13, x14, x15, hi => ⟨_, rfl⟩
  | d :: ds, i, s, r, x3, x4, x5, x6, x7, x8, x9, x10, x11, x12, x13, x14, x15, hi => by
    obtain ⟨i', s', r', y4, y5, y6, y7, y8, y9, y10, y11, y12, y13, y14, hi', b⟩ := turn ns x0 i s r hi d x4 x5 x6 x7 x8 x9 x10 x11 x12 x13 x14 x15
    obtain ⟨ρ, ih⟩ := turns ns x0 ds i' s' r' d y4 y5 y6 y7 y8 y9 y10 y11 y12 y13 y14 x15 hi'
    exact ⟨ρ, by rw [forL_cons (ρ1 := [x0, .lst (rowD ns i s r), .tup (six.map D.str), d, x4, x5, x6, x7, x8, x9, x10, x11, x12, x13, x14, x15]) rfl, b, lp_nx, ih]⟩
theorem law_true (ns : List Int) (h : ns.length ≤ 63) : F_law [.lst (ns.map D.int)] = some (.bl true) := by
  obtain ⟨x0, hx0⟩ : ∃ x0, x0 = D.lst (ns.map D.int) := ⟨_, rfl⟩
  have p0 : (setLS 1 (lstD (consD (vD 0) (consD (kD (.int 0)) (consD (kD (.int 0)) (consD (kD (.int 0)) nilD)))))) [x0, .non, .non, .non, .non, .non, .non, .non, .non, .non, .non, .non, .non, .non, .non, .non] = .nx [x0, .lst (rowD ns 0 0 0), .non, .non, .non, .non, .non, .non, .non, .non, .non, .non, .non, .non, .non, .non] := by
    subst hx0
    simp -implicitDefEqProofs only [sq_nx, seqS_ap, ret_ap, bnd_ok, bnd_ap, sb_ok, ofO_some, consD_ap, nilD_ap, vD_ap, kD_ap, look_succ, look_zero, List.set_cons_succ, List.set_cons_zero, nxS_ap, setLS_ap, lstD_ap, szO_of, List.length_cons, List.length_nil, Nat.reduceAdd, Nat.reduceLeDiff]
    rfl
  have s6 : szO [D.str "ant", D.str "bee", D.str "cat", D.str "dog", D.str "elk", D.str "fox"] = some (six.map D.str) := rfl
  have p1 : (setS 2 (tupD (consD (kD (.str "ant")) (consD (kD (.str "bee")) (consD (kD (.str "cat")) (consD (kD (.str "dog")) (consD (kD (.str "elk")) (consD (kD (.str "fox")) nilD)))))))) [x0, .lst (rowD ns 0 0 0), .non, .non, .non, .non, .non, .non, .non, .non, .non, .non, .non, .non, .non, .non] = .nx [x0, .lst (rowD ns 0 0 0), .tup (six.map D.str), .non, .non, .non, .non, .non, .non, .non, .non, .non, .non, .non, .non, .non] := by
    simp -implicitDefEqProofs only [sq_nx, seqS_ap, ret_ap, bnd_ok, bnd_ap, sb_ok, ofO_some, consD_ap, nilD_ap, vD_ap, kD_ap, look_succ, look_zero, List.set_cons_succ, List.set_cons_zero, nxS_ap, setS_ap, tupD_ap, s6]
  obtain ⟨ρ, lp⟩ := turns ns x0 (rangeL 0 5) 0 0 0 .non .non .non .non .non .non .non .non .non .non .non .non .non (by omega)
  have rg : rng1 [.int 5] = some (rangeL 0 5) := rng1_of (by omega) (by omega)
  have p2 : (forS (bName 3) (rngD rng1 (consD (kD (.int 5)) nilD)) b3_law) [x0, .lst (rowD ns 0 0 0), .tup (six.map D.str), .non, .non, .non, .non, .non, .non, .non, .non, .non, .non, .non, .non, .non] = .nx ρ := by
    generalize six.map D.str = X at *
    simp -implicitDefEqProofs only [sq_nx, seqS_ap, ret_ap, bnd_ok, bnd_ap, sb_ok, ofO_some, consD_ap, nilD_ap, vD_ap, kD_ap, look_succ, look_zero, List.set_cons_succ, List.set_cons_zero, nxS_ap, forS_ap, rngD_ap, rg, lp]
  unfold F_law runV
  rw [← hx0]
  unfold d_law
  simp -implicitDefEqProofs only [List.length_cons, List.length_nil, startD_ap, List.cons_append, List.nil_append, Nat.reduceAdd, Nat.reduceSub, List.replicate, if_true]
  rw [seqS_ap, p0, sq_nx, seqS_ap, p1, sq_nx, seqS_ap, p2, sq_nx]
  rfl
end MP.k61
open PySem PySem.W PySem.Calls PyProof.Rows
theorem PySem.Challenge.cw_seerings_k61_whole_observers_and_lookups_holds : PySem.Challenge.rw_seerings_k61_whole_observers_and_lookups.Holds := by
  w_on; o_law
  refine HandSHeadRun.head_any (r := MP.k61.R) (q := view MP.k61.R.prog [42]) (H := MP.k61.hk) (ob := MP.k61.ob) (M := 20000) (loose := MP.k61.names) (d := HandSHeadRun.topDef MP.k61.R.prog 42) (kwd := []) MP.k61.ob_eq
    (by kernel_rfl) (fun s => by kernel_rfl) MP.k61.run (by kernel_rfl) (by kernel_rfl) (by kernel_rfl) (by rfl) (by first | assumption | decide +kernel) (by decide +kernel) ⟨rfl, rfl, rfl, rfl, rfl, by decide +kernel⟩ ?hw ?hc
  case hw => w_witness2
  case hc =>
    refine LamX.walk_ofTsE (l := PySem.Challenge.rw_seerings_k61_whole_observers_and_lookups) (n := 63) (k := 7) (x := "_law_script") (CX := fun _ => L2.CX0) rfl (by decide) (by kernel_rfl) ⟨rfl, by decide, by decide⟩ ?F (fun _ _ _ _ _ z => z)
    intro w mg fa h Y G hmg0
    obtain ⟨K, KX, c⟩ := Y
    have hmg : mg ("law" : PySem.Str) = some (.ref fa) := by
      have e : (HandSHeadRun.topDef MP.k61.R.prog 42).name = ("law" : PySem.Str) := by kernel_rfl
      rw [← e]
      exact hmg0
    obtain ⟨fd, hb, hF⟩ := MP.k61.facts (P := (PySem.Challenge.rw_seerings_k61_whole_observers_and_lookups).prog) (w := w) KX G hmg c
    refine ⟨K, KX, fd, MP.k61.tf.map (He.cT K), MP.spV K 1 MP.k61.F_law, ?_, ?_, ?_, hb, fun H a ns hl _ hT hS => MP.law_spT (MP.k61.tfB_of c) hT hS hl (MP.k61.law_true ns hl), hF⟩
    · intro p hp
      obtain ⟨q, hq, rfl⟩ := List.mem_map.mp hp
      exact c.x.empty q hq
    · intro p hp
      obtain ⟨q, hq, rfl⟩ := List.mem_map.mp hp
      exact c.x.out q hq
    · intro p hp
      obtain ⟨q, hq, rfl⟩ := List.mem_map.mp hp
      exact codeHd_of_K KX (c.x.hd q hq)
