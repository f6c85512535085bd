import PyProof.Rows.All
import Wide.All
import OpenK.AllK
import Wide.FinOn
import HandS.NoneIn
import HandS.ForMost
import HandS.ForExc
import HandS.Flow
import HandS.Slots
import HandS.SlotsOwn
import HandS.Defaults
import HandS.HeadHook4
import HandS.Lambda
import HandS.TupAny
import HandS.TupMul
import HandS.TupLe
import HandS.Star
import HandS.Conv
import HandS.IsInst
import HandS.Text
import HandS.Zip
import HandS.Deep
import HandS.MakeKw
import HandS.Set
import HandS.SetKeys
import HandS.Strs
import HandS.More
import HandS.SetFor
import KE.GoesMore
import KE.KLam
import KE.SortKeyHeap
import KE.DataMinMax
import KE.DataEq
import HandS.Head0
import HandS.Head1
import HandS.Head2
import HandS.HeadEnd
import HandS.Keys
import HandS.SortKw
import KE.KSortKey
import HandS.HeadWalk
import HandS.OwnEq
import KE.SortData
import HandS.DictComp
import HandS.WordsDict
import KE.KEqDict
import PyProof.InstNe
import PySem.Challenge.RW_seerings_k09_whole_rings_by_powers
set_option Elab.async false
set_option linter.all false
set_option maxRecDepth 100000
set_option maxHeartbeats 0
namespace MP
open PySem PySem.Spec PyProof.Rows L2 PySem.SeqAt PySem.W
/-! ### dicts whose keys are None or ints, of which only the keys matter -/
abbrev oiK (k : Option Int) : Option Key := k.map Sum.inl
theorem oiK_inj {a b : Option Int} (h : oiK a = oiK b) : a = b := by
  cases a <;> cases b <;> simp_all [oiK]
/-- the kind of key; its hash does not ask the world -/
def oiKind (prog : Program) (w : World) : PySem.KeyKind prog w (Option Int) where
  is := fun k v => nkIs (oiK k) v
  hash := fun k => match k with
    | none => reduceHash 0xFCA86420
    | some i => hashInt i
  inj := fun v a b ha hb => oiK_inj ((noneKind prog w).inj v _ _ ha hb)
  byValue := fun k v h => (noneKind prog w).byValue _ v h
  pyHash := @fun A E s k v Q hv h => (noneKind prog w).pyHash (k := oiK k) hv (by cases k <;> exact h)
  eqBool := @fun A E s a b u v Q hu hv h => (noneKind prog w).eqBool (a := oiK a) (b := oiK b) hu hv (by
    have e : decide (oiK a = oiK b) = decide (a = b) := by
      by_cases z : a = b
      · rw [z, decide_eq_true rfl, decide_eq_true rfl]
      · rw [decide_eq_false z, decide_eq_false fun q => z (oiK_inj q)]
    rw [e]
    exact h)
  «strs» := fun k x t v h => (noneKind prog w).«strs» (oiK k) x t v h
/-- the dict: ks its keys, as they were laid -/
def OiR (h : Heap) (a : Addr) (ks : List (Option Int)) : Prop := (a == sysModules) = false ∧ ∃ vs, (∀ (P : Program) (w : World), h.DictOf (oiKind P w) a vs) ∧ vs.map (·.1) = ks
def OiO (a : Addr) (ks : List (Option Int)) : HO := .ext fun h => OiR h a ks
end MP
/-! MP: plain data above the hand layer. -/
namespace MP
open PySem L2
/-- data as a whole -/
inductive D where
  | non | bl (b : Bool) | int (i : Int) | str (s : Str)
  | tup (ds : List D) | lst (ds : List D) | dct (kvs : List (D × D)) | ins (c : Str) (fs : List D)
  /-- dicts by keys that are ints or texts; by keys that are tuples of such; lk: it is never changed any more, and known to be locked -/
  | dk (lk : Bool) (ks : List Key) (ds : List D) | dt (lk : Bool) (ks : List (List Key)) (ds : List D)
/-! ### classes whose instances have a dict: the fields, in the order in which they are first set; the fields that hold a list or a dict of the instance's own -/
def CLS : List (Str × List Str) := [
  ("Walk", ["word", "steps", "sought", "effort"]),
  ("Gathering", ["drawer", "rule", "way", "agenda", "walked", "visited", "gathered"]),
  ("Pile", ["base", "rule", "order", "effort"]),
  ("Wear", ["base", "rule", "requests", "strength", "left", "counts", "made"]),
  ("Observer", ["rows", "met", "has_ended"]),
  ("Sharing", ["base", "rule", "known"]),
  ("Reader", ["data", "spot"])]
def flds (c : Str) : List Str := (CLS.lookup c).getD []
def LBOX : List Str := ["steps", "sought", "agenda", "visited", "counts"]
def KBOX : List Str := ["walked", "gathered"]
def TBOX : List Str := ["known"]
def boxF (f : Str) : Bool := LBOX.elem f || KBOX.elem f || TBOX.elem f
abbrev Ex (H H' : Hp) : Prop := Same H H'
theorem Ex.rfl {H : Hp} : Ex H H := Same.refl H
theorem Ex.new {H : Hp} {p : Addr} {o : HO} (h : H p = none) : Ex H (upd H p o) := fun a u e => by
  rw [upd_ne (ne_of_none e h)]
  exact e
/-! ### tables of code objects: a lambda that is made is told there -/
def isTb : HO → Bool
  | .tbl _ => true
  | _ => false
def isFz : HO → Bool
  | .frz _ _ => true
  | _ => false
/-- a code object, as it stands -/
def CodF (oc : Obj) : Prop := ∃ (vs : Array Value) (q : Str) (t : Tok), oc.data = .fields vs ∧ vs[1]? = some (.str q t)
/-- what stands in H stands in H', but for the tables -/
def ExN (H H' : Hp) : Prop := ∀ a o, H a = some o → isTb o = false → H' a = some o
theorem Ex.n {H H' : Hp} (e : Ex H H') : ExN H H' := fun a o h _ => e a o h
/-- what a table tells is a code object -/
def TabsH (T : List Addr) (H : Hp) : Prop := ∀ P ∈ T, ∀ ps, H P = some (.tbl ps) → TriplesOk ps.toList ∧ ∀ (pos : Pos) (cv : Value), codeAmong pos ps.toList = some cv → ∃ c oc, cv = .ref c ∧ H c = some (.frz oc (.own 0)) ∧ CodF oc
def TabsK (H H' : Hp) : Prop := ∀ P ps, H P = some (.tbl ps) → ∃ ps', H' P = some (.tbl ps')
theorem TabsK.rfl {H : Hp} : TabsK H H := fun _ ps h => ⟨ps, h⟩
theorem TabsK.trans {H H1 H2 : Hp} (a : TabsK H H1) (b : TabsK H1 H2) : TabsK H H2 := fun P ps h => let ⟨p1, h1⟩ := a P ps h; b P p1 h1
/-- an object that is neither table nor code is put -/
def plainO (o : HO) : Prop := isTb o = false ∧ isFz o = false
theorem TabsH.upd {T : List Addr} {H : Hp} (t : TabsH T H) {a : Addr} {o : HO} (h : H a = none ∨ ∃ u, H a = some u ∧ plainO u) (ho : isTb o = false) : TabsH T (upd H a o) := fun P hT ps e => by
  by_cases z : P = a
  · subst z; rw [upd_same] at e; cases e; cases ho
  · rw [upd_ne z] at e
    obtain ⟨x, y⟩ := t P hT ps e
    refine ⟨x, fun pos cv hc => ?_⟩
    obtain ⟨c, q, e1, e2, e3⟩ := y pos cv hc
    refine ⟨c, q, e1, ?_, e3⟩
    have n : c ≠ a := fun w => by
      subst w
      rcases h with h | ⟨u, h, hu⟩
      · rw [h] at e2; cases e2
      · rw [h] at e2; cases e2; exact nomatch hu.2
    rw [upd_ne n]; exact e2
theorem TabsK.upd {H : Hp} {a : Addr} {o : HO} (h : ∀ ps, H a ≠ some (.tbl ps)) : TabsK H (upd H a o) := fun P ps e => ⟨ps, by
  have n : P ≠ a := fun z => h ps (z ▸ e)
  rw [upd_ne n]; exact e⟩
/-- the defs that make lambdas -/
def LAMS : List He.Defn := [("_law_cards", none), ("_law_drawer", none), ("filed", none), ("law", none), ("_law_are_refused", none), ("_law_more", none), ("_law_calls", none), ("_law_do", none), ("_law_great", none)]
def lamOn (K : PySem.W.Frag) (p : He.Defn) : Bool := PySem.W.codeHdIn K (He.cT K p).1 (He.cT K p).2
def lamT (K : PySem.W.Frag) : List Addr := (LAMS.filter (lamOn K)).map fun p => (He.cT K p).2
structure TabK (K : PySem.W.Frag) (H B : Hp) : Prop where
  th : TabsH (lamT K) H
  on : ∀ P ∈ lamT K, ∃ ps, H P = some (.tbl ps)
  nb : ∀ (a : Addr) (ps : Array Value), B a ≠ some (.tbl ps)
theorem plain_lst {vs : List V} : plainO (.lst vs) := ⟨rfl, rfl⟩
theorem TabsK.put {H : Hp} {a : Addr} {o o' : HO} (h : H a = some o) (po : plainO o) : TabsK H (L2.upd H a o') := TabsK.upd fun ps z => by rw [h] at z; cases z; exact nomatch po.1
theorem TabK.put {K : PySem.W.Frag} {H B : Hp} (t : TabK K H B) {a : Addr} {o o' : HO} (h : H a = some o) (po : plainO o) (ho : isTb o' = false) : TabK K (L2.upd H a o') B :=
  ⟨t.th.upd (.inr ⟨o, h, po⟩) ho, fun P hP => let ⟨ps, e⟩ := t.on P hP; TabsK.put h po P ps e, t.nb⟩
/-- the plain part grew by no table -/
theorem TabK.grow {K : PySem.W.Frag} {H B : Hp} (t : TabK K H B) {a : Addr} {o : HO} (ho : isTb o = false := by rfl) : TabK K H (L2.upd B a o) := ⟨t.th, t.on, fun b ps e => by
  by_cases z : b = a
  · subst z; rw [upd_same] at e; cases e; cases ho
  · rw [upd_ne z] at e; exact t.nb b ps e⟩
/-- a dict among the plain things: locked, or perhaps not -/
def LkB (B : Hp) (a : Addr) (lk : Bool) (u : HO) : Prop := (∃ o, B a = some (.frz o u)) ∨ (lk = false ∧ B a = some u)
theorem LkB.mono {B B' : Hp} {a : Addr} {lk : Bool} {u : HO} (e : Ex B B') (h : LkB B a lk u) : LkB B' a lk u := h.imp (fun ⟨o, q⟩ => ⟨o, e _ _ q⟩) fun ⟨l, q⟩ => ⟨l, e _ _ q⟩
theorem LkB.rd {B : Hp} {a : Addr} {lk : Bool} {u : HO} (h : LkB B a lk u) : Rd B a u := h.elim (fun ⟨o, q⟩ => .inr ⟨o, q⟩) fun ⟨_, q⟩ => .inl q
mutual
inductive Rep (K : PySem.W.Frag) (B : Hp) : V → D → Prop
  | non : Rep K B .non .non
  | bl (b : Bool) : Rep K B (.bl b) (.bl b)
  | int (i : Int) : Rep K B (.int i) (.int i)
  | str (s : Str) (h : PyData.strOk s = true) : Rep K B (.str s) (.str s)
  | tup {a : Addr} {vs : List V} {ds : List D} : SqT K B a vs → Reps K B vs ds → ds.length ≤ sizeLine → Rep K B (.ref a) (.tup ds)
  | lst {a : Addr} {vs : List V} {ds : List D} : SqL K B a vs → Reps K B vs ds → ds.length ≤ sizeLine → Rep K B (.ref a) (.lst ds)
  | sl {a dx : Addr} {c : Str} {vs : List V} {ds : List D} : (flds c).isEmpty = true → SlX.Slt B a (He.ga K c) dx (vs.map some) → Reps K B vs ds → Rep K B (.ref a) (.ins c ds)
  | di {a dx : Addr} {c : Str} {vs : List V} {ds : List D} : (flds c).isEmpty = false → ds.length = (flds c).length → B a = some (.ins (He.ga K c) dx ((flds c).zip vs)) → B dx = some (.own a) → Reps K B vs ds → Rep K B (.ref a) (.ins c ds)
  | dk {a : Addr} {lk : Bool} {ks : List Key} {vs : List V} {ds : List D} : LkB B a lk (.dK (ks.zip vs)) → Reps K B vs ds → ks.length = ds.length → ds.length ≤ sizeLine → (∀ x, Sum.inr x ∈ ks → PyData.strOk x = true) → Rep K B (.ref a) (.dk lk ks ds)
  | dt {a : Addr} {lk : Bool} {ks : List (List Key)} {vs : List V} {ds : List D} : LkB B a lk (.dT (ks.zip vs)) → Reps K B vs ds → ks.length = ds.length → ds.length ≤ sizeLine → (∀ k ∈ ks, ∀ x, Sum.inr x ∈ k → PyData.strOk x = true) → Rep K B (.ref a) (.dt lk ks ds)
  | oi {a : Addr} {ks : List (Option Int)} : B a = some (OiO a ks) → Rep K B (.ref a) (.dct (ks.map fun k => ((match k with | none => D.non | some i => D.int i), D.bl true)))
inductive Reps (K : PySem.W.Frag) (B : Hp) : List V → List D → Prop
  | nil : Reps K B [] []
  | cons {v : V} {d : D} {vs : List V} {ds : List D} : Rep K B v d → Reps K B vs ds → Reps K B (v :: vs) (d :: ds)
end
theorem seqT {K : PySem.W.Frag} {H H' : Hp} {a : Addr} {xs : List V} (e : Ex H H') (h : SqT K H a xs) : SqT K H' a xs := by
  rcases h with (h | ⟨o, h⟩) | h
  · exact .inl (.inl (e _ _ h))
  · exact .inl (.inr ⟨o, e _ _ h⟩)
  · exact .inr h
theorem sltX {H H' : Hp} {a C dx : Addr} {vs : List (Option V)} (e : Ex H H') (h : SlX.Slt H a C dx vs) : SlX.Slt H' a C dx vs := by
  rcases h with ⟨h, q⟩ | ⟨h, q⟩
  · exact .inl ⟨e _ _ h, q⟩
  · exact .inr ⟨e _ _ h, e _ _ q⟩
mutual
theorem Rep.mono {K : PySem.W.Frag} {B B' : Hp} (e : Ex B B') : ∀ {v : V} {d : D}, Rep K B v d → Rep K B' v d
  | _, _, .non => .non
  | _, _, .bl b => .bl b
  | _, _, .int i => .int i
  | _, _, .str s h => .str s h
  | _, _, .tup h r l => .tup (seqT e h) (Reps.mono e r) l
  | _, _, .lst h r l => .lst (e.seq h) (Reps.mono e r) l
  | _, _, .sl n h r => .sl n (sltX e h) (Reps.mono e r)
  | _, _, .di n l h1 h2 r => .di n l (e _ _ h1) (e _ _ h2) (Reps.mono e r)
  | _, _, .dk h r l z q => .dk (h.mono e) (Reps.mono e r) l z q
  | _, _, .dt h r l z q => .dt (h.mono e) (Reps.mono e r) l z q
  | _, _, .oi h => .oi (e _ _ h)
theorem Reps.mono {K : PySem.W.Frag} {B B' : Hp} (e : Ex B B') : ∀ {vs : List V} {ds : List D}, Reps K B vs ds → Reps K B' vs ds
  | _, _, .nil => .nil
  | _, _, .cons r t => .cons (Rep.mono e r) (Reps.mono e t)
end
section
variable {K : PySem.W.Frag} {B : Hp}
theorem Reps.len : ∀ {vs : List V} {ds : List D}, Reps K B vs ds → vs.length = ds.length
  | _, _, .nil => rfl
  | _, _, .cons _ t => congrArg (· + 1) (Reps.len t)
theorem Reps.get : ∀ {vs : List V} {ds : List D} {i : Nat} {d : D}, Reps K B vs ds → ds[i]? = some d → ∃ v, vs[i]? = some v ∧ Rep K B v d
  | _, _, _, _, .nil, e => by simp at e
  | _, _, 0, _, .cons r _, e => by simp at e; subst e; exact ⟨_, rfl, r⟩
  | _, _, i + 1, _, .cons _ t, e => by
    obtain ⟨v, h1, h2⟩ := Reps.get (i := i) t (by simpa using e)
    exact ⟨v, by simpa using h1, h2⟩
theorem Reps.getV : ∀ {vs : List V} {ds : List D} {i : Nat} {v : V}, Reps K B vs ds → vs[i]? = some v → ∃ d, ds[i]? = some d ∧ Rep K B v d
  | _, _, _, _, .nil, e => by simp at e
  | _, _, 0, _, .cons r _, e => by simp at e; subst e; exact ⟨_, rfl, r⟩
  | _, _, i + 1, _, .cons _ t, e => by
    obtain ⟨d, h1, h2⟩ := Reps.getV (i := i) t (by simpa using e)
    exact ⟨d, by simpa using h1, h2⟩
theorem Reps.append : ∀ {vs us : List V} {ds es : List D}, Reps K B vs ds → Reps K B us es → Reps K B (vs ++ us) (ds ++ es)
  | _, _, _, _, .nil, q => q
  | _, _, _, _, .cons r t, q => .cons r (t.append q)
theorem Reps.one {v : V} {d : D} (r : Rep K B v d) : Reps K B [v] [d] := .cons r .nil
theorem Reps.take : ∀ {vs : List V} {ds : List D} (n : Nat), Reps K B vs ds → Reps K B (vs.take n) (ds.take n)
  | _, _, 0, _ => by simp; exact .nil
  | _, _, n + 1, .nil => by simp; exact .nil
  | _, _, n + 1, .cons r t => by simpa using Reps.cons r (t.take n)
theorem Reps.drop : ∀ {vs : List V} {ds : List D} (n : Nat), Reps K B vs ds → Reps K B (vs.drop n) (ds.drop n)
  | _, _, 0, r => by simpa using r
  | _, _, n + 1, .nil => by simp; exact .nil
  | _, _, n + 1, .cons _ t => by simpa using t.drop n
theorem Reps.set {v : V} {d : D} (r : Rep K B v d) : ∀ {vs : List V} {ds : List D} (n : Nat), Reps K B vs ds → Reps K B (vs.set n v) (ds.set n d)
  | _, _, _, .nil => by simp; exact .nil
  | _, _, 0, .cons _ t => by simpa using Reps.cons r t
  | _, _, n + 1, .cons q t => by simpa using Reps.cons q (t.set r n)
theorem Reps.eraseIdx : ∀ {vs : List V} {ds : List D} (n : Nat), Reps K B vs ds → Reps K B (vs.eraseIdx n) (ds.eraseIdx n)
  | _, _, _, .nil => by simp; exact .nil
  | _, _, 0, .cons _ t => by simpa using t
  | _, _, n + 1, .cons q t => by simpa using Reps.cons q (t.eraseIdx n)
theorem Reps.ofInts : ∀ (ns : List Int), Reps K B (ns.map V.int) (ns.map D.int)
  | [] => .nil
  | n :: ns => .cons (.int n) (Reps.ofInts ns)
theorem Reps.ofStrs : ∀ (ns : List Str), (∀ n ∈ ns, PyData.strOk n = true) → Reps K B (ns.map V.str) (ns.map D.str)
  | [], _ => .nil
  | n :: ns, h => .cons (.str n (h n (by simp))) (Reps.ofStrs ns fun m hm => h m (by simp [hm]))
end
/-! ### slots -/
/-- how a slot stands: unknown; a value; a list of the frame's own; a list that the caller handed in to be changed; an instance with slots that is being made; an instance of the frame's own; one that the caller handed in; a dict of the frame's own by ints and texts, by tuples -/
inductive Stt where
  | U | V | L | R | I | O | M | K | T
  deriving DecidableEq
def Stt.own : Stt → Bool
  | .L | .R | .O | .M | .K | .T => true
  | _ => false
/-- lists; instances -/
def Stt.isL : Stt → Bool
  | .L | .R => true
  | _ => false
def Stt.isO : Stt → Bool
  | .O | .M => true
  | _ => false
theorem Stt.isL_own {s : Stt} (h : s.isL = true) : s.own = true := by cases s <;> first | rfl | cases h
theorem Stt.isO_own {s : Stt} (h : s.isO = true) : s.own = true := by cases s <;> first | rfl | cases h
/-- of the frame's own: it may become a plain value -/
def Stt.fsh : Stt → Bool
  | .L | .O | .K | .T => true
  | _ => false
theorem Stt.fsh_own {s : Stt} (h : s.fsh = true) : s.own = true := by cases s <;> first | rfl | cases h
def Stt.kind : Stt → D → Prop
  | .L, d | .R, d => ∃ ds, d = .lst ds
  | .O, d | .M, d => ∃ c fs, d = .ins c fs
  | .K, d => ∃ ks ds, d = .dk false ks ds
  | .T, d => ∃ ks ds, d = .dt false ks ds
  | _, _ => True
/-- the run of a def: the heap and the plain part of it at the entry; the lists that may be changed -/
structure Gam where
  H : Hp
  B : Hp
  ref : Addr → Prop
  pr : Hp
  me : Option (Addr × Addr × Str)
  rf : Option Addr
structure Keep (K : PySem.W.Frag) (G : Gam) (H B : Hp) : Prop where
  bh : Ex B H
  pr : Ex G.pr H
  prb : ∀ a o, G.pr a = some o → B a = none
  b0 : Ex G.B B
  fr : ∀ a o, G.H a = some o → ¬ G.ref a → isTb o = false → H a = some o
  dom : ∀ a o, G.H a = some o → ∃ o', H a = some o'
  old : ∀ a o, G.H a = some o → B a = G.B a
  prn : ∀ a o, G.pr a = some o → isTb o = false
  tk : TabsK G.H H
  tab : TabK K H B
def LstOk (K : PySem.W.Frag) (H B : Hp) (a : Addr) (ds : List D) : Prop := ∃ vs, H a = some (.lst vs) ∧ Reps K B vs ds ∧ ds.length ≤ sizeLine ∧ B a = none
/-- an instance with slots that is being made -/
structure InsOk (K : PySem.W.Frag) (H B : Hp) (x dx : Addr) (c : Str) (us : List V) (fs : List D) : Prop where
  sl : SlX.Slt H x (He.ga K c) dx (us.map some)
  dxo : H dx = some (.own x) ∨ H dx = some (.xd [])
  rs : Reps K B us fs
  bx : B x = none
  bd : B dx = none
  ne : dx ≠ x
theorem InsOk.nl {K : PySem.W.Frag} {H B : Hp} {x dx : Addr} {c : Str} {us : List V} {fs : List D} (o : InsOk K H B x dx c us fs) {p : Addr} {vs : List V} (h : H p = some (.lst vs)) : x ≠ p ∧ dx ≠ p := by
  refine ⟨fun z => ?_, fun z => ?_⟩
  · rcases o.sl with ⟨h1, _⟩ | ⟨h1, _⟩ <;> · rw [z, h] at h1; cases h1
  · rcases o.dxo with h1 | h1 <;> · rw [z, h] at h1; cases h1
theorem InsOk.xs {K : PySem.W.Frag} {H B : Hp} {x dx : Addr} {c : Str} {us : List V} {fs : List D} (o : InsOk K H B x dx c us fs) : (∃ q, H x = some q) ∧ ∃ q, H dx = some q := by
  refine ⟨?_, ?_⟩
  · rcases o.sl with ⟨h1, _⟩ | ⟨h1, _⟩ <;> exact ⟨_, h1⟩
  · rcases o.dxo with h1 | h1 <;> exact ⟨_, h1⟩
theorem InsOk.nt {K : PySem.W.Frag} {H B : Hp} {x dx : Addr} {c : Str} {us : List V} {fs : List D} (o : InsOk K H B x dx c us fs) : (∀ q, H x = some q → isTb q = false) ∧ ∀ q, H dx = some q → isTb q = false := by
  refine ⟨fun q e => ?_, fun q e => ?_⟩
  · rcases o.sl with ⟨h1, _⟩ | ⟨h1, _⟩ <;> · rw [e] at h1; cases h1; rfl
  · rcases o.dxo with h1 | h1 <;> · rw [e] at h1; cases h1; rfl
theorem InsOk.pl {K : PySem.W.Frag} {H B : Hp} {x dx : Addr} {c : Str} {us : List V} {fs : List D} (o : InsOk K H B x dx c us fs) : (∃ q, H x = some q ∧ plainO q) ∧ ∃ q, H dx = some q ∧ plainO q := by
  refine ⟨?_, ?_⟩
  · rcases o.sl with ⟨h1, _⟩ | ⟨h1, _⟩ <;> exact ⟨_, h1, rfl, rfl⟩
  · rcases o.dxo with h1 | h1 <;> exact ⟨_, h1, rfl, rfl⟩
/-- it stays, where its two objects stay -/
theorem InsOk.stay {K : PySem.W.Frag} {H B H' B' : Hp} {x dx : Addr} {c : Str} {us : List V} {fs : List D} (o : InsOk K H B x dx c us fs) (h1 : ∀ q, H x = some q → H' x = some q) (h2 : ∀ q, H dx = some q → H' dx = some q) (e : Ex B B') (b1 : B' x = none) (b2 : B' dx = none) : InsOk K H' B' x dx c us fs := by
  refine ⟨?_, o.dxo.elim (fun z => .inl (h2 _ z)) fun z => .inr (h2 _ z), o.rs.mono e, b1, b2, o.ne⟩
  rcases o.sl with ⟨q1, q2⟩ | ⟨q1, q2⟩
  · exact .inl ⟨h1 _ q1, q2⟩
  · exact .inr ⟨h1 _ q1, h2 _ q2⟩
/-! ### data of a frame's own: a list, a dict, an instance with its dict and its own cells -/
def DkOk (K : PySem.W.Frag) (H B : Hp) (a : Addr) (ks : List Key) (ds : List D) : Prop := ∃ vs, H a = some (.dK (ks.zip vs)) ∧ Reps K B vs ds ∧ ks.length = ds.length ∧ ds.length ≤ sizeLine ∧ B a = none ∧ ∀ x, Sum.inr x ∈ ks → PyData.strOk x = true
def DtOk (K : PySem.W.Frag) (H B : Hp) (a : Addr) (ks : List (List Key)) (ds : List D) : Prop := ∃ vs, H a = some (.dT (ks.zip vs)) ∧ Reps K B vs ds ∧ ks.length = ds.length ∧ ds.length ≤ sizeLine ∧ B a = none ∧ ∀ k ∈ ks, ∀ x, Sum.inr x ∈ k → PyData.strOk x = true
def CellOk (K : PySem.W.Frag) (H B : Hp) (a : Addr) : D → Prop
  | .lst ds => LstOk K H B a ds
  | .dk lk ks ds => lk = false ∧ DkOk K H B a ks ds
  | .dt lk ks ds => lk = false ∧ DtOk K H B a ks ds
  | _ => False
/-- the fields that hold lists, dicts by ints and texts, dicts by tuples -/
def boxK (f : Str) : D → Bool
  | .lst _ => LBOX.elem f
  | .dk _ _ _ => KBOX.elem f
  | .dt _ _ _ => TBOX.elem f
  | _ => false
def FOk (K : PySem.W.Frag) (H B : Hp) : List Str → List V → List D → Prop
  | _, [], [] => True
  | n :: ns, v :: vs, d :: ds => (if boxF n = true then ∃ a, v = .ref a ∧ CellOk K H B a d ∧ boxK n d = true else Rep K B v d) ∧ FOk K H B ns vs ds
  | _, _, _ => False
structure InOk (K : PySem.W.Frag) (H B : Hp) (x dx : Addr) (c : Str) (us : List V) (fs : List D) : Prop where
  hx : H x = some (.ins (He.ga K c) dx ((flds c).zip us))
  hd : H dx = some (.own x)
  fo : FOk K H B (flds c) us fs
  bx : B x = none
  bd : B dx = none
  ne : (flds c).isEmpty = false
  un : ∀ (i j : Nat) (f g : Str) (a : Addr), boxF f = true → boxF g = true → ((flds c).zip us)[i]? = some (f, .ref a) → ((flds c).zip us)[j]? = some (g, .ref a) → i = j
def MOk (K : PySem.W.Frag) (H B : Hp) (x : Addr) : D → Prop
  | .ins c fs => ∃ dx us, InOk K H B x dx c us fs
  | d => CellOk K H B x d
/-- what the thing at x is made of -/
def Root (H : Hp) (x a : Addr) : Prop := a = x ∨ ∃ C dx gs, H x = some (.ins C dx gs) ∧ (a = dx ∨ ∃ f, boxF f = true ∧ (f, V.ref a) ∈ gs)
def Rt (H : Hp) (v : Option V) (a : Addr) : Prop := ∃ x, v = some (.ref x) ∧ Root H x a
theorem Root.self {H : Hp} {x : Addr} : Root H x x := .inl rfl
theorem Root.congr {H H' : Hp} {x a : Addr} (h : H' x = H x) : Root H' x a ↔ Root H x a := by unfold Root; rw [h]
theorem Rt.of {H : Hp} {x a : Addr} (h : Rt H (some (.ref x)) a) : Root H x a := by obtain ⟨y, e, r⟩ := h; cases e; exact r
theorem CellOk.has {K : PySem.W.Frag} {H B : Hp} {a : Addr} {d : D} (h : CellOk K H B a d) : (∃ o, H a = some o ∧ plainO o ∧ ∀ C dx gs, o ≠ .ins C dx gs) ∧ B a = none := by
  cases d with
  | lst ds => obtain ⟨vs, e, _, _, b⟩ := h; exact ⟨⟨_, e, ⟨rfl, rfl⟩, fun _ _ _ z => by cases z⟩, b⟩
  | dk lk ks ds => obtain ⟨_, vs, e, _, _, _, b, _⟩ := h; exact ⟨⟨_, e, ⟨rfl, rfl⟩, fun _ _ _ z => by cases z⟩, b⟩
  | dt lk ks ds => obtain ⟨_, vs, e, _, _, _, b, _⟩ := h; exact ⟨⟨_, e, ⟨rfl, rfl⟩, fun _ _ _ z => by cases z⟩, b⟩
  | _ => exact h.elim
theorem CellOk.root {K : PySem.W.Frag} {H B : Hp} {x a : Addr} {d : D} (h : CellOk K H B x d) (r : Root H x a) : a = x := by
  rcases r with r | ⟨C, dx, gs, e, _⟩
  · exact r
  · obtain ⟨⟨o, e2, _, n⟩, _⟩ := h.has
    rw [e] at e2; cases e2; exact (n _ _ _ rfl).elim
theorem CellOk.stay {K : PySem.W.Frag} {H B H' B' : Hp} {a : Addr} {d : D} (h : CellOk K H B a d) (k : ∀ o, H a = some o → H' a = some o) (e : Ex B B') (b : B' a = none) : CellOk K H' B' a d := by
  cases d with
  | lst ds => obtain ⟨vs, q, r, z, _⟩ := h; exact ⟨vs, k _ q, r.mono e, z, b⟩
  | dk lk ks ds => obtain ⟨w, vs, q, r, l, z, _, n⟩ := h; exact ⟨w, vs, k _ q, r.mono e, l, z, b, n⟩
  | dt lk ks ds => obtain ⟨w, vs, q, r, l, z, _, n⟩ := h; exact ⟨w, vs, k _ q, r.mono e, l, z, b, n⟩
  | _ => exact h.elim
theorem FOk.has {K : PySem.W.Frag} {H B : Hp} : ∀ {ns : List Str} {us : List V} {fs : List D} {f : Str} {a : Addr}, FOk K H B ns us fs → boxF f = true → (f, V.ref a) ∈ ns.zip us → ∃ d, CellOk K H B a d
  | _, [], _, f, a, _, _, m => by simp at m
  | n :: ns, v :: vs, d :: ds, f, a, h, hf, m => by
    obtain ⟨h1, h2⟩ := h
    rw [List.zip_cons_cons] at m
    rcases List.mem_cons.mp m with z | z
    · cases z
      rw [if_pos hf] at h1
      obtain ⟨b, e, c, _⟩ := h1
      cases e
      exact ⟨d, c⟩
    · exact FOk.has h2 hf z
  | _ :: _, _ :: _, [], _, _, h, _, _ => h.elim
  | [], _ :: _, _, _, _, h, _, m => by simp at m
theorem FOk.stay {K : PySem.W.Frag} {H B H' B' : Hp} (e : Ex B B') : ∀ {ns : List Str} {us : List V} {fs : List D}, FOk K H B ns us fs → (∀ f a, boxF f = true → (f, V.ref a) ∈ ns.zip us → (∀ o, H a = some o → H' a = some o) ∧ B' a = none) → FOk K H' B' ns us fs
  | _, [], [], _, _ => by unfold FOk; trivial
  | n :: ns, v :: vs, d :: ds, h, k => by
    obtain ⟨h1, h2⟩ := h
    refine ⟨?_, FOk.stay e h2 fun f a hf m => k f a hf (by rw [List.zip_cons_cons]; exact List.mem_cons_of_mem _ m)⟩
    by_cases q : boxF n = true
    · rw [if_pos q] at h1 ⊢
      obtain ⟨a, rfl, c, kd⟩ := h1
      obtain ⟨k1, k2⟩ := k n a q (by rw [List.zip_cons_cons]; exact List.mem_cons_self)
      exact ⟨a, rfl, c.stay k1 e k2, kd⟩
    · rw [if_neg q] at h1 ⊢
      exact h1.mono e
  | _ :: _, _ :: _, [], h, _ => h.elim
  | [], _ :: _, _, h, _ => h.elim
  | [], [], _ :: _, h, _ => h.elim
  | _ :: _, [], _ :: _, h, _ => h.elim
theorem FOk.len {K : PySem.W.Frag} {H B : Hp} : ∀ {ns : List Str} {us : List V} {fs : List D}, FOk K H B ns us fs → us.length = fs.length ∧ fs.length ≤ ns.length
  | _, [], [], _ => ⟨rfl, by simp⟩
  | n :: ns, v :: vs, d :: ds, h => by
    obtain ⟨a, b⟩ := FOk.len h.2
    exact ⟨by simp [a], by simp [b]⟩
  | _ :: _, _ :: _, [], h => h.elim
  | [], _ :: _, _, h => h.elim
  | [], [], _ :: _, h => h.elim
  | _ :: _, [], _ :: _, h => h.elim
theorem MOk.cell {K : PySem.W.Frag} {H B : Hp} {x : Addr} {d : D} (h : MOk K H B x d) : (∃ c fs, d = .ins c fs) ∨ CellOk K H B x d := by
  cases d with
  | ins c fs => exact .inl ⟨c, fs, rfl⟩
  | _ => exact .inr h
theorem MOk.has {K : PySem.W.Frag} {H B : Hp} {x a : Addr} {d : D} (h : MOk K H B x d) (r : Root H x a) : (∃ o, H a = some o ∧ plainO o) ∧ B a = none := by
  rcases h.cell with ⟨c, fs, rfl⟩ | h
  · obtain ⟨dx, us, o⟩ := h
    rcases r with rfl | ⟨C, dx', gs, e, r⟩
    · exact ⟨⟨_, o.hx, rfl, rfl⟩, o.bx⟩
    · rw [o.hx] at e
      cases e
      rcases r with rfl | ⟨f, hf, m⟩
      · exact ⟨⟨_, o.hd, rfl, rfl⟩, o.bd⟩
      · obtain ⟨d, c⟩ := o.fo.has hf m
        obtain ⟨⟨q, e, p, _⟩, b⟩ := c.has
        exact ⟨⟨q, e, p⟩, b⟩
  · obtain ⟨⟨q, e, p, _⟩, b⟩ := h.has
    rw [h.root r]
    exact ⟨⟨q, e, p⟩, b⟩
theorem MOk.stay {K : PySem.W.Frag} {H B H' B' : Hp} {x : Addr} {d : D} (h : MOk K H B x d) (k : ∀ a o, Root H x a → H a = some o → H' a = some o) (e : Ex B B') (b : ∀ a, Root H x a → B' a = none) : MOk K H' B' x d := by
  rcases h.cell with ⟨c, fs, rfl⟩ | h'
  · obtain ⟨dx, us, o⟩ := h
    have rx : Root H x x := .inl rfl
    have rd : Root H x dx := .inr ⟨_, _, _, o.hx, .inl rfl⟩
    exact ⟨dx, us, k _ _ rx o.hx, k _ _ rd o.hd, o.fo.stay e fun f a hf m => ⟨fun q => k a q (.inr ⟨_, _, _, o.hx, .inr ⟨f, hf, m⟩⟩), b a (.inr ⟨_, _, _, o.hx, .inr ⟨f, hf, m⟩⟩)⟩, b x rx, b dx rd, o.ne, o.un⟩
  · have := h'.stay (k x · .self) e (b x .self)
    cases d with
    | ins c fs => exact this.elim
    | _ => exact this
theorem MOk.same {K : PySem.W.Frag} {H B H' : Hp} {x a : Addr} {d : D} (h : MOk K H B x d) (k : ∀ o, H x = some o → H' x = some o) : Root H' x a ↔ Root H x a := by
  obtain ⟨⟨o, e, _⟩, _⟩ := h.has .self
  exact Root.congr (by rw [e, k o e])
/-- an instance has all its fields -/
def fullB : D → Bool
  | .ins c fs => fs.length == (flds c).length
  | _ => true
def Full : D → Prop
  | .ins c fs => fs.length = (flds c).length
  | _ => True
theorem fullB_ok {d : D} (h : fullB d = true) : Full d := by
  cases d with
  | ins c fs => exact eq_of_beq h
  | _ => trivial
theorem CellOk.rep {K : PySem.W.Frag} {H B B' : Hp} {a : Addr} {d : D} (h : CellOk K H B a d) (e : Ex B B') (b : B' a = H a) : Rep K B' (.ref a) d := by
  cases d with
  | lst ds => obtain ⟨vs, q, r, z, _⟩ := h; exact .lst (.inl (.inl (b.trans q))) (r.mono e) z
  | dk lk ks ds => obtain ⟨w, vs, q, r, l, z, _, n⟩ := h; exact .dk (.inr ⟨w, b.trans q⟩) (r.mono e) l z n
  | dt lk ks ds => obtain ⟨w, vs, q, r, l, z, _, n⟩ := h; exact .dt (.inr ⟨w, b.trans q⟩) (r.mono e) l z n
  | _ => exact h.elim
theorem FOk.reps {K : PySem.W.Frag} {H B B' : Hp} (e : Ex B B') : ∀ {ns : List Str} {us : List V} {fs : List D}, FOk K H B ns us fs → (∀ f a, boxF f = true → (f, V.ref a) ∈ ns.zip us → B' a = H a) → Reps K B' us fs
  | _, [], [], _, _ => .nil
  | n :: ns, v :: vs, d :: ds, h, k => by
    obtain ⟨h1, h2⟩ := h
    refine .cons ?_ (FOk.reps e h2 fun f a hf m => k f a hf (by rw [List.zip_cons_cons]; exact List.mem_cons_of_mem _ m))
    by_cases q : boxF n = true
    · rw [if_pos q] at h1
      obtain ⟨a, rfl, c, _⟩ := h1
      exact c.rep e (k n a q (by rw [List.zip_cons_cons]; exact List.mem_cons_self))
    · rw [if_neg q] at h1
      exact h1.mono e
  | _ :: _, _ :: _, [], h, _ => h.elim
  | [], _ :: _, _, h, _ => h.elim
  | [], [], _ :: _, h, _ => h.elim
  | _ :: _, [], _ :: _, h, _ => h.elim
theorem MOk.rep {K : PySem.W.Frag} {H B B' : Hp} {x : Addr} {d : D} (h : MOk K H B x d) (f : Full d) (e : Ex B B') (b : ∀ a, Root H x a → B' a = H a) : Rep K B' (.ref x) d := by
  rcases h.cell with ⟨c, fs, rfl⟩ | h'
  · obtain ⟨dx, us, o⟩ := h
    have rd : Root H x dx := .inr ⟨_, _, _, o.hx, .inl rfl⟩
    exact .di o.ne f ((b x .self).trans o.hx) ((b dx rd).trans o.hd) (o.fo.reps e fun f a hf m => b a (.inr ⟨_, _, _, o.hx, .inr ⟨f, hf, m⟩⟩))
  · exact h'.rep e (b x .self)
/-- a thing of the frame's own; one that was handed in -/
def OwnOk (K : PySem.W.Frag) (G : Gam) (H B : Hp) (v : Option V) (d : D) : Prop := ∃ a, v = some (.ref a) ∧ (MOk K H B a d ∧ Full d) ∧ ∀ b, Root H a b → G.pr b = none ∧ G.H b = none
def RefOk (K : PySem.W.Frag) (G : Gam) (H B : Hp) (v : Option V) (d : D) : Prop := ∃ a, v = some (.ref a) ∧ MOk K H B a d ∧ (∀ b, Root H a b → G.pr b = none ∧ (G.H b = none ∨ G.ref b)) ∧ G.rf = some a
def SlotOk (K : PySem.W.Frag) (G : Gam) (H B : Hp) (st : Stt) (v : Option V) (d : D) : Prop := match st with
  | .U => True
  | .V => ∃ x, v = some x ∧ Rep K B x d
  | .I => ∃ x dx c us fs, v = some (.ref x) ∧ d = .ins c fs ∧ InsOk K H B x dx c us fs ∧ (G.pr x = none ∧ G.pr dx = none) ∧ G.me = some (x, dx, c) ∧ G.ref x ∧ G.ref dx
  | .R => RefOk K G H B v d ∧ Stt.R.kind d
  | .M => RefOk K G H B v d ∧ Stt.M.kind d
  | .L => OwnOk K G H B v d ∧ Stt.L.kind d
  | .O => OwnOk K G H B v d ∧ Stt.O.kind d
  | .K => OwnOk K G H B v d ∧ Stt.K.kind d
  | .T => OwnOk K G H B v d ∧ Stt.T.kind d
abbrev Env := List D
def look (ρ : Env) (i : Nat) : D := ρ.getD i .non
structure Rel (K : PySem.W.Frag) (G : Gam) (own : List Stt) (ρ : Env) (σ : L2.St) (H B : Hp) : Prop where
  keep : Keep K G H B
  lr : ρ.length = own.length
  ls : σ.length = own.length
  slot : ∀ (i : Nat) (st : Stt), own[i]? = some st → SlotOk K G H B st (σ[i]?).join (look ρ i)
  sep : ∀ (i j : Nat) (si sj : Stt) (a : Addr), own[i]? = some si → own[j]? = some sj → si.own = true → sj.own = true → Rt H (σ[i]?).join a → Rt H (σ[j]?).join a → i = j
theorem SlotOk.split {K : PySem.W.Frag} {G : Gam} {H B : Hp} {st : Stt} {v : Option V} {d : D} (hs : st.own = true) : SlotOk K G H B st v d ↔ (if st.fsh = true then OwnOk K G H B v d else RefOk K G H B v d) ∧ st.kind d := by
  cases st with
  | L => show _ ↔ (if true = true then _ else _) ∧ _; rw [if_pos rfl]; exact Iff.rfl
  | O => show _ ↔ (if true = true then _ else _) ∧ _; rw [if_pos rfl]; exact Iff.rfl
  | K => show _ ↔ (if true = true then _ else _) ∧ _; rw [if_pos rfl]; exact Iff.rfl
  | T => show _ ↔ (if true = true then _ else _) ∧ _; rw [if_pos rfl]; exact Iff.rfl
  | R => show _ ↔ (if false = true then _ else _) ∧ _; rw [if_neg (by decide)]; exact Iff.rfl
  | M => show _ ↔ (if false = true then _ else _) ∧ _; rw [if_neg (by decide)]; exact Iff.rfl
  | _ => cases hs
/-- data of the frame's own, in whichever way -/
theorem SlotOk.mok {K : PySem.W.Frag} {G : Gam} {H B : Hp} {st : Stt} {v : Option V} {d : D} (h : SlotOk K G H B st v d) (hs : st.own = true) : ∃ a, v = some (.ref a) ∧ MOk K H B a d ∧ ∀ b, Root H a b → G.pr b = none ∧ (G.H b = none ∨ G.ref b) := by
  obtain ⟨h, _⟩ := (SlotOk.split hs).mp h
  split at h
  · obtain ⟨a, e, ⟨m, _⟩, g⟩ := h; exact ⟨a, e, m, fun b r => ⟨(g b r).1, .inl (g b r).2⟩⟩
  · obtain ⟨a, e, m, g, _⟩ := h; exact ⟨a, e, m, g⟩
theorem SlotOk.knd {K : PySem.W.Frag} {G : Gam} {H B : Hp} {st : Stt} {v : Option V} {d : D} (h : SlotOk K G H B st v d) (hs : st.own = true) : st.kind d := ((SlotOk.split hs).mp h).2
/-- it stays, where the heap stays -/
theorem SlotOk.keepF {K : PySem.W.Frag} {G G' : Gam} {H B H' B' : Hp} {st : Stt} {v : Option V} {d d' : D} (h : SlotOk K G H B st v d) (hs : st.own = true) {a : Addr} (ha : v = some (.ref a)) (m : MOk K H' B' a d') (fl : st.fsh = true → Full d') (kd : st.kind d → st.kind d') (rr : ∀ b, Root H' a b → Root H a b ∨ (G'.pr b = none ∧ G'.H b = none))
    (g : ∀ b, Root H a b → G.pr b = none → G'.pr b = none) (g1 : G'.H = G.H := by rfl) (g2 : G'.ref = G.ref := by rfl) (g3 : G'.rf = G.rf := by rfl) : SlotOk K G' H' B' st v d' := by
  obtain ⟨h, k0⟩ := (SlotOk.split hs).mp h
  refine (SlotOk.split hs).mpr ⟨?_, kd k0⟩
  split at h
  · rename_i q0
    rw [if_pos q0]
    obtain ⟨x, e, ⟨_, fu⟩, q⟩ := h
    rw [ha] at e; cases e
    refine ⟨a, ha, ⟨m, fl q0⟩, fun b r => ?_⟩
    rcases rr b r with r | r
    · exact ⟨g b r (q b r).1, by rw [g1]; exact (q b r).2⟩
    · exact r
  · rename_i q0
    rw [if_neg q0]
    obtain ⟨x, e, _, q, f⟩ := h
    rw [ha] at e; cases e
    refine ⟨a, ha, m, fun b r => ?_, by rw [g3]; exact f⟩
    rcases rr b r with r | r
    · refine ⟨g b r (q b r).1, ?_⟩
      rw [g1, g2]; exact (q b r).2
    · exact ⟨r.1, .inl r.2⟩
/-- it stays, where the heap stays -/
theorem SlotOk.keep {K : PySem.W.Frag} {G G' : Gam} {H B H' B' : Hp} {st : Stt} {v : Option V} {d d' : D} (h : SlotOk K G H B st v d) (hs : st.own = true) {a : Addr} (ha : v = some (.ref a)) (m : MOk K H' B' a d') (fl : Full d → Full d') (kd : st.kind d → st.kind d') (rr : ∀ b, Root H' a b → Root H a b ∨ (G'.pr b = none ∧ G'.H b = none))
    (g : ∀ b, Root H a b → G.pr b = none → G'.pr b = none) (g1 : G'.H = G.H := by rfl) (g2 : G'.ref = G.ref := by rfl) (g3 : G'.rf = G.rf := by rfl) : SlotOk K G' H' B' st v d' := by
  refine SlotOk.keepF h hs ha m (fun q0 => fl ?_) kd rr g g1 g2 g3
  have x := ((SlotOk.split hs).mp h).1
  rw [if_pos q0] at x
  obtain ⟨_, _, ⟨_, fu⟩, _⟩ := x
  exact fu
/-- the heap grew, and the plain part with it -/
structure New (K : PySem.W.Frag) (B H B' H' : Hp) : Prop where
  b : Ex B B'
  h : ExN H H'
  dm : ∀ a o, H a = some o → ∃ o', H' a = some o'
  bh : Ex B' H'
  old : ∀ a o, H a = some o → B' a = B a
  tk : TabsK H H'
  th : TabsH (lamT K) H → TabsH (lamT K) H'
  nb : (∀ (a : Addr) (ps : Array Value), B a ≠ some (.tbl ps)) → ∀ (a : Addr) (ps : Array Value), B' a ≠ some (.tbl ps)
theorem New.refl {K : PySem.W.Frag} {B H : Hp} (e : Ex B H) : New K B H B H := ⟨Ex.rfl, Ex.rfl.n, fun _ o h => ⟨o, h⟩, e, fun _ _ _ => rfl, TabsK.rfl, id, id⟩
theorem New.trans {K : PySem.W.Frag} {B H B1 H1 B2 H2 : Hp} (x : New K B H B1 H1) (y : New K B1 H1 B2 H2) : New K B H B2 H2 :=
  ⟨x.b.trans y.b, fun a o e n => y.h a o (x.h a o e n) n, fun a o e => let ⟨o1, e1⟩ := x.dm a o e; y.dm a o1 e1, y.bh, fun a o e => let ⟨o1, e1⟩ := x.dm a o e; (y.old a o1 e1).trans (x.old a o e), x.tk.trans y.tk, fun t => y.th (x.th t), fun t => y.nb (x.nb t)⟩
theorem New.alloc {K : PySem.W.Frag} {B H : Hp} (e : Ex B H) {p : Addr} {o : HO} (hp : H p = none) (ho : isTb o = false := by rfl) : New K B H (upd B p o) (upd H p o) := by
  have hb : B p = none := e.free hp
  refine ⟨Ex.new hb, (Ex.new hp).n, fun a u q => ⟨u, Ex.new hp a u q⟩, fun a u q => ?_, fun a u q => ?_, TabsK.upd fun ps z => (by rw [hp] at z; cases z), fun t => t.upd (.inl hp) ho, fun t a ps z => ?_⟩
  · by_cases ha : a = p
    · subst ha; rw [upd_same] at q ⊢; exact q
    · rw [upd_ne ha] at q ⊢; exact e _ _ q
  · rw [upd_ne (ne_of_none q hp)]
  · by_cases w : a = p
    · subst w; rw [upd_same] at z; cases z; cases ho
    · rw [upd_ne w] at z; exact t a ps z
/-- the heap grew by what the plain part does not tell -/
theorem New.heap {K : PySem.W.Frag} {B H : Hp} (e : Ex B H) {p : Addr} {o : HO} (hp : H p = none) (ho : isTb o = false := by rfl) : New K B H B (upd H p o) :=
  ⟨Ex.rfl, (Ex.new hp).n, fun a u q => ⟨u, Ex.new hp a u q⟩, e.trans (Ex.new hp), fun _ _ _ => rfl, TabsK.upd fun ps z => (by rw [hp] at z; cases z), fun t => t.upd (.inl hp) ho, id⟩
section
variable {K : PySem.W.Frag} {G : Gam} {own : List Stt} {ρ : Env} {σ : L2.St} {H B H' B' : Hp}
theorem TabK.new (t : TabK K H B) (n : New K B H B' H') : TabK K H' B' := ⟨n.th t.th, fun P hP => let ⟨ps, e⟩ := t.on P hP; n.tk P ps e, n.nb t.nb⟩
theorem Keep.new (k : Keep K G H B) (n : New K B H B' H') : Keep K G H' B' :=
  ⟨n.bh, fun a o e => n.h a o (k.pr a o e) (k.prn a o e), fun a o e => (n.old a o (k.pr a o e)).trans (k.prb a o e), k.b0.trans n.b, fun a o e na nt => n.h _ _ (k.fr a o e na nt) nt, fun a o e => let ⟨o', q⟩ := k.dom a o e; n.dm a o' q, fun a o e => by
    obtain ⟨o', q⟩ := k.dom a o e
    exact (n.old a o' q).trans (k.old a o e), k.prn, k.tk.trans n.tk, k.tab.new n⟩
theorem LstOk.new {a : Addr} {ds : List D} (l : LstOk K H B a ds) (n : New K B H B' H') : LstOk K H' B' a ds := by
  obtain ⟨vs, h, r, z, b⟩ := l
  exact ⟨vs, n.h _ _ h rfl, r.mono n.b, z, (n.old a _ h).trans b⟩
theorem MOk.new {a : Addr} {d : D} (m : MOk K H B a d) (n : New K B H B' H') : MOk K H' B' a d ∧ ∀ b, Root H' a b ↔ Root H a b := by
  have key : ∀ b o, Root H a b → H b = some o → H' b = some o := fun b o r e => by
    obtain ⟨⟨o', e', p⟩, _⟩ := m.has r
    rw [e] at e'; cases e'
    exact n.h b o e p.1
  refine ⟨m.stay key n.b fun b r => ?_, fun b => m.same fun o e => key a o .self e⟩
  obtain ⟨⟨o', e', _⟩, q⟩ := m.has r
  exact (n.old b o' e').trans q
theorem SlotOk.new {st : Stt} {v : Option V} {d : D} (x : SlotOk K G H B st v d) (n : New K B H B' H') : SlotOk K G H' B' st v d := by
  have own1 : st.own = true → SlotOk K G H' B' st v d := fun os => by
    obtain ⟨a, e, m, _⟩ := x.mok os
    exact SlotOk.keep x os e (m.new n).1 id id (fun b r => .inl (((m.new n).2 b).mp r)) fun _ _ q => q
  cases st with
  | U => trivial
  | V => obtain ⟨x, e, r⟩ := x; exact ⟨x, e, r.mono n.b⟩
  | I =>
    obtain ⟨y, dx, c, us, fs, e, e2, o, g⟩ := x
    obtain ⟨⟨q1, h1⟩, q2, h2⟩ := o.xs
    exact ⟨y, dx, c, us, fs, e, e2, o.stay (fun q z => n.h _ _ z (o.nt.1 q z)) (fun q z => n.h _ _ z (o.nt.2 q z)) n.b ((n.old _ _ h1).trans o.bx) ((n.old _ _ h2).trans o.bd), g⟩
  | _ => exact own1 rfl
/-- the roots of a slot, where its thing stays -/
theorem Rel.back (r : Rel K G own ρ σ H B) {i : Nat} {si : Stt} {a : Addr} (hi : own[i]? = some si) (oi : si.own = true) (k : ∀ x o, (σ[i]?).join = some (.ref x) → H x = some o → plainO o → H' x = some o) (h : Rt H' (σ[i]?).join a) : Rt H (σ[i]?).join a := by
  obtain ⟨x, e, m, _⟩ := (r.slot i si hi).mok oi
  obtain ⟨y, e2, rt⟩ := h
  rw [e] at e2; cases e2
  obtain ⟨⟨o, eo, po⟩, _⟩ := m.has .self
  exact ⟨x, e, (Root.congr (by rw [eo, k x o e eo po])).mp rt⟩
theorem Rel.new (r : Rel K G own ρ σ H B) (n : New K B H B' H') : Rel K G own ρ σ H' B' :=
  ⟨r.keep.new n, r.lr, r.ls, fun i st h => (r.slot i st h).new n, fun i j si sj a hi hj oi oj ei ej => r.sep i j si sj a hi hj oi oj (r.back hi oi (fun x o _ e p => n.h x o e p.1) ei) (r.back hj oj (fun x o _ e p => n.h x o e p.1) ej)⟩
theorem look_set {i j : Nat} {d : D} (h : i < ρ.length) : look (ρ.set i d) j = if j = i then d else look ρ j := by
  unfold look
  by_cases e : j = i
  · subst e; simp [h]
  · rw [if_neg e]
    simp only [List.getD_eq_getElem?_getD]
    rw [List.getElem?_set_ne (fun z => e z.symm)]
theorem join_set {i j : Nat} {v : Option V} (h : i < σ.length) : ((σ.set i v)[j]?).join = if j = i then v else (σ[j]?).join := by
  by_cases e : j = i
  · subst e; simp [h]
  · rw [if_neg e, List.getElem?_set_ne (fun z => e z.symm)]
theorem own_set {i j : Nat} {st u : Stt} (h : (own.set i st)[j]? = some u) : (j = i ∧ u = st ∧ i < own.length) ∨ (j ≠ i ∧ own[j]? = some u) := by
  by_cases e : j = i
  · subst e
    by_cases hl : j < own.length
    · rw [List.getElem?_set_self hl] at h; exact .inl ⟨rfl, (Option.some.inj h).symm, hl⟩
    · rw [List.getElem?_eq_none (by simpa using hl)] at h; cases h
  · rw [List.getElem?_set_ne (fun z => e z.symm)] at h; exact .inr ⟨e, h⟩
/-- a name is given a value -/
theorem Rel.setV (r : Rel K G own ρ σ H B) {i : Nat} {v : V} {d : D} (hv : Rep K B v d) : Rel K G (own.set i .V) (ρ.set i d) (σ.set i (some v)) H B := by
  refine ⟨r.keep, by simpa using r.lr, by simpa using r.ls, fun j st h => ?_, fun j k sj sk a hj hk oj ok ej ek => ?_⟩
  · rcases own_set h with ⟨rfl, rfl, hl⟩ | ⟨hne, h⟩
    · rw [join_set (by rw [r.ls]; exact hl), if_pos rfl, look_set (by rw [r.lr]; exact hl), if_pos rfl]
      exact ⟨v, rfl, hv⟩
    · by_cases hl : i < own.length
      · rw [join_set (by rw [r.ls]; exact hl), if_neg hne, look_set (by rw [r.lr]; exact hl), if_neg hne]
        exact r.slot j st h
      · have e1 : σ.set i (some v) = σ := List.set_eq_of_length_le (by rw [r.ls]; omega)
        have e2 : ρ.set i d = ρ := List.set_eq_of_length_le (by rw [r.lr]; omega)
        rw [e1, e2]; exact r.slot j st h
  · have key : ∀ (j : Nat) (sj : Stt), (own.set i .V)[j]? = some sj → sj.own = true → Rt H ((σ.set i (some v))[j]?).join a → own[j]? = some sj ∧ Rt H (σ[j]?).join a := fun j sj hj oj ej => by
      rcases own_set hj with ⟨rfl, rfl, hl⟩ | ⟨hne, h⟩
      · cases oj
      · refine ⟨h, ?_⟩
        by_cases hl : i < σ.length
        · rwa [join_set hl, if_neg hne] at ej
        · rwa [List.set_eq_of_length_le (by omega)] at ej
    obtain ⟨a1, a2⟩ := key j sj hj oj ej
    obtain ⟨b1, b2⟩ := key k sk hk ok ek
    exact r.sep j k sj sk a a1 b1 oj ok a2 b2
/-- less is said -/
def Stt.le (a b : Stt) : Bool := a == .U || a == b
theorem Rel.weak (r : Rel K G own ρ σ H B) {o : List Stt} (hl : o.length = own.length) (h : ∀ (i : Nat) (a b : Stt), o[i]? = some a → own[i]? = some b → a.le b = true) : Rel K G o ρ σ H B := by
  have key : ∀ (i : Nat) (a : Stt), o[i]? = some a → a = .U ∨ own[i]? = some a := fun i a e => by
    have hi : i < own.length := by rw [← hl]; exact (List.getElem?_eq_some_iff.mp e).1
    have e2 : own[i]? = some own[i] := List.getElem?_eq_getElem hi
    have := h i a _ e e2
    unfold Stt.le at this
    rcases Bool.or_eq_true_iff.mp this with q | q
    · exact .inl (eq_of_beq q)
    · exact .inr (by rw [e2, eq_of_beq q])
  refine ⟨r.keep, r.lr.trans hl.symm, r.ls.trans hl.symm, fun i st e => ?_, fun i j si sj a hi hj oi oj ei ej => ?_⟩
  · rcases key i st e with rfl | q
    · trivial
    · exact r.slot i st q
  · rcases key i si hi with rfl | q
    · cases oi
    · rcases key j sj hj with rfl | q2
      · cases oj
      · exact r.sep i j si sj a q q2 oi oj ei ej
theorem Rel.own_lt (r : Rel K G own ρ σ H B) {i : Nat} {st : Stt} (h : own[i]? = some st) : i < own.length := (List.getElem?_eq_some_iff.mp h).1
/-- no slot's thing has p -/
def NoRt (own : List Stt) (σ : L2.St) (H : Hp) (p : Addr) : Prop := ∀ (j : Nat) (sj : Stt), own[j]? = some sj → sj.own = true → ¬ Rt H (σ[j]?).join p
theorem NoRt.put {own : List Stt} {σ : L2.St} {H : Hp} {p : Addr} {o : HO} (n : NoRt own σ H p) : NoRt own σ (upd H p o) p := fun j sj hj oj ⟨x, e, r⟩ => by
  by_cases z : x = p
  · exact n j sj hj oj ⟨x, e, .inl z.symm⟩
  · exact n j sj hj oj ⟨x, e, (Root.congr (upd_ne z)).mp r⟩
def noI (own : List Stt) : Prop := ∀ i : Nat, own[i]? ≠ some .I
def noIB (own : List Stt) : Bool := own.all fun s => s != .I
theorem noI_of {own : List Stt} (h : noIB own = true) : noI own := fun i e => by
  have := List.all_eq_true.mp h _ (List.mem_of_getElem? e)
  exact absurd this (by decide)
/-- things that nobody has are told from now on -/
theorem Rel.tell (r : Rel K G own ρ σ H B) {B' : Hp} (eB : Ex B B') (bh : Ex B' H) (nw : ∀ b o, B' b = some o → B b = none → (G.pr b = none ∧ G.H b = none) ∧ NoRt own σ H b ∧ isTb o = false ∧ ∀ y dx c us fs, InsOk K H B y dx c us fs → b ≠ y ∧ b ≠ dx) : Rel K G own ρ σ H B' := by
  have nn : ∀ b, B b = none → (∀ o, B' b = some o → False) → B' b = none := fun b _ h => by
    cases q : B' b with
    | none => rfl
    | some o => exact (h o q).elim
  refine ⟨⟨bh, r.keep.pr, fun b o q => nn b (r.keep.prb b o q) fun u z => ?_, r.keep.b0.trans eB, r.keep.fr, r.keep.dom, fun b o q => ?_, r.keep.prn, r.keep.tk, ⟨r.keep.tab.th, r.keep.tab.on, fun b ps z => ?_⟩⟩, r.lr, r.ls, fun j st hj => ?_, r.sep⟩
  · have := (nw b u z (r.keep.prb b o q)).1.1; rw [q] at this; cases this
  · cases hB : B b with
    | some u => rw [eB b u hB, ← hB]; exact r.keep.old b o q
    | none =>
      have h0 := r.keep.old b o q
      rw [hB] at h0
      rw [← h0]
      refine nn b hB fun u z => ?_
      have := (nw b u z hB).1.2; rw [q] at this; cases this
  · cases hB : B b with
    | some u =>
      rw [eB b u hB] at z
      cases z
      exact r.keep.tab.nb b ps hB
    | none => have := (nw b _ z hB).2.2.1; cases this
  · have x := r.slot j st hj
    have own1 : st.own = true → SlotOk K G H B' st (σ[j]?).join (look ρ j) := fun os => by
      obtain ⟨a, e, m, _⟩ := x.mok os
      refine SlotOk.keep x os e (m.stay (fun _ _ _ q => q) eB fun b rt => nn b (m.has rt).2 fun o z => ?_) id id (fun b q => .inl q) fun _ _ q => q
      exact (nw b o z (m.has rt).2).2.1 j st hj os ⟨a, e, rt⟩
    cases st with
    | U => trivial
    | V => obtain ⟨x, q1, q2⟩ := x; exact ⟨x, q1, q2.mono eB⟩
    | L => exact own1 rfl
    | R => exact own1 rfl
    | O => exact own1 rfl
    | M => exact own1 rfl
    | K => exact own1 rfl
    | T => exact own1 rfl
    | I =>
      obtain ⟨y, dx, c, us, fs, q1, q2, o, q4⟩ := x
      exact ⟨y, dx, c, us, fs, q1, q2, o.stay (fun _ z => z) (fun _ z => z) eB (nn y o.bx fun u z => ((nw y u z o.bx).2.2.2 y dx c us fs o).1 rfl) (nn dx o.bd fun u z => ((nw dx u z o.bd).2.2.2 y dx c us fs o).2 rfl), q4⟩
/-- an address of a kind that instances with slots have not -/
def isI : HO → Bool
  | .ins _ _ _ | .own _ | .xd _ | .ext _ => true
  | _ => false
theorem ins_ne {K : PySem.W.Frag} {H B : Hp} {b : Addr} {o : HO} (h : H b = some o) (ho : isI o = false) : ∀ y dx c us fs, InsOk K H B y dx c us fs → b ≠ y ∧ b ≠ dx := fun y dx c us fs q => by
  refine ⟨fun z => ?_, fun z => ?_⟩
  · rcases q.sl with ⟨h1, _⟩ | ⟨h1, _⟩ <;> · rw [← z, h] at h1; cases h1; cases ho
  · rcases q.dxo with h1 | h1 <;> · rw [← z, h] at h1; cases h1; cases ho
/-- the thing of slot i is nobody's from now on -/
theorem Rel.drop (r : Rel K G own ρ σ H B) {i : Nat} {d : D} : Rel K G (own.set i .U) (ρ.set i d) σ H B := by
  refine ⟨r.keep, by simpa using r.lr, by simpa using r.ls, fun j st h => ?_, fun j k sj sk a hj hk oj ok ej ek => ?_⟩
  · rcases own_set h with ⟨rfl, rfl, hl⟩ | ⟨hne, h⟩
    · trivial
    · by_cases hl : i < ρ.length
      · rw [look_set hl, if_neg hne]; exact r.slot j st h
      · rw [List.set_eq_of_length_le (by omega)]; exact r.slot j st h
  · rcases own_set hj with ⟨rfl, rfl, _⟩ | ⟨_, hj⟩
    · cases oj
    · rcases own_set hk with ⟨rfl, rfl, _⟩ | ⟨_, hk⟩
      · cases ok
      · exact r.sep j k sj sk a hj hk oj ok ej ek
/-- what nobody has, and its parts, becomes a plain value -/
theorem Rel.lay (r : Rel K G own ρ σ H B) {a : Addr} {d : D} (m : MOk K H B a d) (f : Full d) (g : ∀ b, Root H a b → (G.pr b = none ∧ G.H b = none) ∧ NoRt own σ H b) (nI : (∃ ds, d = .lst ds) ∨ ∀ i : Nat, own[i]? ≠ some .I) : ∃ B', Ex B B' ∧ Rel K G own ρ σ H B' ∧ Rep K B' (.ref a) d := by
  classical
  let B' : Hp := fun b => if Root H a b then H b else B b
  have e1 : ∀ b, Root H a b → B' b = H b := fun b q => if_pos q
  have e2 : ∀ b, ¬ Root H a b → B' b = B b := fun b q => if_neg q
  have eB : Ex B B' := fun b o q => by
    have n : ¬ Root H a b := fun z => by rw [(m.has z).2] at q; cases q
    rw [e2 b n]; exact q
  have bh : Ex B' H := fun b o q => by
    by_cases z : Root H a b
    · rw [← e1 b z]; exact q
    · rw [e2 b z] at q; exact r.keep.bh b o q
  have nn : ∀ b, ¬ Root H a b → B b = none → B' b = none := fun b z q => by rw [e2 b z]; exact q
  refine ⟨B', eB, ?_, m.rep f eB e1⟩
  rcases nI with ⟨ds, rfl⟩ | nI
  · refine r.tell eB bh fun b o q q2 => ?_
    have z : Root H a b := Classical.byContradiction fun z => by rw [nn b z q2] at q; cases q
    have eb := CellOk.root (K := K) (B := B) (d := .lst ds) m z
    subst eb
    obtain ⟨vs, hv, _⟩ := id m
    have := e1 b z
    rw [hv, q] at this
    cases this
    exact ⟨(g b z).1, (g b z).2, rfl, ins_ne hv rfl⟩
  · refine ⟨⟨bh, r.keep.pr, fun b o q => nn b (fun z => by rw [(g b z).1.1] at q; cases q) (r.keep.prb b o q), r.keep.b0.trans eB, r.keep.fr, r.keep.dom, fun b o q => ?_, r.keep.prn, r.keep.tk, ⟨r.keep.tab.th, r.keep.tab.on, fun b ps z => ?_⟩⟩, r.lr, r.ls, fun j st hj => ?_, r.sep⟩
    · rw [e2 b (fun z => by rw [(g b z).1.2] at q; cases q)]; exact r.keep.old b o q
    · by_cases w : Root H a b
      · rw [e1 b w] at z
        obtain ⟨⟨o, q, p⟩, _⟩ := m.has w
        rw [z] at q; cases q; exact nomatch p.1
      · rw [e2 b w] at z; exact r.keep.tab.nb b ps z
    · have x := r.slot j st hj
      have own1 : st.own = true → SlotOk K G H B' st (σ[j]?).join (look ρ j) := fun os => by
        obtain ⟨y, e, my, _⟩ := x.mok os
        exact SlotOk.keep x os e (my.stay (fun _ _ _ q => q) eB fun b rt => nn b (fun z => (g b z).2 j st hj os ⟨y, e, rt⟩) (my.has rt).2) id id (fun b q => .inl q) fun _ _ q => q
      cases st with
      | U => trivial
      | V => obtain ⟨x, q1, q2⟩ := x; exact ⟨x, q1, q2.mono eB⟩
      | L => exact own1 rfl
      | R => exact own1 rfl
      | O => exact own1 rfl
      | M => exact own1 rfl
      | K => exact own1 rfl
      | T => exact own1 rfl
      | I => exact absurd hj (nI j)
theorem set_look {ρ : Env} {i : Nat} : ρ.set i (look ρ i) = ρ := by
  apply List.ext_getElem?
  intro j
  by_cases z : j = i
  · subst z
    by_cases h : j < ρ.length
    · rw [List.getElem?_set_self h]; unfold look; simp [List.getD_eq_getElem?_getD, h]
    · rw [List.set_eq_of_length_le (by omega)]
  · rw [List.getElem?_set_ne (fun w => z w.symm)]
/-- the thing of a slot becomes a plain value -/
theorem Rel.freeze (r : Rel K G own ρ σ H B) {i : Nat} {st : Stt} (h : own[i]? = some st) (hf : st.fsh = true) (nI : ∀ i : Nat, own[i]? ≠ some .I) : ∃ B', Ex B B' ∧ Rel K G (own.set i .V) ρ σ H B' := by
  have x := ((SlotOk.split (Stt.fsh_own hf)).mp (r.slot i st h)).1
  rw [if_pos hf] at x
  obtain ⟨a, e, ⟨m, fu⟩, hg⟩ := x
  have hl := r.own_lt h
  have R1 : Rel K G (own.set i .U) ρ σ H B := by
    have := r.drop (i := i) (d := look ρ i)
    rwa [set_look] at this
  have nI1 : ∀ j : Nat, (own.set i .U)[j]? ≠ some .I := fun j z => by
    rcases own_set z with ⟨rfl, q, _⟩ | ⟨_, q⟩
    · cases q
    · exact nI j q
  obtain ⟨B', eB, R2, rp⟩ := R1.lay m fu (fun b rt => ⟨hg b rt, fun j sj hj oj rj => by
    rcases own_set hj with ⟨rfl, rfl, _⟩ | ⟨hne, hj⟩
    · cases oj
    · exact hne (r.sep j i sj st b hj h oj (Stt.fsh_own hf) rj ⟨a, e, rt⟩)⟩) (.inr nI1)
  refine ⟨B', eB, R2.keep, by simpa using r.lr, by simpa using r.ls, fun j st hj => ?_, fun j k sj sk b hj hk oj ok ej ek => ?_⟩
  · rcases own_set hj with ⟨rfl, rfl, _⟩ | ⟨hne, hj⟩
    · exact ⟨_, e, rp⟩
    · exact R2.slot j st (by rw [List.getElem?_set_ne (fun z => hne z.symm)]; exact hj)
  · rcases own_set hj with ⟨rfl, rfl, _⟩ | ⟨_, hj⟩
    · cases oj
    · rcases own_set hk with ⟨rfl, rfl, _⟩ | ⟨_, hk⟩
      · cases ok
      · exact r.sep j k sj sk b hj hk oj ok ej ek
end
/-! ### outcomes -/
inductive Res (α : Type) where
  | ok (a : α) (ρ : Env)
  | ex (c : Str) (fs : List (Str × D)) (ρ : Env)
  | bad
abbrev M (α : Type) := Env → Res α
def Res.bnd {α β : Type} (r : Res α) (f : α → M β) : Res β := match r with
  | .ok a ρ => f a ρ
  | .ex c fs ρ => .ex c fs ρ
  | .bad => .bad
def ret {α : Type} (a : α) : M α := fun ρ => .ok a ρ
def bnd {α β : Type} (m : M α) (f : α → M β) : M β := fun ρ => (m ρ).bnd f
def ofO {α : Type} (o : Option α) : M α := fun ρ => match o with
  | some a => .ok a ρ
  | none => .bad
/-- the way out by an exception: what is wanted, what must hold of the slots -/
structure XC where
  W : WX
  own : List Stt
def RepX (K : PySem.W.Frag) (B : Hp) (C : Value) (d : Option Addr) (c : Str) (fs : List (Str × D)) : Prop :=
  C = .ref (He.ga K c) ∧ (fs = [] ∨ ∃ x vs, d = some x ∧ B x = some (.xd ((fs.map (·.1)).zip vs)) ∧ Reps K B vs (fs.map (·.2)))
section
variable {α β γ δ : Type}
def Run (K : PySem.W.Frag) (Z : XC) (G : Gam) (own : List Stt) (Rl : Hp → Hp → β → α → Prop) (r : Res α) (σ : L2.St) (B : Hp) (p : (β → Hp → Prop) → Prop) : Prop := match r with
  | .ok d ρ' => ∀ Q : β → Hp → Prop, (∀ v H' B', Ex B B' → Rel K G own ρ' σ H' B' → Rl H' B' v d → Q v H') → p Q
  | .ex c fs ρ' => (∀ C dd H' B', Ex B B' → Rel K G Z.own ρ' σ H' B' → RepX K B' C dd c fs → Z.W C dd σ H') → ∀ Q, p Q
  | .bad => True
variable {K : PySem.W.Frag} {Z : XC} {G : Gam} {own : List Stt} {Rl : Hp → Hp → β → α → Prop} {Rl2 : Hp → Hp → δ → γ → Prop} {σ : L2.St} {H B : Hp}
theorem Run.seq {r : Res α} {f : α → M γ} {p1 : (β → Hp → Prop) → Prop} {p2 : β → Hp → (δ → Hp → Prop) → Prop} (h1 : Run K Z G own Rl r σ B p1)
    (h2 : ∀ d ρ1 v H1 B1, r = .ok d ρ1 → Ex B B1 → Rel K G own ρ1 σ H1 B1 → Rl H1 B1 v d → Run K Z G own Rl2 (f d ρ1) σ B1 (p2 v H1)) :
    Run K Z G own Rl2 (r.bnd f) σ B (fun Q => p1 fun v H1 => p2 v H1 Q) := by
  cases r with
  | ok d ρ1 =>
    show Run K Z G own Rl2 (f d ρ1) σ B _
    cases hf : f d ρ1 with
    | ok d2 ρ2 =>
      intro Q hQ
      refine h1 _ fun v H1 B1 e R l => ?_
      have := h2 d ρ1 v H1 B1 rfl e R l
      rw [hf] at this
      exact this Q fun v2 H2 B2 e2 R2 l2 => hQ v2 H2 B2 (e.trans e2) R2 l2
    | ex c fs ρ2 =>
      intro hW Q
      refine h1 _ fun v H1 B1 e R l => ?_
      have := h2 d ρ1 v H1 B1 rfl e R l
      rw [hf] at this
      exact this (fun C dd H2 B2 e2 R2 x => hW C dd H2 B2 (e.trans e2) R2 x) Q
    | bad => trivial
  | ex c fs ρ1 => exact fun hW Q => h1 hW _
  | bad => trivial
theorem Run.imp {r : Res α} {p p' : (β → Hp → Prop) → Prop} (h : Run K Z G own Rl r σ B p) (hp : ∀ Q, p Q → p' Q) : Run K Z G own Rl r σ B p' := by
  cases r with
  | ok d ρ => exact fun Q q => hp _ (h Q q)
  | ex c fs ρ => exact fun w Q => hp _ (h w Q)
  | bad => trivial
theorem Run.thn {r : Res α} {f : α → M γ} {p1 : (β → Hp → Prop) → Prop} {p2 : β → Hp → (δ → Hp → Prop) → Prop} {p : (δ → Hp → Prop) → Prop} (h1 : Run K Z G own Rl r σ B p1)
    (h2 : ∀ d ρ1 v H1 B1, r = .ok d ρ1 → Ex B B1 → Rel K G own ρ1 σ H1 B1 → Rl H1 B1 v d → Run K Z G own Rl2 (f d ρ1) σ B1 (p2 v H1))
    (hp : ∀ Q, p1 (fun v H1 => p2 v H1 Q) → p Q := by exact fun Q q => q) : Run K Z G own Rl2 (r.bnd f) σ B p := Run.imp (Run.seq h1 h2) hp
/-- the value is there -/
theorem Run.now {d : α} {ρ : Env} {v : β} {p : (β → Hp → Prop) → Prop} (R : Rel K G own ρ σ H B) (l : Rl H B v d) (h : ∀ Q : β → Hp → Prop, Q v H → p Q) : Run K Z G own Rl (.ok d ρ) σ B p :=
  fun Q q => h Q (q v H B Ex.rfl R l)
/-- a pure step over plain values -/
def Prim (K : PySem.W.Frag) (Rl : Hp → Hp → β → α → Prop) (o : Option α) (H B : Hp) (p : (β → Hp → Prop) → Prop) : Prop := match o with
  | some d => ∀ Q : β → Hp → Prop, (∀ v H' B', New K B H B' H' → Rl H' B' v d → Q v H') → p Q
  | none => True
theorem Run.prim {o : Option α} {ρ : Env} {p : (β → Hp → Prop) → Prop} (R : Rel K G own ρ σ H B) (h : Prim K Rl o H B p) : Run K Z G own Rl (ofO o ρ) σ B p := by
  cases o with
  | some d => exact fun Q q => h Q fun v H' B' n l => q v H' B' n.b (R.new n) l
  | none => trivial
theorem Prim.now {d : α} {v : β} {p : (β → Hp → Prop) → Prop} (bh : Ex B H) (l : Rl H B v d) (h : ∀ Q : β → Hp → Prop, Q v H → p Q) : Prim K Rl (some d) H B p :=
  fun Q q => h Q (q v H B (New.refl bh) l)
end
/-! ### the judgements -/
abbrev RV (K : PySem.W.Frag) : Hp → Hp → V → D → Prop := fun _ B v d => Rep K B v d
abbrev RVs (K : PySem.W.Frag) : Hp → Hp → List V → List D → Prop := fun _ B v d => Reps K B v d
abbrev RB : Hp → Hp → Bool → Bool → Prop := fun _ _ b c => b = c
/-- a new list, not yet known to anyone -/
def Fresh (K : PySem.W.Frag) (G : Gam) (own : List Stt) (σ : L2.St) (H B : Hp) (v : V) (ds : List D) : Prop :=
  ∃ a, v = .ref a ∧ LstOk K H B a ds ∧ (G.pr a = none ∧ G.H a = none) ∧ NoRt own σ H a
/-- a new thing of any kind, not yet known to anyone -/
def FreshM (K : PySem.W.Frag) (G : Gam) (own : List Stt) (σ : L2.St) (H B : Hp) (v : V) (d : D) : Prop :=
  ∃ a, v = .ref a ∧ (MOk K H B a d ∧ Full d) ∧ ∀ b, Root H a b → (G.pr b = none ∧ G.H b = none) ∧ NoRt own σ H b
theorem Fresh.m {K : PySem.W.Frag} {G : Gam} {own : List Stt} {σ : L2.St} {H B : Hp} {v : V} {ds : List D} (f : Fresh K G own σ H B v ds) : FreshM K G own σ H B v (.lst ds) := by
  obtain ⟨a, e, l, g, n⟩ := f
  refine ⟨a, e, ⟨l, trivial⟩, fun b r => ?_⟩
  rw [CellOk.root (K := K) (B := B) (d := .lst ds) l r]
  exact ⟨g, n⟩
theorem atK {K K' : PySem.W.Frag} (h : K' = K) (f : PySem.W.Frag → Prop) (x : f K') : f K := h ▸ x
/-- a judgement is of a family of contexts: those of one def's runs, or of one comprehension's blocks -/
abbrev CF := Cx → Prop
def EX (F : CF) (K : PySem.W.Frag) (Z : XC) (own : List Stt) (e : Expr) (g : M D) : Prop :=
  ∃ t, (∀ X, F X → PE X e t) ∧ ∀ G ρ σ H B, Rel K G own ρ σ H B → Run K Z G own (RV K) (g ρ) σ B (t σ H)
def EXs (F : CF) (K : PySem.W.Frag) (Z : XC) (own : List Stt) (es : List Expr) (g : M (List D)) : Prop :=
  ∃ t, (∀ X, F X → PA X es t) ∧ ∀ G ρ σ H B, Rel K G own ρ σ H B → Run K Z G own (RVs K) (g ρ) σ B (t σ H)
def ET (F : CF) (K : PySem.W.Frag) (Z : XC) (own : List Stt) (e : Expr) (g : M Bool) : Prop :=
  ∃ t, (∀ X, F X → PT X e t) ∧ ∀ G ρ σ H B, Rel K G own ρ σ H B → Run K Z G own RB (g ρ) σ B (t σ H)
/-- an expression that gives a new list -/
def EL (F : CF) (K : PySem.W.Frag) (Z : XC) (own : List Stt) (e : Expr) (g : M (List D)) : Prop :=
  ∃ t, (∀ X, F X → PE X e t) ∧ ∀ G ρ σ H B, Rel K G own ρ σ H B → Run K Z G own (Fresh K G own σ) (g ρ) σ B (t σ H)
def lstM (g : M (List D)) : M D := bnd g fun ds => ret (.lst ds)
section
variable {K : PySem.W.Frag} {G : Gam} {own : List Stt} {ρ : Env} {σ : L2.St} {H B : Hp}
/-- a new list becomes a plain value -/
theorem Rel.freshV (R : Rel K G own ρ σ H B) {v : V} {ds : List D} (f : Fresh K G own σ H B v ds) : ∃ B', Ex B B' ∧ Rel K G own ρ σ H B' ∧ Rep K B' v (.lst ds) := by
  obtain ⟨a, rfl, ⟨m, fu⟩, g⟩ := f.m
  exact R.lay m fu g (.inl ⟨ds, rfl⟩)
/-- a new thing becomes a plain value -/
theorem Rel.freshMV (R : Rel K G own ρ σ H B) {v : V} {d : D} (f : FreshM K G own σ H B v d) (nI : ∀ i : Nat, own[i]? ≠ some .I) : ∃ B', Ex B B' ∧ Rel K G own ρ σ H B' ∧ Rep K B' v d := by
  obtain ⟨a, rfl, ⟨m, fu⟩, g⟩ := f
  exact R.lay m fu g (.inr nI)
/-- a new thing is given to a name -/
theorem Rel.setM (R : Rel K G own ρ σ H B) {i : Nat} {st : Stt} {v : V} {d : D} (f : FreshM K G own σ H B v d) (hf : st.fsh = true) (kd : st.kind d) : Rel K G (own.set i st) (ρ.set i d) (σ.set i (some v)) H B := by
  obtain ⟨a, rfl, la, hs⟩ := f
  have key : ∀ (j : Nat) (sj : Stt) (b : Addr), (own.set i st)[j]? = some sj → sj.own = true → Rt H ((σ.set i (some (.ref a)))[j]?).join b → (j = i ∧ Root H a b) ∨ (j ≠ i ∧ own[j]? = some sj ∧ Rt H (σ[j]?).join b) := fun j sj b hj oj ej => by
    rcases own_set hj with ⟨rfl, rfl, hl⟩ | ⟨hne, h⟩
    · rw [join_set (by rw [R.ls]; exact hl), if_pos rfl] at ej
      exact .inl ⟨rfl, ej.of⟩
    · refine .inr ⟨hne, h, ?_⟩
      by_cases hl : i < σ.length
      · rwa [join_set hl, if_neg hne] at ej
      · rwa [List.set_eq_of_length_le (by omega)] at ej
  refine ⟨R.keep, by simpa using R.lr, by simpa using R.ls, fun j s1 h => ?_, fun j k sj sk b hj hk oj ok ej ek => ?_⟩
  · rcases own_set h with ⟨rfl, rfl, hl⟩ | ⟨hne, h⟩
    · rw [join_set (by rw [R.ls]; exact hl), if_pos rfl, look_set (by rw [R.lr]; exact hl), if_pos rfl]
      exact (SlotOk.split (Stt.fsh_own hf)).mpr ⟨by rw [if_pos hf]; exact ⟨a, rfl, la, fun b r => (hs b r).1⟩, kd⟩
    · by_cases hl : i < own.length
      · rw [join_set (by rw [R.ls]; exact hl), if_neg hne, look_set (by rw [R.lr]; exact hl), if_neg hne]
        exact R.slot j s1 h
      · rw [List.set_eq_of_length_le (by rw [R.ls]; omega), List.set_eq_of_length_le (by rw [R.lr]; omega)]; exact R.slot j s1 h
  · rcases key j sj b hj oj ej with ⟨rfl, r1⟩ | ⟨n1, a1, a2⟩
    · rcases key k sk _ hk ok ek with ⟨rfl, _⟩ | ⟨n2, b1, b2⟩
      · rfl
      · exact ((hs b r1).2 k sk b1 ok b2).elim
    · rcases key k sk b hk ok ek with ⟨rfl, r2⟩ | ⟨n2, b1, b2⟩
      · exact ((hs b r2).2 j sj a1 oj a2).elim
      · exact R.sep j k sj sk b a1 b1 oj ok a2 b2
/-- a new list is given to a name -/
theorem Rel.setL (R : Rel K G own ρ σ H B) {i : Nat} {v : V} {ds : List D} (f : Fresh K G own σ H B v ds) : Rel K G (own.set i .L) (ρ.set i (.lst ds)) (σ.set i (some v)) H B := R.setM f.m rfl ⟨ds, rfl⟩
end
section
variable {F : CF} {K : PySem.W.Frag} {Z : XC} {own : List Stt}
theorem EL.ex {e : Expr} {g : M (List D)} (h : EL F K Z own e g) : EX F K Z own e (lstM g) := by
  obtain ⟨t, pe, h⟩ := h
  refine ⟨t, pe, fun G ρ σ H B R => ?_⟩
  have := Run.seq (Rl2 := RV K) (f := fun ds => ret (D.lst ds)) (p2 := fun v H1 Q => Q v H1) (h G ρ σ H B R) fun ds ρ1 v H1 B1 _ e R1 f => by
    obtain ⟨B2, e2, R2, r2⟩ := R1.freshV f
    exact fun Q q => q v H1 B2 e2 R2 r2
  exact this
/-! ### names, constants -/
def kD (d : D) : M D := ret d
def vD (i : Nat) : M D := fun ρ => .ok (look ρ i) ρ
end
end MP
namespace MP
open PySem L2
/-- what of the contexts is known: their names, which of them are seen, the module's names that are asked -/
structure Sx (F : CF) (K : PySem.W.Frag) (mg : Str → Option Value) (N : List Str) (vis : List Bool) (gl : List Str) (k : Nat) : Prop where
  hK : ∀ X, F X → X.K = K
  hmg : ∀ X, F X → X.mg = mg
  hN : ∀ X, F X → X.N = N
  vis : ∀ X, F X → ∀ (i : Nat) (x : Str), vis[i]? = some true → N[i]? = some x → Vis X.env.scope x ∧ (x == ("__debug__" : Str)) = false ∧ (x == ("__classdict__" : Str)) = false
  gl : ∀ X, F X → ∀ (i : Nat) (x : Str), gl[i]? = some x → Gl X x ∧ (x == ("__debug__" : Str)) = false ∧ x ≠ "__name__"
  calm : ∀ X, F X → X.calm = true
  room : ∀ X, F X → Room k X.A
section
variable {F : CF} {K : PySem.W.Frag} {mg : Str → Option Value} {Z : XC} {own : List Stt} {N : List Str} {vis : List Bool} {gl : List Str} {k : Nat}
theorem ex_int {i : Int} {j : Nat} {pos : Pos} : EX F K Z own (.Constant (.int i) j pos) (kD (.int i)) := ⟨_, fun _ _ => pe_int, fun G ρ σ H B R => Run.now R (.int i) fun Q q => q⟩
theorem ex_str {i : Str} {j : Nat} {pos : Pos} (h : PyData.strOk i = true := by decide +kernel) : EX F K Z own (.Constant (.str i) j pos) (kD (.str i)) := ⟨_, fun _ _ => pe_str, fun G ρ σ H B R => Run.now R (.str i h) fun Q q => q⟩
theorem ex_bl {i : Bool} {j : Nat} {pos : Pos} : EX F K Z own (.Constant (.bool i) j pos) (kD (.bl i)) := ⟨_, fun _ _ => pe_bl, fun G ρ σ H B R => Run.now R (.bl i) fun Q q => q⟩
theorem ex_non {j : Nat} {pos : Pos} : EX F K Z own (.Constant .none j pos) (kD .non) := ⟨_, fun _ _ => pe_non, fun G ρ σ H B R => Run.now R .non fun Q q => q⟩
theorem join_some {α : Type} {o : Option (Option α)} {x : α} (h : o.join = some x) : o = some (some x) := by
  cases o with
  | none => cases h
  | some q => exact congrArg some h
theorem ex_var (S : Sx F K mg N vis gl k) (i : Nat) {x : Str} {pos : Pos} (hN : N[i]? = some x := by rfl) (hv : vis[i]? = some true := by rfl) (ho : own[i]? = some .V := by rfl) : EX F K Z own (.Name x pos) (vD i) := by
  refine ⟨_, fun X hX => let ⟨v1, v2, v3⟩ := S.vis X hX i x hv hN; pe_var (by rw [S.hN X hX]; exact hN) v1 v2 v3, fun G ρ σ H B R => ?_⟩
  obtain ⟨v, e, r⟩ := R.slot i .V ho
  exact Run.now R r fun Q q => ⟨v, join_some e, q⟩
/-- a constant of the module -/
theorem ex_glob (S : Sx F K mg N vis gl k) (i : Nat) {x : Str} {pos : Pos} {u : Value} {v : V} {d : D} (hm : mg x = some u) (hr : RelV v u) (hd : ∀ B, Rep K B v d) (hg : gl[i]? = some x := by rfl) : EX F K Z own (.Name x pos) (kD d) := by
  exact ⟨_, fun X hX => let ⟨g1, g2, g3⟩ := S.gl X hX i x hg; pe_glob g1 (by rw [S.hmg X hX]; exact hm) hr g2, fun G ρ σ H B R => Run.now R (hd B) fun Q q => q⟩
/-! ### operators -/
def OpD (K : PySem.W.Frag) (r : R2) (f : D → D → Option D) : Prop := ∀ x y d1 d2 H B, Ex B H → Rep K B x d1 → Rep K B y d2 → Prim K (RV K) (f d1 d2) H B (r x y H)
def op2 (f : D → D → Option D) (g h : M D) : M D := bnd g fun x => bnd h fun y => ofO (f x y)
theorem ex_op {op : Operator} {r : R2} {f : D → D → Option D} {a b : Expr} {g h : M D} {pos : Pos} (hr : ∀ X, F X → OpR X (binaryOp op) r) (hf : OpD K r f) (ha : EX F K Z own a g) (hb : EX F K Z own b h) : EX F K Z own (.BinOp a op b pos) (op2 f g h) := by
  obtain ⟨ta, pa, ha⟩ := ha
  obtain ⟨tb, pb, hb⟩ := hb
  refine ⟨_, fun X hX => pe_op (hr X hX) (pa X hX) (pb X hX), fun G ρ σ H B R => ?_⟩
  exact Run.thn (ha G ρ σ H B R) fun d ρ1 v H1 B1 _ e R1 l => Run.thn (hb G ρ1 σ H1 B1 R1) fun d2 ρ2 v2 H2 B2 _ e2 R2 l2 => Run.prim R2 (hf v v2 d d2 H2 B2 R2.keep.bh (l.mono e2) l2)
theorem ex_cmp {op : CmpOp} {r : R2} {f : D → D → Option D} {a b : Expr} {g h : M D} {pos : Pos} (hr : ∀ X, F X → OpR X (compareOp op) r) (hf : OpD K r f) (hm : behindInMarks op b = false) (ha : EX F K Z own a g) (hb : EX F K Z own b h) : EX F K Z own (.Compare a [op] [b] pos) (op2 f g h) := by
  obtain ⟨ta, pa, ha⟩ := ha
  obtain ⟨tb, pb, hb⟩ := hb
  refine ⟨_, fun X hX => pe_cmpR (hr X hX) (pa X hX) (pb X hX) hm, fun G ρ σ H B R => ?_⟩
  exact Run.thn (ha G ρ σ H B R) fun d ρ1 v H1 B1 _ e R1 l => Run.thn (hb G ρ1 σ H1 B1 R1) fun d2 ρ2 v2 H2 B2 _ e2 R2 l2 => Run.prim R2 (hf v v2 d d2 H2 B2 R2.keep.bh (l.mono e2) l2)
def chain2 (f f' : D → D → Option D) (g h i : M D) : M D := bnd g fun x => bnd h fun y => bnd (ofO (f x y)) fun z => match z with
  | .bl true => bnd i fun w => ofO (f' y w)
  | .bl false => ret (.bl false)
  | _ => ofO none
theorem chain_run {r r' : R2} {f f' : D → D → Option D} {g h i : M D} {ta tb tc : TE} (hf : OpD K r f) (hf' : OpD K r' f') (ha : ∀ G ρ σ H B, Rel K G own ρ σ H B → Run K Z G own (RV K) (g ρ) σ B (ta σ H)) (hb : ∀ G ρ σ H B, Rel K G own ρ σ H B → Run K Z G own (RV K) (h ρ) σ B (tb σ H)) (hc : ∀ G ρ σ H B, Rel K G own ρ σ H B → Run K Z G own (RV K) (i ρ) σ B (tc σ H))
    {G : Gam} {ρ : Env} {σ : L2.St} {H B : Hp} (R : Rel K G own ρ σ H B) : Run K Z G own (RV K) (chain2 f f' g h i ρ) σ B (tChain r r' ta tb tc σ H) := by
  refine Run.thn (p2 := fun x H1 Q => tb σ H1 fun y H2 => r x y H2 fun z H3 => ∃ k, z = .bl k ∧ (if k = true then tc σ H3 fun w' H4 => r' y w' H4 Q else Q (.bl false) H3)) (ha G ρ σ H B R) fun d ρ1 v H1 B1 _ e R1 l => ?_
  refine Run.thn (p2 := fun y H2 Q => r v y H2 fun z H3 => ∃ k, z = .bl k ∧ (if k = true then tc σ H3 fun w' H4 => r' y w' H4 Q else Q (.bl false) H3)) (hb G ρ1 σ H1 B1 R1) fun d2 ρ2 v2 H2 B2 _ e2 R2 l2 => ?_
  refine Run.thn (p2 := fun z H3 Q => ∃ k, z = .bl k ∧ (if k = true then tc σ H3 fun w' H4 => r' v2 w' H4 Q else Q (.bl false) H3)) (Run.prim R2 (hf v v2 d d2 H2 B2 R2.keep.bh (l.mono e2) l2)) fun z ρ3 v3 H3 B3 _ e3 R3 l3 => ?_
  cases l3 with
  | bl k =>
    cases k with
    | true =>
      refine Run.imp (Run.seq (hc G ρ3 σ H3 B3 R3) fun d4 ρ4 v4 H4 B4 _ e4 R4 l4 => Run.prim R4 (hf' v2 v4 d2 d4 H4 B4 R4.keep.bh ((l2.mono e3).mono e4) l4)) fun Q q => ?_
      exact ⟨true, rfl, by rw [if_pos rfl]; exact q⟩
    | false => exact Run.now R3 (.bl false) fun Q q => ⟨false, rfl, by rw [if_neg Bool.false_ne_true]; exact q⟩
  | _ => trivial
theorem ex_chain {op op' : CmpOp} {r r' : R2} {f f' : D → D → Option D} {a b c : Expr} {g h i : M D} {pos : Pos} (hr : ∀ X, F X → OpR X (compareOp op) r) (hr' : ∀ X, F X → OpR X (compareOp op') r') (hf : OpD K r f) (hf' : OpD K r' f')
    (ha : EX F K Z own a g) (hb : EX F K Z own b h) (hc : EX F K Z own c i) (hm : lastMarks [op, op'] [b, c] = false := by rfl) : EX F K Z own (.Compare a [op, op'] [b, c] pos) (chain2 f f' g h i) := by
  obtain ⟨ta, pa, ha⟩ := ha
  obtain ⟨tb, pb, hb⟩ := hb
  obtain ⟨tc, pc, hc⟩ := hc
  exact ⟨_, fun X hX => pe_chain (hr X hX) (hr' X hX) (pa X hX) (pb X hX) (pc X hX) hm, fun G ρ σ H B R => chain_run hf hf' ha hb hc R⟩
/-! ### and, or, not, if -/
def asB (g : M D) : M Bool := bnd g fun d => match d with
  | .bl b => ret b
  | _ => ofO none
def andD (g h : M D) : M D := bnd (asB g) fun b => if b then h else ret (.bl false)
def orD (g h : M D) : M D := bnd (asB g) fun b => if b then ret (.bl true) else h
def notD (g : M D) : M D := bnd (asB g) fun b => ret (.bl (!b))
def ifD (c : M Bool) (g h : M D) : M D := bnd c fun b => if b then g else h
theorem Run.asB {G : Gam} {σ : L2.St} {B : Hp} {g : M D} {ρ : Env} {p : (V → Hp → Prop) → Prop} (h : Run K Z G own (RV K) (g ρ) σ B p) : Run K Z G own RB (asB g ρ) σ B (fun Q => p fun x H1 => ∃ c, x = .bl c ∧ Q c H1) := by
  refine Run.thn (p2 := fun x H1 Q => ∃ c, x = .bl c ∧ Q c H1) h fun d ρ1 v H1 B1 _ e R1 l => ?_
  cases l with
  | bl b => exact Run.now R1 rfl fun Q q => ⟨b, rfl, q⟩
  | _ => trivial
theorem et_chain {op op' : CmpOp} {r r' : R2} {f f' : D → D → Option D} {a b c : Expr} {g h i : M D} {pos : Pos} (hr : ∀ X, F X → OpR X (compareOp op) r) (hr' : ∀ X, F X → OpR X (compareOp op') r') (hf : OpD K r f) (hf' : OpD K r' f')
    (ha : EX F K Z own a g) (hb : EX F K Z own b h) (hc : EX F K Z own c i) (hm : lastMarks [op, op'] [b, c] = false := by rfl) : ET F K Z own (.Compare a [op, op'] [b, c] pos) (asB (chain2 f f' g h i)) := by
  obtain ⟨ta, pa, ha⟩ := ha
  obtain ⟨tb, pb, hb⟩ := hb
  obtain ⟨tc, pc, hc⟩ := hc
  exact ⟨_, fun X hX => pt_chain (hr X hX) (hr' X hX) (pa X hX) (pb X hX) (pc X hX) hm, fun G ρ σ H B R => Run.asB (chain_run hf hf' ha hb hc R)⟩
theorem ex_one {op : BoolOp} {a : Expr} {g : M D} {pos : Pos} (ha : EX F K Z own a g) : EX F K Z own (.BoolOp op [a] pos) g := by
  obtain ⟨ta, pa, ha⟩ := ha
  exact ⟨ta, fun X hX => pe_one (pa X hX), ha⟩
theorem ex_and {a b : Expr} {rest : List Expr} {g h : M D} {pos : Pos} (ha : EX F K Z own a g) (hb : EX F K Z own (.BoolOp .And (b :: rest) pos) h) : EX F K Z own (.BoolOp .And (a :: b :: rest) pos) (andD g h) := by
  obtain ⟨ta, pa, ha⟩ := ha
  obtain ⟨tb, pb, hb⟩ := hb
  refine ⟨_, fun X hX => pe_and (pa X hX) (pb X hX), fun G ρ σ H B R => ?_⟩
  refine Run.thn (Run.asB (ha G ρ σ H B R)) (Rl2 := RV K) (p2 := fun c H1 Q => if c = true then tb σ H1 Q else Q (.bl false) H1) fun c ρ1 c' H1 B1 _ e R1 l => ?_
  cases l
  cases c with
  | true => exact Run.imp (hb G ρ1 σ H1 B1 R1) fun Q q => by rw [if_pos rfl]; exact q
  | false => exact Run.now R1 (.bl false) fun Q q => by rw [if_neg Bool.false_ne_true]; exact q
theorem ex_not {a : Expr} {g : M D} {pos : Pos} (ha : EX F K Z own a g) : EX F K Z own (.UnaryOp .Not a pos) (notD g) := by
  obtain ⟨ta, pa, ha⟩ := ha
  refine ⟨_, fun X hX => pe_not (pa X hX), fun G ρ σ H B R => ?_⟩
  refine Run.thn (Run.asB (ha G ρ σ H B R)) (Rl2 := RV K) (p2 := fun c H1 Q => Q (.bl (!c)) H1) fun c ρ1 c' H1 B1 _ e R1 l => ?_
  cases l
  exact Run.now R1 (.bl _) fun Q q => q
theorem et_val {e : Expr} {g : M D} (ha : EX F K Z own e g) (hw : ∀ X, F X → ∀ whole : Sem Value, PySem.isTrue e X.env whole = (do let v ← whole; standAt e.pos; holding [v] (truthy v)) := by intro _ _ _; rfl) : ET F K Z own e (asB g) := by
  obtain ⟨ta, pa, ha⟩ := ha
  exact ⟨_, fun X hX => pt_val (pa X hX) (hw X hX), fun G ρ σ H B R => Run.asB (ha G ρ σ H B R)⟩
theorem ex_if {c a b : Expr} {t : M Bool} {g h : M D} {pos : Pos} (hc : ET F K Z own c t) (ha : EX F K Z own a g) (hb : EX F K Z own b h) : EX F K Z own (.IfExp c a b pos) (ifD t g h) := by
  obtain ⟨tc, pc, hc⟩ := hc
  obtain ⟨ta, pa, ha⟩ := ha
  obtain ⟨tb, pb, hb⟩ := hb
  refine ⟨_, fun X hX => pe_ifExp (pc X hX) (pa X hX) (pb X hX), fun G ρ σ H B R => ?_⟩
  refine Run.thn (hc G ρ σ H B R) (Rl2 := RV K) (p2 := fun c H1 Q => if c = true then ta σ H1 Q else tb σ H1 Q) fun c ρ1 c' H1 B1 _ e R1 l => ?_
  cases l
  cases c with
  | true => exact Run.imp (ha G ρ1 σ H1 B1 R1) fun Q q => by rw [if_pos rfl]; exact q
  | false => exact Run.imp (hb G ρ1 σ H1 B1 R1) fun Q q => by rw [if_neg Bool.false_ne_true]; exact q
/-! ### argument lists, displays -/
def nilD : M (List D) := ret []
def consD (g : M D) (h : M (List D)) : M (List D) := bnd g fun x => bnd h fun xs => ret (x :: xs)
theorem es_nil : EXs F K Z own [] nilD := ⟨_, fun _ _ => pa_nil, fun G ρ σ H B R => Run.now R .nil fun Q q => q⟩
theorem es_cons {e : Expr} {es : List Expr} {g : M D} {h : M (List D)} (ha : EX F K Z own e g) (hb : EXs F K Z own es h) (hs : ∀ X, F X → starEach (e :: es) X.env = (false, eval e X.env) :: starEach es X.env := by intro _ _; rfl) : EXs F K Z own (e :: es) (consD g h) := by
  obtain ⟨ta, pa, ha⟩ := ha
  obtain ⟨tb, pb, hb⟩ := hb
  refine ⟨_, fun X hX => pa_cons (pa X hX) (pb X hX) (hs X hX), fun G ρ σ H B R => ?_⟩
  exact Run.thn (ha G ρ σ H B R) fun d ρ1 v H1 B1 _ e R1 l => Run.thn (hb G ρ1 σ H1 B1 R1) (p2 := fun xs H2 Q => Q (v :: xs) H2) fun d2 ρ2 v2 H2 B2 _ e2 R2 l2 => Run.now R2 (.cons (l.mono e2) l2) fun Q q => q
/-- *e in a display -/
def itemsOf : D → Option (List D)
  | .tup ds => some ds
  | .lst ds => some ds
  | _ => none
def starD (g : M D) (h : M (List D)) : M (List D) := bnd g fun x => bnd (ofO (itemsOf x)) fun as => bnd h fun xs => ret (as ++ xs)
theorem rep_items {B : Hp} {v : V} {d : D} {ds : List D} (r : Rep K B v d) (h : itemsOf d = some ds) : ∃ a vs, v = .ref a ∧ (SqT K B a vs ∨ SqL K B a vs) ∧ Reps K B vs ds ∧ ds.length ≤ sizeLine := by
  cases r with
  | tup q r z => cases h; exact ⟨_, _, rfl, .inl q, r, z⟩
  | lst q r z => cases h; exact ⟨_, _, rfl, .inr q, r, z⟩
  | _ => cases h
section
variable {G : Gam} {ρ : Env} {σ : L2.St} {H B : Hp}
theorem Rel.free (R : Rel K G own ρ σ H B) {p : Addr} (hp : H p = none) : (G.pr p = none ∧ G.H p = none) ∧ NoRt own σ H p := by
  refine ⟨⟨R.keep.pr.free hp, ?_⟩, ?_⟩
  · cases q : G.H p with
    | none => rfl
    | some o => obtain ⟨o', q'⟩ := R.keep.dom p o q; rw [hp] at q'; cases q'
  · intro j sj hj oj ej
    obtain ⟨a, e, m, _⟩ := (R.slot j sj hj).mok oj
    rw [e] at ej
    obtain ⟨⟨o, q, _⟩, _⟩ := m.has ej.of
    rw [hp] at q; cases q
/-- where the slots' things stay, what is nobody's stays so -/
theorem Rel.noRt (R : Rel K G own ρ σ H B) {H' : Hp} {p : Addr} (k : ∀ x o, H x = some o → plainO o → H' x = some o) (n : NoRt own σ H p) : NoRt own σ H' p := fun j sj hj oj ej => n j sj hj oj (R.back hj oj (fun x o _ e po => k x o e po) ej)
theorem Rel.freeU (R : Rel K G own ρ σ H B) {p : Addr} {o : HO} (hp : H p = none) : (G.pr p = none ∧ G.H p = none) ∧ NoRt own σ (upd H p o) p :=
  ⟨(R.free hp).1, R.noRt (fun x u e _ => by rw [upd_ne (ne_of_none e hp)]; exact e) (R.free hp).2⟩
theorem Rel.fresh (R : Rel K G own ρ σ H B) {p : Addr} {vs : List V} {ds : List D} (hp : H p = none) (rs : Reps K B vs ds) (hz : ds.length ≤ sizeLine) :
    Rel K G own ρ σ (upd H p (.lst vs)) B ∧ Fresh K G own σ (upd H p (.lst vs)) B (.ref p) ds :=
  ⟨R.new (New.heap (K := K) R.keep.bh hp), p, rfl, ⟨vs, upd_same, rs, hz, R.keep.bh.free hp⟩, R.freeU hp⟩
theorem Rel.tup (R : Rel K G own ρ σ H B) {p : Addr} {vs : List V} {ds : List D} (hp : H p = none) (rs : Reps K B vs ds) (hz : ds.length ≤ sizeLine) :
    ∃ B', Ex B B' ∧ Rel K G own ρ σ (upd H p (.tup vs)) B' ∧ Rep K B' (.ref p) (.tup ds) :=
  ⟨upd B p (.tup vs), (New.alloc (K := K) R.keep.bh hp).b, R.new (New.alloc (K := K) R.keep.bh hp), .tup (.inl (.inl upd_same)) (rs.mono (New.alloc (K := K) R.keep.bh hp (o := .tup vs)).b) hz⟩
end
/-- within the line -/
def szO {α : Type} (xs : List α) : Option (List α) := if xs.length ≤ 16000000 then some xs else none
theorem szO_some {α : Type} {xs ys : List α} (h : szO xs = some ys) : ys = xs ∧ xs.length ≤ sizeLine := by
  unfold szO at h
  split at h
  · rename_i q
    exact ⟨(Option.some.inj h).symm, Nat.le_trans q (by rw [sizeLine_eq]; decide)⟩
  · cases h
def tupD (g : M (List D)) : M D := bnd g fun xs => bnd (ofO (szO xs)) fun ys => ret (.tup ys)
def lstD (g : M (List D)) : M (List D) := bnd g fun xs => ofO (szO xs)
theorem ex_tup {es : List Expr} {n : Nat} {pos : Pos} {g : M (List D)} (h : EXs F K Z own es g) : EX F K Z own (.Tuple es n pos) (tupD g) := by
  obtain ⟨ta, pa, ha⟩ := h
  refine ⟨_, fun X hX => pe_tup (pa X hX), fun G ρ σ H B R => ?_⟩
  refine Run.thn (p2 := fun xs H1 Q => xs.length ≤ sizeLine ∧ ∀ p, H1 p = none → Q (.ref p) (upd H1 p (.tup xs))) (ha G ρ σ H B R) fun ds ρ1 vs H1 B1 _ e R1 l => ?_
  show Run K Z G own (RV K) (Res.bnd (ofO (szO ds) ρ1) _) σ B1 _
  cases hz : szO ds with
  | none => trivial
  | some es =>
    obtain ⟨rfl, hz⟩ := szO_some hz
    refine fun Q q => ⟨by rw [l.len]; exact hz, fun p hp => ?_⟩
    obtain ⟨B2, e2, R2, r2⟩ := R1.tup hp l hz
    exact q _ _ B2 e2 R2 r2
theorem el_lst {es : List Expr} {pos : Pos} {g : M (List D)} (h : EXs F K Z own es g) : EL F K Z own (.List es pos) (lstD g) := by
  obtain ⟨ta, pa, ha⟩ := h
  refine ⟨_, fun X hX => pe_lst (pa X hX), fun G ρ σ H B R => ?_⟩
  refine Run.thn (p2 := fun xs H1 Q => xs.length ≤ sizeLine ∧ ∀ p, H1 p = none → Q (.ref p) (upd H1 p (.lst xs))) (ha G ρ σ H B R) fun ds ρ1 vs H1 B1 _ e R1 l => ?_
  cases hz : szO ds with
  | none => simp only [ofO]; trivial
  | some es =>
    obtain ⟨rfl, hz⟩ := szO_some hz
    refine fun Q q => ⟨by rw [l.len]; exact hz, fun p hp => ?_⟩
    obtain ⟨R2, f2⟩ := R1.fresh hp l hz
    exact q _ _ B1 Ex.rfl R2 f2
/-! ### built-ins by name -/
def CallD (K : PySem.W.Frag) (r : List V → Hp → VK → Prop) (f : List D → Option D) : Prop := ∀ vs ds H B, Ex B H → Reps K B vs ds → Prim K (RV K) (f ds) H B (r vs H)
def callD (f : List D → Option D) (g : M (List D)) : M D := bnd g fun xs => ofO (f xs)
theorem ex_callB (S : Sx F K mg N vis gl k) (i : Nat) {id : String} {r : List V → Hp → VK → Prop} {f : List D → Option D} {x : Str} {p pos : Pos} {e : Expr} {es : List Expr} {g : M (List D)} (hc : ∀ X, F X → CallR X (.builtin id) r) (hf : CallD K r f)
    (hm : mg x = none) (hv : bootBuiltins x = some (.builtin id)) (ha : EXs F K Z own (e :: es) g) (hg : gl[i]? = some x := by rfl) (hs : ∀ X, F X → starEach (e :: es) X.env = (false, eval e X.env) :: starEach es X.env := by intro _ _; rfl)
    (hs2 : ∀ X, F X → ((backTo pos (starEach es X.env)).any fun q => q.1) = false := by intro _ _; rfl) : EX F K Z own (.Call (.Name x p) (e :: es) [] pos) (callD f g) := by
  obtain ⟨ta, pa, ha⟩ := ha
  refine ⟨_, fun X hX => let ⟨g1, g2, g3⟩ := S.gl X hX i x hg; pe_callB (hc X hX) g1 (by rw [S.hmg X hX]; exact hm) hv (pa X hX) g3 g2 (hs X hX) (hs2 X hX), fun G ρ σ H B R => ?_⟩
  exact Run.thn (ha G ρ σ H B R) fun ds ρ1 vs H1 B1 _ e R1 l => Run.prim R1 (hf vs ds H1 B1 R1.keep.bh l)
theorem ex_callTy (S : Sx F K mg N vis gl k) (i : Nat) {id : String} {r : List V → Hp → VK → Prop} {f : List D → Option D} {x : Str} {p pos : Pos} {e : Expr} {es : List Expr} {g : M (List D)} (hc : ∀ X, F X → CallR X (.type id) r) (hf : CallD K r f)
    (hm : mg x = none) (hv : bootBuiltins x = some (.type id)) (ha : EXs F K Z own (e :: es) g) (hg : gl[i]? = some x := by rfl) (hs : ∀ X, F X → starEach (e :: es) X.env = (false, eval e X.env) :: starEach es X.env := by intro _ _; rfl)
    (hs2 : ∀ X, F X → ((backTo pos (starEach es X.env)).any fun q => q.1) = false := by intro _ _; rfl) : EX F K Z own (.Call (.Name x p) (e :: es) [] pos) (callD f g) := by
  obtain ⟨ta, pa, ha⟩ := ha
  refine ⟨_, fun X hX => let ⟨g1, g2, g3⟩ := S.gl X hX i x hg; pe_callTy (hc X hX) g1 (by rw [S.hmg X hX]; exact hm) hv (pa X hX) g3 g2 (hs X hX) (hs2 X hX), fun G ρ σ H B R => ?_⟩
  exact Run.thn (ha G ρ σ H B R) fun ds ρ1 vs H1 B1 _ e R1 l => Run.prim R1 (hf vs ds H1 B1 R1.keep.bh l)
end
end MP
namespace MP
open PySem L2
inductive SRes where
  | nx (ρ : Env) | rt (d : D) (ρ : Env) | bk (ρ : Env) | ct (ρ : Env) | ex (c : Str) (fs : List (Str × D)) (ρ : Env) | bad
abbrev SM := Env → SRes
/-- the ways out: exceptions, the loop's slots, the slots at a return -/
structure Ctl where
  Z : XC
  lo : List Stt
  ro : List Stt
def SPost (K : PySem.W.Frag) (C : Ctl) (G : Gam) (own' : List Stt) (r : SRes) (B : Hp) (E : Ends) : Prop := match r with
  | .nx ρ' => ∀ σ' H' B', Ex B B' → Rel K G own' ρ' σ' H' B' → E.nx σ' H'
  | .rt d ρ' => ∀ v σ' H' B', Ex B B' → Rel K G C.ro ρ' σ' H' B' → Rep K B' v d → E.rt v H'
  | .bk ρ' => ∀ σ' H' B', Ex B B' → Rel K G C.lo ρ' σ' H' B' → E.bk σ' H'
  | .ct ρ' => ∀ σ' H' B', Ex B B' → Rel K G C.lo ρ' σ' H' B' → E.ct σ' H'
  | .ex c fs ρ' => ∀ Cv dd σ' H' B', Ex B B' → Rel K G C.Z.own ρ' σ' H' B' → RepX K B' Cv dd c fs → C.Z.W Cv dd σ' H'
  | .bad => False
def SRun (K : PySem.W.Frag) (C : Ctl) (G : Gam) (own' : List Stt) (r : SRes) (B : Hp) (p : Ends → Prop) : Prop := ∀ E : Ends, SPost K C G own' r B E → p E
theorem SPost.mono {K : PySem.W.Frag} {C : Ctl} {G : Gam} {own' : List Stt} {r : SRes} {B B' : Hp} {E : Ends} (h : SPost K C G own' r B E) (e : Ex B B') : SPost K C G own' r B' E := by
  cases r with
  | nx ρ => exact fun σ' H' B2 e2 => h σ' H' B2 (e.trans e2)
  | rt d ρ => exact fun v σ' H' B2 e2 => h v σ' H' B2 (e.trans e2)
  | bk ρ => exact fun σ' H' B2 e2 => h σ' H' B2 (e.trans e2)
  | ct ρ => exact fun σ' H' B2 e2 => h σ' H' B2 (e.trans e2)
  | ex c fs ρ => exact fun Cv dd σ' H' B2 e2 => h Cv dd σ' H' B2 (e.trans e2)
  | bad => exact h
def Res.sb {α : Type} (r : Res α) (f : α → SM) : SRes := match r with
  | .ok a ρ => f a ρ
  | .ex c fs ρ => .ex c fs ρ
  | .bad => .bad
def sbd {α : Type} (m : M α) (f : α → SM) : SM := fun ρ => (m ρ).sb f
theorem SRun.ofE {α β : Type} {K : PySem.W.Frag} {C : Ctl} {G : Gam} {own own' : List Stt} {Rl : Hp → Hp → β → α → Prop} {r : Res α} {f : α → SM} {σ : L2.St} {B : Hp} {p1 : (β → Hp → Prop) → Prop} {p2 : β → Hp → Ends → Prop} {p : Ends → Prop}
    (h1 : Run K C.Z G own Rl r σ B p1) (h2 : ∀ d ρ1 v H1 B1, r = .ok d ρ1 → Ex B B1 → Rel K G own ρ1 σ H1 B1 → Rl H1 B1 v d → SRun K C G own' (f d ρ1) B1 (p2 v H1))
    (hp : ∀ E, p1 (fun v H1 => p2 v H1 E) → p E := by exact fun E q => q) : SRun K C G own' (r.sb f) B p := by
  intro E hE
  cases r with
  | ok d ρ1 => exact hp E (h1 _ fun v H1 B1 e R l => h2 d ρ1 v H1 B1 rfl e R l E (SPost.mono (r := f d ρ1) hE e))
  | ex c fs ρ1 => exact hp E (h1 (fun Cv dd H' B' e R x => hE Cv dd σ H' B' e R x) _)
  | bad => exact hE.elim
def ST (F : CF) (K : PySem.W.Frag) (C : Ctl) (own : List Stt) (st : Stmt) (g : SM) (own' : List Stt) : Prop :=
  ∃ t, (∀ X, F X → PS X st t) ∧ ∀ G ρ σ H B, Rel K G own ρ σ H B → SRun K C G own' (g ρ) B (fun E => t E σ H)
def STs (F : CF) (K : PySem.W.Frag) (C : Ctl) (own : List Stt) (st : List Stmt) (g : SM) (own' : List Stt) : Prop :=
  ∃ t, (∀ X, F X → PSs X st t) ∧ ∀ G ρ σ H B, Rel K G own ρ σ H B → SRun K C G own' (g ρ) B (fun E => t E σ H)
/-- less is said, slot by slot -/
def leB : List Stt → List Stt → Bool
  | [], [] => true
  | a :: as, b :: bs => a.le b && leB as bs
  | _, _ => false
theorem leB_len : ∀ {a b : List Stt}, leB a b = true → a.length = b.length
  | [], [], _ => rfl
  | [], _ :: _, h => by cases h
  | _ :: _, [], h => by cases h
  | a :: as, b :: bs, h => by
    have := (Bool.and_eq_true_iff.mp (show (a.le b && leB as bs) = true from h)).2
    simpa using leB_len this
theorem leB_at : ∀ {a b : List Stt} {i : Nat} {x y : Stt}, leB a b = true → a[i]? = some x → b[i]? = some y → x.le y = true
  | [], _, _, _, _, _, h, _ => by simp at h
  | _ :: _, [], _, _, _, h, _, _ => by cases h
  | a :: as, b :: bs, 0, _, _, h, h1, h2 => by
    simp at h1 h2; subst h1; subst h2
    exact (Bool.and_eq_true_iff.mp (show (a.le b && leB as bs) = true from h)).1
  | a :: as, b :: bs, i + 1, _, _, h, h1, h2 => leB_at (Bool.and_eq_true_iff.mp (show (a.le b && leB as bs) = true from h)).2 (by simpa using h1) (by simpa using h2)
theorem Rel.less {K : PySem.W.Frag} {G : Gam} {own o : List Stt} {ρ : Env} {σ : L2.St} {H B : Hp} (R : Rel K G own ρ σ H B) (h : leB o own = true) : Rel K G o ρ σ H B := R.weak (leB_len h) fun _ _ _ a b => leB_at h a b
section
variable {F : CF} {K : PySem.W.Frag} {mg : Str → Option Value} {C : Ctl} {own own1 own2 own' : List Stt} {N : List Str} {vis : List Bool} {gl : List Str} {k : Nat}
/-! ### blocks -/
def nxS : SM := fun ρ => .nx ρ
def seqS (g h : SM) : SM := fun ρ => match g ρ with
  | .nx ρ' => h ρ'
  | r => r
theorem ss_nil (h : leB own' own = true := by rfl) : STs F K C own [] nxS own' := ⟨_, fun _ _ => pss_nil, fun G ρ σ H B R E hE => hE σ H B Ex.rfl (R.less h)⟩
theorem ss_cons {st : Stmt} {rest : List Stmt} {g h : SM} (h1 : ST F K C own st g own1) (h2 : STs F K C own1 rest h own') : STs F K C own (st :: rest) (seqS g h) own' := by
  obtain ⟨t, p1, h1⟩ := h1
  obtain ⟨u, p2, h2⟩ := h2
  refine ⟨_, fun X hX => pss_cons (p1 X hX) (p2 X hX), fun G ρ σ H B R E hE => ?_⟩
  refine h1 G ρ σ H B R { E with nx := u E } ?_
  unfold seqS at hE
  cases hg : g ρ with
  | nx ρ1 => rw [hg] at hE; exact fun σ' H' B' e R' => h2 G ρ1 σ' H' B' R' E (SPost.mono (r := h ρ1) hE e)
  | rt d ρ1 => rw [hg] at hE; exact hE
  | bk ρ1 => rw [hg] at hE; exact hE
  | ct ρ1 => rw [hg] at hE; exact hE
  | ex c fs ρ1 => rw [hg] at hE; exact hE
  | bad => rw [hg] at hE; exact hE
/-- a list of the frame's own is from here on a plain value -/
theorem ss_freeze (i : Nat) {st : List Stmt} {g : SM} (h : STs F K C (own.set i .V) st g own') {st' : Stt} (ho : own[i]? = some st' := by rfl) (hf : st'.fsh = true := by rfl) (hI : noIB own = true := by rfl) : STs F K C own st g own' := by
  obtain ⟨t, p, h⟩ := h
  refine ⟨t, p, fun G ρ σ H B R E hE => ?_⟩
  obtain ⟨B', e, R'⟩ := R.freeze ho hf (noI_of hI)
  exact h G ρ σ H B' R' E (hE.mono e)
/-! ### return, an expression, pass, break, continue; what is never come to -/
def retS (g : M D) : SM := sbd g fun d ρ => .rt d ρ
def exprS (g : M D) : SM := sbd g fun _ ρ => .nx ρ
def badS : SM := fun _ => .bad
theorem st_ret {e : Expr} {g : M D} {pos : Pos} (h : EX F K C.Z own e g) (hr : leB C.ro own = true := by rfl) : ST F K C own (.Return (some e) pos) (retS g) own' := by
  obtain ⟨t, p, h⟩ := h
  exact ⟨_, fun X hX => ps_ret (p X hX), fun G ρ σ H B R => SRun.ofE (p2 := fun v H1 E => E.rt v H1) (h G ρ σ H B R) fun d ρ1 v H1 B1 _ e R1 l E hE => hE v σ H1 B1 Ex.rfl (R1.less hr) l⟩
theorem st_expr {e : Expr} {g : M D} {pos : Pos} (h : EX F K C.Z own e g) (hs : ∀ X, F X → swapsWith e none pos.line X.env = pure false := by intro _ _; rfl) : ST F K C own (.Expr e pos) (exprS g) own := by
  obtain ⟨t, p, h⟩ := h
  exact ⟨_, fun X hX => ps_expr (p X hX) (hs X hX), fun G ρ σ H B R => SRun.ofE (p2 := fun v H1 E => E.nx σ H1) (h G ρ σ H B R) fun d ρ1 v H1 B1 _ e R1 l E hE => hE σ H1 B1 Ex.rfl R1⟩
theorem st_bad {st : Stmt} : ST F K C own st badS own' := ⟨_, fun _ _ => ps_never, fun _ _ _ _ _ _ _ hE => hE.elim⟩
/-! ### if -/
def ifS (c : M Bool) (g h : SM) : SM := sbd c fun b => if b then g else h
theorem st_if {c : Expr} {a b : List Stmt} {t : M Bool} {g h : SM} {pos : Pos} (hc : ET F K C.Z own c t) (ha : STs F K C own a g own') (hb : STs F K C own b h own') : ST F K C own (.If c a b pos) (ifS t g h) own' := by
  obtain ⟨tc, pc, hc⟩ := hc
  obtain ⟨ta, pa, ha⟩ := ha
  obtain ⟨tb, pb, hb⟩ := hb
  refine ⟨_, fun X hX => ps_if (pc X hX) (pa X hX) (pb X hX), fun G ρ σ H B R => SRun.ofE (p2 := fun b H1 E => if b = true then ta E σ H1 else tb E σ H1) (hc G ρ σ H B R) fun d ρ1 v H1 B1 _ e R1 l E hE => ?_⟩
  cases l
  cases d with
  | true => show (if true = true then _ else _); rw [if_pos rfl]; exact ha G ρ1 σ H1 B1 R1 E hE
  | false => show (if false = true then _ else _); rw [if_neg Bool.false_ne_true]; exact hb G ρ1 σ H1 B1 R1 E hE
/-! ### stores to names -/
/-- names that may be stored to, by slots -/
structure Lx (F : CF) (N : List Str) (lv : List Bool) : Prop where
  nd : N.Nodup
  loc : ∀ X, F X → ∀ (i : Nat) (x : Str), lv[i]? = some true → N[i]? = some x → L2.Loc X.env.scope x ∧ (X.fn x = true ∨ X.env.scope.names.lookup x = some .local)
def setS (i : Nat) (g : M D) : SM := sbd g fun d ρ => .nx (ρ.set i d)
def setLS (i : Nat) (g : M (List D)) : SM := sbd g fun ds ρ => .nx (ρ.set i (.lst ds))
theorem st_set {lv : List Bool} (S : Sx F K mg N vis gl k) (i : Nat) {x : Str} {e : Expr} {g : M D} {pos pos' : Pos} (L : Lx F N lv) (h : EX F K C.Z own e g) (hN : N[i]? = some x := by rfl) (hlv : lv[i]? = some true := by rfl) (ho : own.set i .V = own' := by rfl)
    (hs : ∀ X, F X → swapsWith e (some (.Name x pos')) pos.line X.env = pure false := by intro _ _; rfl) : ST F K C own (.Assign [.Name x pos'] e pos) (setS i g) own' := by
  obtain ⟨t, p, h⟩ := h
  subst ho
  exact ⟨_, fun X hX => let ⟨l1, l2⟩ := L.loc X hX i x hlv hN; ps_set (by rw [S.hN X hX]; exact L.nd) (by rw [S.hN X hX]; exact hN) l1 (p X hX) (hs X hX) l2, fun G ρ σ H B R => SRun.ofE (p2 := fun v H1 E => E.nx (σ.set i (some v)) H1) (h G ρ σ H B R) fun d ρ1 v H1 B1 _ e R1 l E hE => hE _ H1 B1 Ex.rfl (R1.setV l)⟩
theorem st_setL {lv : List Bool} (S : Sx F K mg N vis gl k) (i : Nat) {x : Str} {e : Expr} {g : M (List D)} {pos pos' : Pos} (L : Lx F N lv) (h : EL F K C.Z own e g) (hN : N[i]? = some x := by rfl) (hlv : lv[i]? = some true := by rfl) (ho : own.set i .L = own' := by rfl)
    (hs : ∀ X, F X → swapsWith e (some (.Name x pos')) pos.line X.env = pure false := by intro _ _; rfl) : ST F K C own (.Assign [.Name x pos'] e pos) (setLS i g) own' := by
  obtain ⟨t, p, h⟩ := h
  subst ho
  exact ⟨_, fun X hX => let ⟨l1, l2⟩ := L.loc X hX i x hlv hN; ps_set (by rw [S.hN X hX]; exact L.nd) (by rw [S.hN X hX]; exact hN) l1 (p X hX) (hs X hX) l2, fun G ρ σ H B R => SRun.ofE (p2 := fun v H1 E => E.nx (σ.set i (some v)) H1) (h G ρ σ H B R) fun d ρ1 v H1 B1 _ e R1 l E hE => hE _ H1 B1 Ex.rfl (R1.setL l)⟩
end
end MP
namespace MP
open PySem L2
/-! ### targets -/
abbrev Bd := D → Env → Option Env
abbrev Bds := List D → Env → Option Env
def TGo (K : PySem.W.Frag) (own' : List Stt) (vs : List Nat) (G : Gam) (o : Option Env) (σ : L2.St) (H B : Hp) (p : (L2.St → Hp → Prop) → Prop) : Prop := match o with
  | some ρ' => ∀ Q : L2.St → Hp → Prop, (∀ σ', wipe σ' vs = wipe σ vs → Rel K G own' ρ' σ' H B → Q σ' H) → p Q
  | none => True
def TGd (F : CF) (K : PySem.W.Frag) (own own' : List Stt) (tg : Expr) (vs : List Nat) (b : Bd) : Prop :=
  ∃ g, (∀ X, F X → PG X tg g) ∧ ∀ G ρ σ H B v d, Rel K G own ρ σ H B → Rep K B v d → TGo K own' vs G (b d ρ) σ H B (g v σ H)
def TGds (F : CF) (K : PySem.W.Frag) (own own' : List Stt) (tg : List Expr) (vs : List Nat) (n : Nat) (b : Bds) : Prop :=
  ∃ g, (∀ X, F X → PGs X tg g ∧ (assignEach tg X.env).length = n ∧ (assignEach tg X.env).findIdx? (·.1) = none) ∧ ∀ G ρ σ H B v d, Rel K G own ρ σ H B → Reps K B v d → TGo K own' vs G (b d ρ) σ H B (g v σ H)
theorem wipe_in {σ : L2.St} {i : Nat} {v : Option V} : ∀ {vs : List Nat}, i ∈ vs → wipe (σ.set i v) vs = wipe σ vs := by
  intro vs h
  apply List.ext_getElem?
  intro j
  by_cases hj : j ∈ vs
  · have key : ∀ τ : L2.St, (wipe τ vs)[j]? = if j < τ.length then some none else none := fun τ => by
      by_cases hl : j < τ.length
      · rw [if_pos hl]
        have e := List.getElem?_eq_getElem (l := wipe τ vs) (i := j) (by rw [wipe_length]; exact hl)
        rw [e]
        congr 1
        cases q : (wipe τ vs)[j]'(by rw [wipe_length]; exact hl) with
        | none => rfl
        | some x => exact absurd hj (wipe_some (σ := τ) (vs := vs) (x := x) (by rw [e, q])).2
      · rw [if_neg hl]; exact List.getElem?_eq_none (by rw [wipe_length]; omega)
    rw [key, key, List.length_set]
  · rw [wipe_out hj, wipe_out hj, List.getElem?_set_ne (fun (z : i = j) => hj (by rw [← z]; exact h))]
def bName (i : Nat) : Bd := fun d ρ => some (ρ.set i d)
def bNil : Bds := fun ds ρ => match ds with
  | [] => some ρ
  | _ => none
def bCons (b : Bd) (c : Bds) : Bds := fun ds ρ => match ds with
  | d :: r => (b d ρ).bind (c r)
  | [] => none
def bTup (n : Nat) (c : Bds) : Bd := fun d ρ => match d with
  | .tup ds => if ds.length = n then c ds ρ else none
  | _ => none
section
variable {F : CF} {K : PySem.W.Frag} {mg : Str → Option Value} {own own1 own' : List Stt} {N : List Str} {vis : List Bool} {gl : List Str} {k : Nat} {vs : List Nat} {lv : List Bool}
theorem tg_name (hXN : ∀ X, F X → X.N = N) (i : Nat) {x : Str} {pos : Pos} (L : Lx F N lv) (hN : N[i]? = some x := by rfl) (hlv : lv[i]? = some true := by rfl) (ho : own.set i .V = own' := by rfl) (hi : i ∈ vs := by decide) : TGd F K own own' (.Name x pos) vs (bName i) := by
  subst ho
  exact ⟨_, fun X hX => let ⟨l1, l2⟩ := L.loc X hX i x hlv hN; pg_name (by rw [hXN X hX]; exact L.nd) (by rw [hXN X hX]; exact hN) l1 l2, fun G ρ σ H B v d R r Q q => q _ (wipe_in hi) (R.setV r)⟩
theorem tgs_nil : TGds F K own own [] vs 0 bNil := ⟨_, fun _ _ => ⟨pgs_nil, rfl, rfl⟩, fun G ρ σ H B v d R r => by
  cases r with
  | nil => exact fun Q q => ⟨rfl, q σ rfl R⟩
  | cons _ _ => trivial⟩
theorem tgs_cons {e : Expr} {es : List Expr} {b : Bd} {c : Bds} {n : Nat} (h1 : TGd F K own own1 e vs b) (h2 : TGds F K own1 own' es vs n c)
    (hs : ∀ X, F X → (assignEach (e :: es) X.env).map (·.2) = assign e X.env :: (assignEach es X.env).map (·.2) := by intro _ _; rfl) (hn : ∀ X, F X → (assignEach (e :: es) X.env).length = (assignEach es X.env).length + 1 := by intro _ _; rfl)
    (hf : ∀ X, F X → (assignEach (e :: es) X.env).findIdx? (·.1) = none := by intro _ _; rfl) : TGds F K own own' (e :: es) vs (n + 1) (bCons b c) := by
  obtain ⟨g, pg, h1⟩ := h1
  obtain ⟨gs, pgs, h2⟩ := h2
  refine ⟨_, fun X hX => ⟨pgs_cons (pg X hX) (pgs X hX).1 (hs X hX), by rw [hn X hX, (pgs X hX).2.1], hf X hX⟩, fun G ρ σ H B v d R r => ?_⟩
  cases r with
  | nil => trivial
  | cons r rs =>
    rename_i v1 d1 vs1 ds1
    have a1 := h1 G ρ σ H B _ _ R r
    show TGo K own' vs G ((b d1 ρ).bind (c ds1)) σ H B _
    cases hb : b d1 ρ with
    | none => trivial
    | some ρ1 =>
      rw [hb] at a1
      show TGo K own' vs G (c ds1 ρ1) σ H B _
      cases hc : c ds1 ρ1 with
      | none => trivial
      | some ρ2 =>
        intro Q q
        refine ⟨_, _, rfl, a1 _ fun σ1 w1 R1 => ?_⟩
        have a2 := h2 G ρ1 σ1 H B _ _ R1 rs
        rw [hc] at a2
        exact a2 _ fun σ2 w2 R2 => q σ2 (w2.trans w1) R2
theorem tg_tup {es : List Expr} {kk n : Nat} {pos : Pos} {c : Bds} (S : Sx F K mg N vis gl k) (h : TGds F K own own' es vs n c) : TGd F K own own' (.Tuple es kk pos) vs (bTup n c) := by
  obtain ⟨g, pg, h⟩ := h
  refine ⟨gTup K n g, fun X hX => atK (S.hK X hX) (fun K => PG X _ (gTup K n g)) (pg_tup (S.calm X hX) (pg X hX).1 (pg X hX).2.1 (pg X hX).2.2), fun G ρ σ H B v d R r => ?_⟩
  cases r with
  | tup hq rs hz =>
    rename_i a us ds
    show TGo K own' vs G (if ds.length = n then c ds ρ else none) σ H B _
    by_cases hl : ds.length = n
    · rw [if_pos hl]
      have a1 := h G ρ σ H B _ _ R rs
      cases hc : c ds ρ with
      | none => trivial
      | some ρ1 =>
        rw [hc] at a1
        exact fun Q q => ⟨a, us, rfl, seqT R.keep.bh hq, rs.len.trans hl, a1 Q q⟩
    · rw [if_neg hl]; trivial
  | _ => trivial
end
/-! ### what is walked -/
structure ItOk (K : PySem.W.Frag) (B : Hp) (J : It) (ds : List D) : Prop where
  sz : ds.length ≤ sizeLine
  go : ∀ (i : Nat) (H : Hp), Ex B H → i < ds.length → J.go i H
  yld : ∀ (i : Nat) (H B1 : Hp) (x : V) (H' : Hp), Ex B B1 → Ex B1 H → i < ds.length → J.yld i H x H' → ∃ d B2, ds[i]? = some d ∧ New K B1 H B2 H' ∧ Rep K B2 x d
  stop : ∀ (i : Nat) (H : Hp), Ex B H → ds.length ≤ i → J.stop i H
def IT (F : CF) (K : PySem.W.Frag) (Z : XC) (own : List Stt) (tg e : Expr) (g : M (List D)) : Prop :=
  ∃ wi, (∀ X, F X → PI X tg e wi) ∧ ∀ G ρ σ H B, Rel K G own ρ σ H B → Run K Z G own (fun _ B J ds => ItOk K B J ds) (g ρ) σ B (wi σ H)
section
variable {F : CF} {K : PySem.W.Frag} {mg : Str → Option Value} {Z : XC} {own own1 own' : List Stt} {N : List Str} {vis : List Bool} {gl : List Str} {k : Nat} {tg : Expr}
theorem itl_ok {B : Hp} {a : Addr} {us : List V} {ds : List D} (h : SqL K B a us) (r : Reps K B us ds) (hz : ds.length ≤ sizeLine) : ItOk K B (Itl K a) ds where
  sz := hz
  go := fun i H e hi => by
    obtain ⟨v, hv, _⟩ := r.get (List.getElem?_eq_getElem hi)
    exact ⟨us, v, e.seq h, hv⟩
  yld := fun i H B1 x H' e e1 hi y => by
    obtain ⟨rfl, y⟩ := y
    obtain ⟨d, hd, rx⟩ := r.getV (y us ((e.trans e1).seq h))
    exact ⟨d, B1, hd, New.refl e1, rx.mono e⟩
  stop := fun i H e hi => ⟨us, e.seq h, by rw [r.len]; exact hi⟩
theorem itt_ok {B : Hp} {a : Addr} {us : List V} {ds : List D} (h : SqT K B a us) (r : Reps K B us ds) (hz : ds.length ≤ sizeLine) : ItOk K B (Itt K a) ds where
  sz := hz
  go := fun i H e hi => by
    obtain ⟨v, hv, _⟩ := r.get (List.getElem?_eq_getElem hi)
    exact ⟨us, v, seqT e h, hv⟩
  yld := fun i H B1 x H' e e1 hi y => by
    obtain ⟨rfl, y⟩ := y
    obtain ⟨d, hd, rx⟩ := r.getV (y us (seqT (e.trans e1) h))
    exact ⟨d, B1, hd, New.refl e1, rx.mono e⟩
  stop := fun i H e hi => ⟨us, seqT e h, by rw [r.len]; exact hi⟩
/-- a list or a tuple: one rule for both -/
def iSeq (K : PySem.W.Frag) (tl : TE) : TI := fun σ H R => tl σ H fun x H1 => (∃ a, x = .ref a ∧ (∃ xs, SqL K H1 a xs) ∧ R (Itl K a) H1) ∨ (∃ a, x = .ref a ∧ (∃ xs, SqT K H1 a xs) ∧ R (Itt K a) H1) ∨ (∃ z, x = .str z ∧ R (Its z) H1)
theorem pi_seq {X : Cx} {l : Expr} {tl : TE} (hl : PE X l tl) : PI X tg l (iSeq X.K tl) := by
  refine ⟨fun pins s σ H R I h => ?_⟩
  refine L2.thn (hl.run pins s σ H _ I h) fun v s1 ⟨x, H1, I1, r1, q1⟩ => ?_
  rcases q1 with ⟨a, e, ⟨xs, hq⟩, q⟩ | ⟨a, e, ⟨xs, hq⟩, q⟩ | ⟨z, e, q⟩
  · subst e
    cases r1
    obtain ⟨its, rv, p, hz⟩ := I1.list hq
    refine wpAny_pyIter_list p.isList ?_
    refine ⟨s1.heap.objs.size, [s1.heap.objs.size], _, _, H1, rfl, I1.kept (t' := s1.toks) fun b o e => Heap.get?_push_of_some _ e, turn_list a _, ⟨_, Heap.get?_push_size _ rfl, rfl, rfl⟩, fun b hb => ?_, q⟩
    have e : b = s1.heap.objs.size := by simpa using hb
    subst e
    exact I1.fpOk (Nat.le_refl _) (I1.hok.fresh (Nat.le_refl _))
  · subst e
    cases r1
    obtain ⟨its, rv, p, hz⟩ := I1.tuple hq
    refine wpAny_pyIter_tuple (show s1.heap.IsTuple a its.toArray from p) ?_
    refine ⟨s1.heap.objs.size, [s1.heap.objs.size], _, _, H1, rfl, I1.kept (t' := s1.toks) fun b o e => Heap.get?_push_of_some _ e, turn_tuple a _, ⟨_, Heap.get?_push_size _ rfl, rfl, rfl⟩, fun b hb => ?_, q⟩
    have e : b = s1.heap.objs.size := by simpa using hb
    subst e
    exact I1.fpOk (Nat.le_refl _) (I1.hok.fresh (Nat.le_refl _))
  · subst e
    obtain ⟨t, rfl⟩ := r1
    cases ha : z.cps.all (· < 128)
    · exact wpAny_pyIter_wide ha (pi_one (tk := s1.toks) I1 _ (turn_str _ z t "str_iterator" (.inr rfl)) ⟨_, Heap.get?_push_size _ rfl, rfl, rfl⟩ q)
    · exact wpAny_pyIter_ascii ha (pi_one (tk := s1.toks) I1 _ (turn_str _ z t "str_ascii_iterator" (.inl rfl)) ⟨_, Heap.get?_push_size _ rfl, rfl, rfl⟩ q)
theorem strOk_one {z : Str} (h : PyData.strOk z = true) {i c : Nat} (hc : z.cps[i]? = some c) : PyData.strOk ⟨#[c]⟩ = true := by
  unfold PyData.strOk at *
  rw [Array.all_eq_true] at h
  obtain ⟨hi, e⟩ := Array.getElem?_eq_some_iff.mp hc
  have := h i hi
  rw [e] at this
  simpa using this
def chars (z : Str) : List D := z.cps.toList.map fun c => D.str ⟨#[c]⟩
def seqOf : D → Option (List D)
  | .tup ds => some ds
  | .lst ds => some ds
  | .str z => szO (chars z)
  | _ => none
def itD (g : M D) : M (List D) := bnd g fun d => ofO (seqOf d)
theorem its_ok {B : Hp} {z : Str} (ho : PyData.strOk z = true) (hz : (chars z).length ≤ sizeLine) : ItOk K B (Its z) (chars z) where
  sz := hz
  go := fun i H e hi => by
    have : (chars z).length = z.cps.size := by simp [chars]
    show i < z.cps.size
    omega
  yld := fun i H B1 x H' e e1 hi y => by
    obtain ⟨rfl, c, hc, rfl⟩ := y
    refine ⟨.str ⟨#[c]⟩, B1, ?_, New.refl e1, .str _ (strOk_one ho hc)⟩
    unfold chars
    rw [List.getElem?_map, Array.getElem?_toList, hc]
    rfl
  stop := fun i H e hi => by
    have : (chars z).length = z.cps.size := by simp [chars]
    show z.cps.size ≤ i
    omega
theorem it_seq (S : Sx F K mg N vis gl k) {e : Expr} {g : M D} (h : EX F K Z own e g) : IT F K Z own tg e (itD g) := by
  obtain ⟨t, p, h⟩ := h
  refine ⟨iSeq K t, fun X hX => atK (S.hK X hX) (fun K => PI X _ _ (iSeq K t)) (pi_seq (p X hX)), fun G ρ σ H B R => ?_⟩
  refine Run.thn (p2 := fun x H1 R => (∃ a, x = .ref a ∧ (∃ xs, SqL K H1 a xs) ∧ R (Itl K a) H1) ∨ (∃ a, x = .ref a ∧ (∃ xs, SqT K H1 a xs) ∧ R (Itt K a) H1) ∨ (∃ z, x = .str z ∧ R (Its z) H1)) (h G ρ σ H B R) fun d ρ1 v H1 B1 _ e R1 l => ?_
  cases l with
  | tup hq rs hz => exact fun Q q => .inr (.inl ⟨_, rfl, ⟨_, seqT R1.keep.bh hq⟩, q _ H1 B1 Ex.rfl R1 (itt_ok hq rs hz)⟩)
  | lst hq rs hz => exact fun Q q => .inl ⟨_, rfl, ⟨_, R1.keep.bh.seq hq⟩, q _ H1 B1 Ex.rfl R1 (itl_ok hq rs hz)⟩
  | str z ho =>
    show Run _ _ _ _ _ (ofO (szO (chars z)) ρ1) _ _ _
    cases hz : szO (chars z) with
    | none => trivial
    | some es =>
      obtain ⟨rfl, hz2⟩ := szO_some hz
      exact fun Q q => .inr (.inr ⟨z, rfl, q _ H1 B1 Ex.rfl R1 (its_ok ho hz2)⟩)
  | _ => trivial
/-! ### range -/
def rangeL (lo hi : Int) : List D := (List.range (hi - lo).toNat).map fun j => D.int (lo + (j : Nat))
def rng1 : List D → Option (List D)
  | [.int n] => if n ≤ 16000000 ∧ -(2 ^ 62) ≤ n then some (rangeL 0 n) else none
  | _ => none
def rng2 : List D → Option (List D)
  | [.int a, .int b] => if (-(2 ^ 61) ≤ a ∧ a < 2 ^ 61 ∧ -(2 ^ 61) ≤ b ∧ b < 2 ^ 61) ∧ b - a ≤ 16000000 then some (rangeL a b) else none
  | _ => none
theorem itr_ok {B : Hp} {lo hi : Int} (h : hi - lo ≤ 16000000) : ItOk K B (Itr lo (hi - lo).toNat) (rangeL lo hi) where
  sz := by rw [rangeL, List.length_map, List.length_range, sizeLine_eq]; omega
  go := fun i H e hi' => by rw [rangeL, List.length_map, List.length_range] at hi'; exact hi'
  yld := fun i H B1 x H' e e1 hi' y => by
    obtain ⟨rfl, rfl⟩ := y
    rw [rangeL, List.length_map, List.length_range] at hi'
    refine ⟨.int (lo + (i : Nat)), B1, ?_, New.refl e1, .int _⟩
    rw [rangeL, List.getElem?_map, List.getElem?_range hi']
    rfl
  stop := fun i H e hi' => by rw [rangeL, List.length_map, List.length_range] at hi'; exact hi'
def rngD (f : List D → Option (List D)) (g : M (List D)) : M (List D) := bnd g fun ds => ofO (f ds)
theorem it_range1 (S : Sx F K mg N vis gl k) (i : Nat) {a : Expr} {g : M (List D)} {p pos : Pos} (hm : mg "range" = none) (ha : EXs F K Z own [a] g) (hg : gl[i]? = some ("range" : Str) := by rfl) (hs : ∀ X, F X → starEach [a] X.env = [(false, eval a X.env)] := by intro _ _; rfl) :
    IT F K Z own tg (.Call (.Name "range" p) [a] [] pos) (rngD rng1 g) := by
  obtain ⟨t, pa, h⟩ := ha
  refine ⟨_, fun X hX => pi_range1 (S.gl X hX i _ hg).1 (by rw [S.hmg X hX]; exact hm) (pa X hX) (hs X hX), fun G ρ σ H B R => ?_⟩
  refine Run.thn (p2 := fun vs H1 R => ∃ j : Int, vs = [.int j] ∧ -(2 ^ 62) ≤ j ∧ j < 2 ^ 62 ∧ R (Itr 0 j.toNat) H1) (h G ρ σ H B R) fun ds ρ1 vs H1 B1 _ e R1 l => ?_
  cases l with
  | nil => trivial
  | cons r rs =>
    cases rs with
    | cons _ _ => cases r <;> trivial
    | nil =>
      cases r with
      | int n =>
        show Run _ _ _ _ _ (ofO (if n ≤ 16000000 ∧ -(2 ^ 62) ≤ n then some (rangeL 0 n) else none) ρ1) _ _ _
        split
        · rename_i hn
          have := itr_ok (K := K) (B := B1) (lo := 0) (hi := n) (by omega)
          rw [show n - 0 = n by omega] at this
          exact fun Q q => ⟨n, rfl, hn.2, by omega, q _ H1 B1 Ex.rfl R1 this⟩
        · trivial
      | _ => trivial
theorem it_range2 (S : Sx F K mg N vis gl k) (i : Nat) {a b : Expr} {g : M (List D)} {p pos : Pos} (hm : mg "range" = none) (ha : EXs F K Z own [a, b] g) (hg : gl[i]? = some ("range" : Str) := by rfl) (hs : ∀ X, F X → starEach [a, b] X.env = [(false, eval a X.env), (false, eval b X.env)] := by intro _ _; rfl) (hs2 : ∀ X, F X → starEach [b] X.env = [(false, eval b X.env)] := by intro _ _; rfl) :
    IT F K Z own tg (.Call (.Name "range" p) [a, b] [] pos) (rngD rng2 g) := by
  obtain ⟨t, pa, h⟩ := ha
  refine ⟨_, fun X hX => pi_range2 (S.gl X hX i _ hg).1 (by rw [S.hmg X hX]; exact hm) (pa X hX) (hs X hX) (hs2 X hX), fun G ρ σ H B R => ?_⟩
  refine Run.thn (p2 := fun vs H1 R => ∃ i j : Int, vs = [.int i, .int j] ∧ (-(2 ^ 62) ≤ i ∧ i < 2 ^ 62 ∧ -(2 ^ 62) ≤ j ∧ j < 2 ^ 62) ∧ R (Itr i (j - i).toNat) H1) (h G ρ σ H B R) fun ds ρ1 vs H1 B1 _ e R1 l => ?_
  cases l with
  | nil => trivial
  | cons r rs =>
    cases rs with
    | nil => cases r <;> trivial
    | cons r2 rs =>
      cases rs with
      | cons _ _ => cases r <;> cases r2 <;> trivial
      | nil =>
        cases r with
        | int a =>
          cases r2 with
          | int b =>
            show Run _ _ _ _ _ (ofO (if (-(2 ^ 61) ≤ a ∧ a < 2 ^ 61 ∧ -(2 ^ 61) ≤ b ∧ b < 2 ^ 61) ∧ b - a ≤ 16000000 then some (rangeL a b) else none) ρ1) _ _ _
            split
            · rename_i hn
              exact fun Q q => ⟨a, b, rfl, by omega, q _ H1 B1 Ex.rfl R1 (itr_ok hn.2)⟩
            · trivial
          | _ => trivial
        | _ => cases r2 <;> trivial
/-! ### for, while -/
def forL (b : Bd) (body : SM) : List D → Env → SRes
  | [], ρ => .nx ρ
  | d :: ds, ρ => match b d ρ with
    | none => .bad
    | some ρ1 => match body ρ1 with
      | .nx ρ2 => forL b body ds ρ2
      | .ct ρ2 => forL b body ds ρ2
      | .bk ρ2 => .nx ρ2
      | r => r
def forS (b : Bd) (it : M (List D)) (body : SM) : SM := sbd it fun ds ρ => forL b body ds ρ
def whileS (c : M Bool) (body : SM) : Nat → SM
  | 0 => badS
  | n + 1 => sbd c fun t ρ1 => if t then (match body ρ1 with
      | .nx ρ2 => whileS c body n ρ2
      | .ct ρ2 => whileS c body n ρ2
      | .bk ρ2 => .nx ρ2
      | r => r) else .nx ρ1
theorem st_for {C : Ctl} {iter : Expr} {body : List Stmt} {it : M (List D)} {b : Bd} {g : SM} {pos : Pos} {vs : List Nat} (S : Sx F K mg N vis gl k) (hp : ∀ X, F X → PassesOwn (model X.prog X.w) X.A X.env X.xe) (hi : IT F K C.Z own tg iter it) (ht : TGd F K own own1 tg vs b)
    (hb : STs F K { C with lo := own } own1 body g own) (hs : ∀ X, F X → ∀ x, foldedSetIterable iter X.env x = pure x := by intro _ _ _; rfl) : ST F K C own (.For tg iter body [] pos) (forS b it g) own := by
  obtain ⟨wi, pi, hi⟩ := hi
  obtain ⟨tgr, pg, ht⟩ := ht
  obtain ⟨tb, pb, hb⟩ := hb
  refine ⟨_, fun X hX => ps_for (hp X hX) (S.calm X hX) (pi X hX) (pg X hX) (pb X hX) (hs X hX), fun G ρ σ H B R => SRun.ofE (p2 := fun J H1 E => ∃ W : Nat → Nat → L2.St → Hp → Prop, (∃ m, W 0 m σ H1) ∧ ∀ i m σ H, W i m σ H →
    (J.stop i H ∧ E.nx σ H) ∨ (J.go i H ∧ ∃ N : L2.St → Hp → Prop, (∀ σ' H', N σ' H' → ∃ m', m' < m ∧ W (i + 1) m' σ' H') ∧ ∀ x H', J.yld i H x H' → tgr x σ H' fun σ2 H2 => tb { E with nx := N, ct := N, bk := E.nx } σ2 H2)) (hi G ρ σ H B R) fun ds ρ1 J H1 B1 _ e R1 l E hE => ?_⟩
  refine ⟨fun i m σ' H' => ∃ ρ' B', i ≤ ds.length ∧ m = ds.length - i ∧ Ex B1 B' ∧ Rel K G own ρ' σ' H' B' ∧ SPost K C G own (forL b g (ds.drop i) ρ') B' E, ⟨_, ρ1, B1, Nat.zero_le _, rfl, Ex.rfl, R1, by simpa using hE⟩, ?_⟩
  rintro i m σ2 H2 ⟨ρ2, B2, hle, rfl, e2, R2, hE2⟩
  by_cases hlt : i < ds.length
  · right
    refine ⟨l.go i H2 (e2.trans R2.keep.bh) hlt, fun σ' H' => ∃ ρ' B', Ex B1 B' ∧ Rel K G own ρ' σ' H' B' ∧ SPost K C G own (forL b g (ds.drop (i + 1)) ρ') B' E, fun σ' H' ⟨ρ', B', q1, q2, q3⟩ => ⟨_, by omega, ρ', B', hlt, rfl, q1, q2, q3⟩, fun x H3 hy => ?_⟩
    obtain ⟨d, B3, hd, n3, r3⟩ := l.yld i H2 B2 x H3 e2 R2.keep.bh hlt hy
    have ed : ds.drop i = d :: ds.drop (i + 1) := by
      rw [List.drop_eq_getElem_cons hlt]
      congr 1
      rw [List.getElem?_eq_getElem hlt] at hd
      exact Option.some.inj hd
    rw [ed] at hE2
    have R3 := R2.new n3
    have a1 := ht G ρ2 σ2 H3 B3 x d R3 r3
    have hE3 := hE2.mono n3.b
    unfold forL at hE3
    cases hbd : b d ρ2 with
    | none => rw [hbd] at hE3; exact hE3.elim
    | some ρ3 =>
      rw [hbd] at hE3 a1
      refine a1 _ fun σ4 _ R4 => ?_
      refine hb G ρ3 σ4 H3 B3 R4 { E with nx := _, ct := _, bk := E.nx } ?_
      have eB : Ex B1 B3 := e2.trans n3.b
      dsimp only at hE3
      cases hg : g ρ3 with
      | nx ρ5 => rw [hg] at hE3; exact fun σ' H' B' e5 R5 => ⟨ρ5, B', eB.trans e5, R5, SPost.mono (r := forL b g (ds.drop (i + 1)) ρ5) hE3 e5⟩
      | ct ρ5 => rw [hg] at hE3; exact fun σ' H' B' e5 R5 => ⟨ρ5, B', eB.trans e5, R5, SPost.mono (r := forL b g (ds.drop (i + 1)) ρ5) hE3 e5⟩
      | bk ρ5 => rw [hg] at hE3; exact hE3
      | rt d5 ρ5 => rw [hg] at hE3; exact hE3
      | ex c fs ρ5 => rw [hg] at hE3; exact hE3
      | bad => rw [hg] at hE3; exact hE3
  · left
    have ei : ds.drop i = [] := List.drop_eq_nil_of_le (by omega)
    rw [ei] at hE2
    exact ⟨l.stop i H2 (e2.trans R2.keep.bh) (by omega), hE2 σ2 H2 B2 Ex.rfl R2⟩
theorem st_while {C : Ctl} {c : Expr} {body : List Stmt} {t : M Bool} {g : SM} {pos : Pos} (n : Nat) (hp : ∀ X, F X → PassesOwn (model X.prog X.w) X.A X.env X.xe) (hc : ET F K C.Z own c t) (hb : STs F K { C with lo := own } own body g own) : ST F K C own (.While c body [] pos) (whileS t g n) own := by
  obtain ⟨tc, pc, hc⟩ := hc
  obtain ⟨tb, pb, hb⟩ := hb
  refine ⟨_, fun X hX => ps_while (hp X hX) (pc X hX) (pb X hX), fun G ρ σ H B R E hE => ?_⟩
  refine ⟨fun m σ' H' => ∃ ρ' B', Rel K G own ρ' σ' H' B' ∧ SPost K C G own (whileS t g m ρ') B' E, ⟨n, ρ, B, R, hE⟩, ?_⟩
  rintro m σ2 H2 ⟨ρ2, B2, R2, hE2⟩
  cases m with
  | zero => exact hE2.elim
  | succ m =>
    have a1 := hc G ρ2 σ2 H2 B2 R2
    unfold whileS sbd at hE2
    cases ht : t ρ2 with
    | bad => rw [ht] at hE2; exact hE2.elim
    | ex c fs ρ3 => rw [ht] at hE2 a1; exact a1 (fun Cv dd H' B' e R' x => hE2 Cv dd σ2 H' B' e R' x) _
    | ok tb' ρ3 =>
      rw [ht] at hE2 a1
      refine a1 _ fun v H3 B3 e3 R3 l3 => ?_
      cases l3
      change SPost _ _ _ _ (if tb' = true then _ else _) _ _ at hE2
      cases tb' with
      | false =>
        rw [if_neg Bool.false_ne_true] at hE2
        show (if false = true then _ else _)
        rw [if_neg Bool.false_ne_true]
        exact hE2 σ2 H3 B3 e3 R3
      | true =>
        rw [if_pos rfl] at hE2
        show (if true = true then _ else _)
        rw [if_pos rfl]
        refine ⟨fun σ' H' => ∃ ρ' B', Rel K G own ρ' σ' H' B' ∧ SPost K C G own (whileS t g m ρ') B' E, fun σ' H' q => ⟨m, Nat.lt_succ_self m, q⟩, ?_⟩
        have hE3 := hE2.mono e3
        refine hb G ρ3 σ2 H3 B3 R3 { E with nx := _, ct := _, bk := E.nx } ?_
        cases hg : g ρ3 with
        | nx ρ5 => rw [hg] at hE3; exact fun σ' H' B' e5 R5 => ⟨ρ5, B', R5, SPost.mono (r := whileS t g m ρ5) hE3 e5⟩
        | ct ρ5 => rw [hg] at hE3; exact fun σ' H' B' e5 R5 => ⟨ρ5, B', R5, SPost.mono (r := whileS t g m ρ5) hE3 e5⟩
        | bk ρ5 => rw [hg] at hE3; exact hE3
        | rt d5 ρ5 => rw [hg] at hE3; exact hE3
        | ex c fs ρ5 => rw [hg] at hE3; exact hE3
        | bad => rw [hg] at hE3; exact hE3
end
end MP
namespace MP
open PySem L2
/-! ### list comprehensions -/
def restore (vs : List Nat) (ρ ρ' : Env) : Env := vs.foldl (fun r i => r.set i (look ρ i)) ρ'
def lcL (b : Bd) (c : M Bool) (g : M D) (vs : List Nat) : List D → Env → List D → Res (List D)
  | [], ρ, acc => .ok acc ρ
  | d :: ds, ρ, acc => match b d ρ with
    | none => .bad
    | some ρ1 => match c ρ1 with
      | .ok true ρ2 => (match g ρ2 with
        | .ok y ρ3 => lcL b c g vs ds (restore vs ρ ρ3) (acc ++ [y])
        | _ => .bad)
      | .ok false ρ2 => lcL b c g vs ds (restore vs ρ ρ2) acc
      | _ => .bad
def lcD (b : Bd) (it : M (List D)) (c : M Bool) (g : M D) (vs : List Nat) : M (List D) := bnd it fun ds ρ => lcL b c g vs ds ρ []
def yesM : M Bool := ret true
/-- the tests of a comprehension -/
def ETs (F : CF) (K : PySem.W.Frag) (Z : XC) (own : List Stt) (es : List Expr) (g : M Bool) : Prop :=
  ∃ t, (∀ X, F X → PTs X es t) ∧ ∀ G ρ σ H B, Rel K G own ρ σ H B → Run K Z G own RB (g ρ) σ B (t σ H)
/-- the blocks of a comprehension -/
def blkF (F : CF) (scope : Scope) : CF := fun Y => ∃ X s H C cl fp, F X ∧ Y = X.blk s H scope (compEnvC scope cl C X.env) fp
abbrev Z0 (own : List Stt) : XC := ⟨fun _ _ _ _ => False, own⟩
section
variable {F : CF} {K : PySem.W.Frag} {mg : Str → Option Value} {Z : XC} {own own1 own' : List Stt} {N : List Str} {vis : List Bool} {gl : List Str} {k : Nat}
theorem ets_nil : ETs F K Z own [] yesM := ⟨_, fun _ _ => pts_nil, fun G ρ σ H B R => Run.now R rfl fun Q q => q⟩
theorem ets_one {c : Expr} {t : M Bool} (h : ET F K Z own c t) : ETs F K Z own [c] t := by
  obtain ⟨t, p, h⟩ := h
  exact ⟨t, fun X hX => pts_one (p X hX), h⟩
/-- a slot of which nothing is known may hold anything -/
theorem Rel.setU {G : Gam} {ρ : Env} {σ : L2.St} {H B : Hp} (R : Rel K G own ρ σ H B) {i : Nat} {d : D} (h : own[i]? = some .U) : Rel K G own (ρ.set i d) σ H B := by
  have hl := R.own_lt h
  refine ⟨R.keep, by simpa using R.lr, R.ls, fun j st hj => ?_, R.sep⟩
  rw [look_set (by rw [R.lr]; exact hl)]
  by_cases e : j = i
  · subst e; rw [h] at hj; cases hj; trivial
  · rw [if_neg e]; exact R.slot j st hj
theorem Rel.restore {G : Gam} {ρ0 : Env} {σ : L2.St} {H B : Hp} : ∀ {vs : List Nat} {ρ : Env}, Rel K G own ρ σ H B → (∀ i ∈ vs, own[i]? = some .U) → Rel K G own (MP.restore vs ρ0 ρ) σ H B
  | [], _, R, _ => R
  | i :: vs, ρ, R, h => Rel.restore (vs := vs) (ρ := ρ.set i (look ρ0 i)) (R.setU (h i (by simp))) fun j hj => h j (by simp [hj])
/-- the slots' values where nothing is known do not matter -/
theorem Rel.slots {G : Gam} {ρ : Env} {σ τ : L2.St} {H B : Hp} {vs : List Nat} (R : Rel K G own ρ σ H B) (h : wipe σ vs = wipe τ vs) (hu : ∀ i ∈ vs, own[i]? = some .U) : Rel K G own ρ τ H B := by
  have hl : σ.length = τ.length := by
    have := congrArg List.length h
    rwa [wipe_length, wipe_length] at this
  have key : ∀ i, i ∉ vs → σ[i]? = τ[i]? := fun i hi => by rw [← wipe_out (σ := σ) hi, h, wipe_out hi]
  refine ⟨R.keep, R.lr, hl ▸ R.ls, fun i st hi => ?_, fun i j si sj a hi hj oi oj ei ej => ?_⟩
  · by_cases hv : i ∈ vs
    · rw [hu i hv] at hi; cases hi; trivial
    · rw [← key i hv]; exact R.slot i st hi
  · have ni : i ∉ vs := fun z => by rw [hu i z] at hi; cases hi; cases oi
    have nj : j ∉ vs := fun z => by rw [hu j z] at hj; cases hj; cases oj
    exact R.sep i j si sj a hi hj oi oj (by rw [key i ni]; exact ei) (by rw [key j nj]; exact ej)
theorem wipe_wipe (σ : L2.St) (vs : List Nat) : wipe (wipe σ vs) vs = wipe σ vs := by
  apply List.ext_getElem?
  intro j
  by_cases hj : j ∈ vs
  · have key : ∀ τ : L2.St, (wipe τ vs)[j]? = if j < τ.length then some none else none := fun τ => by
      by_cases hl : j < τ.length
      · rw [if_pos hl]
        have e := List.getElem?_eq_getElem (l := wipe τ vs) (i := j) (by rw [wipe_length]; exact hl)
        rw [e]
        congr 1
        cases q : (wipe τ vs)[j]'(by rw [wipe_length]; exact hl) with
        | none => rfl
        | some x => exact absurd hj (wipe_some (σ := τ) (vs := vs) (x := x) (by rw [e, q])).2
      · rw [if_neg hl]; exact List.getElem?_eq_none (by rw [wipe_length]; omega)
    rw [key, key, wipe_length]
  · rw [wipe_out hj]
/-- the list that is being made is locked while an item is reckoned -/
def Gam.lock (G : Gam) (p : Addr) (o : HO) : Gam := { G with pr := upd G.pr p o }
theorem Rel.lock {G : Gam} {ρ : Env} {σ : L2.St} {H B : Hp} (R : Rel K G own ρ σ H B) {p : Addr} {vl : List V} (hp : H p = some (.lst vl)) (hb : B p = none) (hn : NoRt own σ H p) : Rel K (G.lock p (.lst vl)) own ρ σ H B := by
  generalize ho : HO.lst vl = o at *
  refine ⟨⟨R.keep.bh, fun a u e => ?_, fun a u e => ?_, R.keep.b0, R.keep.fr, R.keep.dom, R.keep.old, ?prn, R.keep.tk, R.keep.tab⟩, R.lr, R.ls, fun j st hj => ?_, R.sep⟩
  · by_cases z : a = p
    · subst z; have e' : upd G.pr a o a = some u := e; rw [upd_same] at e'; rw [← e']; exact hp
    · have e' : upd G.pr p o a = some u := e; rw [upd_ne z] at e'; exact R.keep.pr a u e'
  · by_cases z : a = p
    · subst z; exact hb
    · have e' : upd G.pr p o a = some u := e; rw [upd_ne z] at e'; exact R.keep.prb a u e'
  case prn =>
    intro a u e
    by_cases z : a = p
    · subst z; have e' : upd G.pr a o a = some u := e; rw [upd_same] at e'; rw [← Option.some.inj e', ← ho]; rfl
    · have e' : upd G.pr p o a = some u := e; rw [upd_ne z] at e'; exact R.keep.prn a u e'
  · have := R.slot j st hj
    have own1 : st.own = true → SlotOk K (G.lock p o) H B st (σ[j]?).join (look ρ j) := fun os => by
      obtain ⟨a, e, m, _⟩ := this.mok os
      refine SlotOk.keep this os e m id id (fun b q => .inl q) fun b r g => ?_
      show upd G.pr p o b = none
      rw [upd_ne (fun z => hn j st hj os ⟨a, e, by rw [← z]; exact r⟩)]; exact g
    cases st with
    | U => trivial
    | V => exact this
    | L => exact own1 rfl
    | R => exact own1 rfl
    | O => exact own1 rfl
    | M => exact own1 rfl
    | K => exact own1 rfl
    | T => exact own1 rfl
    | I =>
      obtain ⟨y, dx, c, us, fs, q1, q2, q3, ⟨g1, g2⟩, q5⟩ := this
      obtain ⟨n1, n2⟩ := q3.nl (p := p) (vs := vl) (by rw [ho]; exact hp)
      exact ⟨y, dx, c, us, fs, q1, q2, q3, ⟨by show upd G.pr p o y = none; rw [upd_ne n1]; exact g1, by show upd G.pr p o dx = none; rw [upd_ne n2]; exact g2⟩, q5⟩
theorem Rel.unlock {G : Gam} {ρ : Env} {σ : L2.St} {H B : Hp} {p : Addr} {o : HO} (R : Rel K (G.lock p o) own ρ σ H B) (hg : G.pr p = none) : Rel K G own ρ σ H B ∧ H p = some o ∧ B p = none ∧ NoRt own σ H p := by
  have hpp : (G.lock p o).pr p = some o := upd_same
  have ge : ∀ a u, G.pr a = some u → (G.lock p o).pr a = some u := fun a u e => by
    show upd G.pr p o a = some u
    rw [upd_ne (ne_of_none e hg)]; exact e
  refine ⟨⟨⟨R.keep.bh, fun a u e => R.keep.pr a u (ge a u e), fun a u e => R.keep.prb a u (ge a u e), R.keep.b0, R.keep.fr, R.keep.dom, R.keep.old, fun a u e => R.keep.prn a u (ge a u e), R.keep.tk, R.keep.tab⟩, R.lr, R.ls, fun j st hj => ?_, R.sep⟩, R.keep.pr p o hpp, R.keep.prb p o hpp, fun j sj hj oj ej => ?_⟩
  · have := R.slot j st hj
    have key : ∀ a, (G.lock p o).pr a = none → G.pr a = none := fun a e => by
      cases q : G.pr a with
      | none => rfl
      | some u => rw [ge a u q] at e; cases e
    have own1 : st.own = true → SlotOk K G H B st (σ[j]?).join (look ρ j) := fun os => by
      obtain ⟨a, e, m, _⟩ := this.mok os
      exact SlotOk.keep this os e m id id (fun b q => .inl q) fun b r g => key b g
    cases st with
    | U => trivial
    | V => exact this
    | L => exact own1 rfl
    | R => exact own1 rfl
    | O => exact own1 rfl
    | M => exact own1 rfl
    | K => exact own1 rfl
    | T => exact own1 rfl
    | I => obtain ⟨y, dx, c, us, fs, q1, q2, q3, ⟨g1, g2⟩, q5⟩ := this; exact ⟨y, dx, c, us, fs, q1, q2, q3, ⟨key y g1, key dx g2⟩, q5⟩
  · obtain ⟨a, e, m, g⟩ := (R.slot j sj hj).mok oj
    rw [e] at ej
    have := (g p ej.of).1
    rw [hpp] at this; cases this
/-- the list that is being made takes another form -/
theorem Rel.put {G : Gam} {ρ : Env} {σ : L2.St} {H B : Hp} (R : Rel K G own ρ σ H B) {p : Addr} {vl : List V} {o' : HO} (hp : H p = some (.lst vl)) (hb : B p = none) (hg : G.pr p = none) (ho' : isTb o' = false) (h0 : G.H p = none) (hn : NoRt own σ H p) : Rel K G own ρ σ (upd H p o') B := by
  have kp : ∀ (i : Nat) (si : Stt), own[i]? = some si → si.own = true → ∀ x o, (σ[i]?).join = some (.ref x) → H x = some o → plainO o → upd H p o' x = some o := fun i si hi oi x o ex e _ => by
    rw [upd_ne (fun z => hn i si hi oi ⟨x, ex, .inl z.symm⟩)]; exact e
  refine ⟨⟨fun a u e => ?_, fun a u e => ?_, R.keep.prb, R.keep.b0, fun a u e na nt => ?_, fun a u e => ?_, R.keep.old, R.keep.prn, R.keep.tk.trans (TabsK.put hp plain_lst), R.keep.tab.put hp plain_lst ho'⟩, R.lr, R.ls, fun j st hj => ?_, fun i j si sj a hi hj oi oj ei ej => R.sep i j si sj a hi hj oi oj (R.back hi oi (kp i si hi oi) ei) (R.back hj oj (kp j sj hj oj) ej)⟩
  · rw [upd_ne (ne_of_none e hb)]; exact R.keep.bh a u e
  · rw [upd_ne (ne_of_none e hg)]; exact R.keep.pr a u e
  · rw [upd_ne (ne_of_none e h0)]; exact R.keep.fr a u e na nt
  · rw [upd_ne (ne_of_none e h0)]; exact R.keep.dom a u e
  · have := R.slot j st hj
    have own1 : st.own = true → SlotOk K G (upd H p o') B st (σ[j]?).join (look ρ j) := fun os => by
      obtain ⟨a, e, m, _⟩ := this.mok os
      have k : ∀ b o, Root H a b → H b = some o → upd H p o' b = some o := fun b o rt q => by
        rw [upd_ne (fun z => hn j st hj os ⟨a, e, by rw [← z]; exact rt⟩)]; exact q
      exact SlotOk.keep this os e (m.stay k Ex.rfl fun b rt => (m.has rt).2) id id (fun b q => .inl ((m.same (k a · .self)).mp q)) fun _ _ q => q
    cases st with
    | U => trivial
    | V => exact this
    | L => exact own1 rfl
    | R => exact own1 rfl
    | O => exact own1 rfl
    | M => exact own1 rfl
    | K => exact own1 rfl
    | T => exact own1 rfl
    | I =>
      obtain ⟨y, dx, c, us, fs, q1, q2, q3, q5⟩ := this
      obtain ⟨n1, n2⟩ := q3.nl hp
      exact ⟨y, dx, c, us, fs, q1, q2, q3.stay (fun q z => by rw [upd_ne n1]; exact z) (fun q z => by rw [upd_ne n2]; exact z) Ex.rfl q3.bx q3.bd, q5⟩
theorem lcL_cons {b : Bd} {c : M Bool} {g : M D} {vs : List Nat} {d : D} {ds acc a : List D} {ρ ρ' : Env} (h : lcL b c g vs (d :: ds) ρ acc = .ok a ρ') :
    ∃ ρ1, b d ρ = some ρ1 ∧ ((∃ ρ2 y ρ3, c ρ1 = .ok true ρ2 ∧ g ρ2 = .ok y ρ3 ∧ lcL b c g vs ds (restore vs ρ ρ3) (acc ++ [y]) = .ok a ρ') ∨ (∃ ρ2, c ρ1 = .ok false ρ2 ∧ lcL b c g vs ds (restore vs ρ ρ2) acc = .ok a ρ')) := by
  unfold lcL at h
  cases hb : b d ρ with
  | none => rw [hb] at h; cases h
  | some ρ1 =>
    rw [hb] at h
    refine ⟨ρ1, rfl, ?_⟩
    dsimp only at h
    cases hc : c ρ1 with
    | bad => rw [hc] at h; cases h
    | ex cc fs ρ2 => rw [hc] at h; cases h
    | ok t ρ2 =>
      rw [hc] at h
      cases t with
      | false => exact .inr ⟨ρ2, rfl, h⟩
      | true =>
        dsimp only at h
        cases hg : g ρ2 with
        | bad => rw [hg] at h; cases h
        | ex cc fs ρ3 => rw [hg] at h; cases h
        | ok y ρ3 => rw [hg] at h; exact .inl ⟨ρ2, y, ρ3, rfl, hg, h⟩
theorem lcL_noex {b : Bd} {c : M Bool} {g : M D} {vs : List Nat} : ∀ {ds acc : List D} {ρ : Env} {cc : Str} {fs : List (Str × D)} {ρ' : Env}, lcL b c g vs ds ρ acc ≠ .ex cc fs ρ'
  | [], _, _, _, _, _, h => by cases h
  | d :: ds, acc, ρ, cc, fs, ρ', h => by
    unfold lcL at h
    cases hb : b d ρ with
    | none => rw [hb] at h; cases h
    | some ρ1 =>
      rw [hb] at h
      dsimp only at h
      cases hc : c ρ1 with
      | bad => rw [hc] at h; cases h
      | ex _ _ ρ2 => rw [hc] at h; cases h
      | ok t ρ2 =>
        rw [hc] at h
        cases t with
        | false => exact lcL_noex h
        | true =>
          dsimp only at h
          cases hg : g ρ2 with
          | bad => rw [hg] at h; cases h
          | ex _ _ ρ3 => rw [hg] at h; cases h
          | ok y ρ3 => rw [hg] at h; exact lcL_noex h
theorem lc_run {it : M (List D)} {b : Bd} {c : M Bool} {g : M D} {wi : TI} {gt : TG} {tt : TT} {te : TE} {vs : List Nat} (hi : ∀ G ρ σ H B, Rel K G own ρ σ H B → Run K Z G own (fun _ B J ds => ItOk K B J ds) (it ρ) σ B (wi σ H))
    (ht : ∀ G ρ σ H B v d, Rel K G own ρ σ H B → Rep K B v d → TGo K own1 vs G (b d ρ) σ H B (gt v σ H)) (hc : ∀ G ρ σ H B, Rel K G own1 ρ σ H B → Run K (Z0 own) G own1 RB (c ρ) σ B (tt σ H))
    (hg : ∀ G ρ σ H B, Rel K G own1 ρ σ H B → Run K (Z0 own) G own1 (RV K) (g ρ) σ B (te σ H)) (hu : ∀ i ∈ vs, own[i]? = some .U) (hw : leB own own1 = true) {G : Gam} {ρ : Env} {σ : L2.St} {H B : Hp} (R : Rel K G own ρ σ H B) :
    Run K Z G own (Fresh K G own σ) (lcD b it c g vs ρ) σ B (tLc wi gt tt te vs σ H) := by
  refine Run.thn (p2 := fun J H1 Q => ∀ A, H1 A = none → ∃ W : Nat → Nat → Hp → Prop, (∃ m, W 0 m (upd H1 A (.lst []))) ∧ ∀ i m H, W i m H →
    (J.stop i H ∧ Q (.ref A) H) ∨ (J.go i H ∧ ∃ Nx : Hp → Prop, (∀ H', Nx H' → ∃ m', m' < m ∧ W (i + 1) m' H') ∧ ∀ x H', J.yld i H x H' → gt x (wipe σ vs) H' fun σ2 H2 => wipe σ2 vs = wipe σ vs ∧ tt σ2 H2 fun b H3 =>
      if b = true then te σ2 H3 fun y H4 => ∃ acc, H4 A = some (.lst acc) ∧ acc.length < sizeLine ∧ Nx (upd H4 A (.lst (acc ++ [y]))) else Nx H3)) (hi G ρ σ H B R) fun ds ρ1 J H1 B1 _ e R1 l => ?_
  cases hr : lcL b c g vs ds ρ1 [] with
  | bad => trivial
  | ex cc fs ρ' => exact (lcL_noex hr).elim
  | ok acc ρ' =>
    intro Q q A hA
    refine ⟨fun i m H' => ∃ ρi Bi ai us, i ≤ ds.length ∧ m = ds.length - i ∧ Ex B1 Bi ∧ Rel K G own ρi σ H' Bi ∧ H' A = some (.lst us) ∧ Reps K Bi us ai ∧ ai.length ≤ i ∧ Bi A = none ∧ (G.pr A = none ∧ G.H A = none) ∧
      NoRt own σ H' A ∧ lcL b c g vs (ds.drop i) ρi ai = .ok acc ρ', ?_, ?_⟩
    · obtain ⟨R2, a, ea, ⟨us, q1, q2, q3, q4⟩, q5, q6⟩ := R1.fresh hA (Reps.nil (K := K) (B := B1)) (Nat.zero_le _)
      cases ea
      exact ⟨_, ρ1, B1, [], [], Nat.zero_le _, rfl, Ex.rfl, R2, upd_same, .nil, Nat.le_refl _, q4, q5, q6, by simpa using hr⟩
    · rintro i m H2 ⟨ρi, Bi, ai, us, hle, rfl, ei, Ri, hAi, rs, hlen, hbA, hfr, hno, hlc⟩
      by_cases hlt : i < ds.length
      · right
        refine ⟨l.go i H2 (ei.trans Ri.keep.bh) hlt, fun H' => ∃ ρi Bi ai us, Ex B1 Bi ∧ Rel K G own ρi σ H' Bi ∧ H' A = some (.lst us) ∧ Reps K Bi us ai ∧ ai.length ≤ i + 1 ∧ Bi A = none ∧
          NoRt own σ H' A ∧ lcL b c g vs (ds.drop (i + 1)) ρi ai = .ok acc ρ',
          fun H' ⟨ρ2, B2, a2, u2, q1, q2, q3, q4, q5, q6, q7, q8⟩ => ⟨_, by omega, ρ2, B2, a2, u2, hlt, rfl, q1, q2, q3, q4, q5, q6, hfr, q7, q8⟩, fun x H3 hy => ?_⟩
        obtain ⟨d, B3, hd, n3, r3⟩ := l.yld i H2 Bi x H3 ei Ri.keep.bh hlt hy
        have ed : ds.drop i = d :: ds.drop (i + 1) := by
          rw [List.drop_eq_getElem_cons hlt]
          congr 1
          rw [List.getElem?_eq_getElem hlt] at hd
          exact Option.some.inj hd
        rw [ed] at hlc
        obtain ⟨ρa, hb, hcases⟩ := lcL_cons hlc
        have R3 := (Ri.new n3).lock (n3.h A _ hAi rfl) ((n3.old A _ hAi).trans hbA) (Ri.noRt (fun x o e p => n3.h x o e p.1) hno)
        have R3w : Rel K (G.lock A (.lst us)) own ρi (wipe σ vs) H3 B3 := R3.slots (vs := vs) (wipe_wipe σ vs).symm hu
        have a1 := ht (G.lock A (.lst us)) ρi (wipe σ vs) H3 B3 x d R3w r3
        rw [hb] at a1
        refine a1 _ fun σ2 hw2 R4 => ?_
        have hw2' : wipe σ2 vs = wipe σ vs := hw2.trans (wipe_wipe σ vs)
        refine ⟨hw2', ?_⟩
        have a2 := hc (G.lock A (.lst us)) ρa σ2 H3 B3 R4
        have back : ∀ {ρx : Env} {Hx Bx : Hp}, Rel K (G.lock A (.lst us)) own1 ρx σ2 Hx Bx → Rel K G own (restore vs ρi ρx) σ Hx Bx ∧ Hx A = some (.lst us) ∧ Bx A = none ∧ NoRt own σ Hx A := fun Rx =>
          ((((Rx.less hw).slots hw2' hu).restore (ρ0 := ρi) (vs := vs) hu)).unlock hfr.1
        rcases hcases with ⟨ρ2, y, ρ3, hc2, hg2, hrest⟩ | ⟨ρ2, hc2, hrest⟩
        · rw [hc2] at a2
          refine a2 _ fun v H4 B4 e4 R5 hv => ?_
          cases hv
          rw [if_pos rfl]
          have a3 := hg (G.lock A (.lst us)) ρ2 σ2 H4 B4 R5
          rw [hg2] at a3
          refine a3 _ fun v H5 B5 e5 R6 rv => ?_
          obtain ⟨R7, hA7, hB7, hn7⟩ := back R6
          have eB : Ex Bi B5 := (n3.b.trans e4).trans e5
          refine ⟨us, hA7, ?_, restore vs ρi ρ3, B5, ai ++ [y], us ++ [v], ei.trans eB, R7.put hA7 hB7 hfr.1 rfl hfr.2 hn7, upd_same, (rs.mono eB).append (.one rv), by simpa using hlen, hB7, hn7.put, hrest⟩
          have := l.sz
          rw [rs.len]
          omega
        · rw [hc2] at a2
          refine a2 _ fun v H4 B4 e4 R5 hv => ?_
          cases hv
          rw [if_neg Bool.false_ne_true]
          obtain ⟨R7, hA7, hB7, hn7⟩ := back R5
          have eB : Ex Bi B4 := n3.b.trans e4
          exact ⟨restore vs ρi ρ2, B4, ai, us, ei.trans eB, R7, hA7, rs.mono eB, by omega, hB7, hn7, hrest⟩
      · left
        have e0 : ds.drop i = [] := List.drop_eq_nil_of_le (by omega)
        rw [e0] at hlc
        cases hlc
        refine ⟨l.stop i H2 (ei.trans Ri.keep.bh) (by omega), q _ H2 Bi ei Ri ⟨A, rfl, ⟨us, hAi, rs, ?_, hbA⟩, hfr, hno⟩⟩
        have := l.sz
        omega
theorem el_lc {elt tg iter : Expr} {ifs : List Expr} {scope : Scope} {oc : List (Str × Nat)} {pos : Pos} {it : M (List D)} {b : Bd} {c : M Bool} {g : M D} (S : Sx F K mg N vis gl k) (hnd : N.Nodup) (ok : ∀ X, F X → BlkOk X.N X.env.scope scope oc) (hi : IT F K Z own tg iter it)
    (ht : TGd (blkF F scope) K own own1 tg (oc.map (·.2)) b) (hc : ETs (blkF F scope) K (Z0 own) own1 ifs c) (hg : EX (blkF F scope) K (Z0 own) own1 elt g) (hu : ∀ i ∈ oc.map (·.2), own[i]? = some .U) (hw : leB own own1 = true := by rfl)
    (hs : ∀ X, F X → ∀ x, foldedSetIterable iter X.env x = pure x := by intro _ _ _; rfl) : EL F K Z own (.ListComp elt [⟨tg, iter, ifs, 0⟩] scope pos) (lcD b it c g (oc.map (·.2))) := by
  obtain ⟨wi, pi, hi⟩ := hi
  obtain ⟨gt, pg, ht⟩ := ht
  obtain ⟨tt, pt, hc⟩ := hc
  obtain ⟨te, pe, hg⟩ := hg
  exact ⟨_, fun X hX => pe_lc (S.calm X hX) (by rw [S.hN X hX]; exact hnd) (pi X hX) (ok X hX) (fun s H C cl fp => pg _ ⟨X, s, H, C, cl, fp, hX, rfl⟩) (fun s H C cl fp => pt _ ⟨X, s, H, C, cl, fp, hX, rfl⟩) (fun s H C cl fp => pe _ ⟨X, s, H, C, cl, fp, hX, rfl⟩) (hs X hX),
    fun G ρ σ H B R => lc_run hi ht hc hg hu hw R⟩
end
end MP
namespace MP
open PySem L2
/-! ### defs: promises by functions of data -/
abbrev FV := List D → Option D
abbrev FRf := List D → List D → Option (D × List D)
/-- what is given is given back; n arguments -/
def spV (K : PySem.W.Frag) (n : Nat) (f : FV) : Sp := fun vs H Q _ => ∃ B ds d, vs.length = n ∧ (Ex B H ∧ TabK K H B) ∧ Reps K B vs ds ∧ f ds = some d ∧ ∀ v H' B', New K B H B' H' → Rep K B' v d → Q v H'
/-- H' is H but for the thing at a and the tables -/
structure Chg (a : Addr) (H H' : Hp) : Prop where
  h : ∀ b o, H b = some o → ¬ Root H a b → isTb o = false → H' b = some o
  dm : ∀ b o, H b = some o → ∃ o', H' b = some o'
  tk : TabsK H H'
  rt : ∀ b, Root H' a b → Root H a b ∨ H b = none
/-- a function of a thing that is changed, and data -/
abbrev FMf := D → List D → Option (D × D)
/-- of the same kind -/
def SameK (d0 d1 : D) : Prop := ((∃ ds, d0 = .lst ds) → ∃ ds, d1 = .lst ds) ∧ ((∃ c fs, d0 = .ins c fs) → ∃ c fs, d1 = .ins c fs)
/-- the first argument is a thing that is changed -/
def spM (K : PySem.W.Frag) (n : Nat) (f : FMf) : Sp := fun vs H Q _ => ∃ B a ws d0 ds d d1, vs.length = n ∧ vs = .ref a :: ws ∧ (Ex B H ∧ TabK K H B) ∧ MOk K H B a d0 ∧ Reps K B ws ds ∧ f d0 ds = some (d, d1) ∧
  ∀ v H' B', Ex B B' → Ex B' H' → Chg a H H' → TabK K H' B' → (∀ b o, H b = some o → B' b = B b) → MOk K H' B' a d1 → SameK d0 d1 → Rep K B' v d → Q v H'
def liftR (f : FRf) : FMf := fun d ds => match d with
  | .lst rs => (f rs ds).map fun p => (p.1, .lst p.2)
  | _ => none
/-- the first argument is a list that is changed -/
abbrev spR (K : PySem.W.Frag) (n : Nat) (f : FRf) : Sp := spM K n (liftR f)
/-- the contexts of a body that lets no exception out; C: what is known of its code value -/
def bodyG (C : Value → Prop) (P : Program) (w : World) (K : PySem.W.Frag) (mg : Str → Option Value) (base : Heap) (N : List Str) (qual : Str) (scope : Scope) (f : Addr) (k : Nat) : CF := fun X =>
  ∃ cdv A outer s H E, (Room k (A.deeper (PyProof.Rows.envOfC qual scope s.heap.objs.size f cdv)) ∧ C cdv) ∧ X = (cxOf CX0 P w K mg base N qual scope f cdv A outer s H E).nox
/-- the code value of the def at f -/
def cdIs (K : PySem.W.Frag) (f : Addr) (cdv : Value) : Prop := ∃ (oc : Value) (od : Option Addr) (fd : FuncData) (osl : Array (Option Value)), K.lookup f = some ⟨oc, od, .func fd, osl⟩ ∧ fd.code = cdv ∧ ∃ c, cdv = .ref c
/-- .. of a def's body -/
abbrev bodyF (P : Program) (w : World) (K : PySem.W.Frag) (mg : Str → Option Value) (base : Heap) (N : List Str) (qual : Str) (scope : Scope) (f : Addr) (k : Nat) : CF := bodyG (cdIs K f) P w K mg base N qual scope f k
def startD (n : Nat) (ds : List D) : Env := ds ++ List.replicate (n - ds.length) .non
def endV : SRes → Option D
  | .nx _ => some .non
  | .rt d _ => some d
  | _ => none
def runV (n m : Nat) (g : SM) : FV := fun ds => if ds.length = m then endV (g (startD n ds)) else none
theorem runV_ar {n m : Nat} {g : SM} {ds : List D} {d : D} (h : runV n m g ds = some d) : ds.length = m := by
  unfold runV at h
  split at h
  · assumption
  · cases h
def backR (d : D) (ρ : Env) : Option (D × List D) := match look ρ 0 with
  | .lst rs => some (d, rs)
  | _ => none
def endR : SRes → Option (D × List D)
  | .nx ρ => backR .non ρ
  | .rt d ρ => backR d ρ
  | _ => none
def runR (n m : Nat) (g : SM) : FRf := fun rs ds => if ds.length = m then endR (g (startD n (.lst rs :: ds))) else none
theorem runR_ar {n m : Nat} {g : SM} {rs ds : List D} {d : D × List D} (h : runR n m g rs ds = some d) : ds.length = m := by
  unfold runR at h
  split at h
  · assumption
  · cases h
def endM : SRes → Option (D × D)
  | .nx ρ => some (.non, look ρ 0)
  | .rt d ρ => some (d, look ρ 0)
  | _ => none
def runM (n m : Nat) (g : SM) : FMf := fun d0 ds => if ds.length = m then endM (g (startD n (d0 :: ds))) else none
theorem runM_ar {n m : Nat} {g : SM} {d0 : D} {ds : List D} {d : D × D} (h : runM n m g d0 ds = some d) : ds.length = m := by
  unfold runM at h
  split at h
  · assumption
  · cases h
theorem backR_M {d : D} {ρ : Env} {q : D × List D} (h : backR d ρ = some q) : (q.1, D.lst q.2) = (d, look ρ 0) := by
  unfold backR at h
  cases hl : look ρ 0 with
  | lst rs => rw [hl] at h; cases h; rfl
  | _ => rw [hl] at h; cases h
theorem liftR_runM {n m : Nat} {g : SM} {d0 : D} {ds : List D} {r : D × D} (h : liftR (runR n m g) d0 ds = some r) : runM n m g d0 ds = some r := by
  cases d0 with
  | lst rs =>
    obtain ⟨q, e, rfl⟩ := Option.map_eq_some_iff.mp (show (runR n m g rs ds).map (fun p => (p.1, D.lst p.2)) = some r from h)
    unfold runR at e
    unfold runM
    split at e
    · rename_i hl
      rw [if_pos hl]
      cases hg : g (startD n (.lst rs :: ds)) with
      | nx ρ => rw [hg] at e; rw [backR_M e]; rfl
      | rt d ρ => rw [hg] at e; rw [backR_M e]; rfl
      | _ => rw [hg] at e; cases e
    · cases e
  | _ => cases h
def ownV (n m : Nat) : List Stt := List.replicate m .V ++ List.replicate (n - m) .U
def ownX (s : Stt) (n m : Nat) : List Stt := s :: (List.replicate m .V ++ List.replicate (n - (m + 1)) .U)
def roV (n : Nat) : List Stt := List.replicate n .U
abbrev ownR (n m : Nat) : List Stt := ownX .R n m
abbrev ownM (n m : Nat) : List Stt := ownX .M n m
def roX (s : Stt) (n : Nat) : List Stt := s :: List.replicate (n - 1) .U
abbrev roR (n : Nat) : List Stt := roX .R n
abbrev roM (n : Nat) : List Stt := roX .M n
abbrev ctlV (n : Nat) : Ctl := ⟨Z0 (roV n), roV n, roV n⟩
abbrev ctlX (s : Stt) (n : Nat) : Ctl := ⟨Z0 (roV n), roV n, roX s n⟩
abbrev ctlR (n : Nat) : Ctl := ctlX .R n
abbrev ctlM (n : Nat) : Ctl := ctlX .M n
/-- handed in -/
def Stt.rfd : Stt → Bool
  | .R | .M => true
  | _ => false
section
variable {P : Program} {w : World} {K : PySem.W.Frag} {mg : Str → Option Value} {base : Heap} {x qual : Str} {params : Arguments} {body : List Stmt} {scope : Scope} {dvs : List V} {kws : List (Str × V)} {f : Addr} {fd : FuncData} {N ps : List Str} {k : Nat}
theorem rel_startV {H B : Hp} {vs : List V} {ds : List D} {n : Nat} (bh : Ex B H) (tb : TabK K H B) (r : Reps K B vs ds) (hn : vs.length ≤ N.length) (hm : vs.length = n) : Rel K ⟨H, B, fun _ => False, fun _ => none, none, none⟩ (ownV N.length n) (startD N.length ds) (L2.start N vs) H B := by
  have hl := r.len
  refine ⟨⟨bh, fun _ _ e => (nomatch e), fun _ _ e => (nomatch e), Ex.rfl, fun _ _ e _ _ => e, fun a o e => ⟨o, e⟩, fun _ _ _ => rfl, fun _ _ e => (nomatch e), TabsK.rfl, tb⟩, ?_, ?_, fun i st h => ?_, fun i j si sj a hi hj oi _ _ _ => ?_⟩
  · simp [startD, ownV]; omega
  · simp [L2.start, ownV]; omega
  · unfold ownV at h
    by_cases hi : i < n
    · rw [List.getElem?_append_left (by simpa using hi), List.getElem?_replicate, if_pos hi] at h
      cases h
      have hd : i < ds.length := by omega
      obtain ⟨v, hv, rv⟩ := r.get (List.getElem?_eq_getElem hd)
      refine ⟨v, ?_, ?_⟩
      · unfold L2.start
        rw [List.getElem?_append_left (by simp; omega), List.getElem?_map, hv]
        rfl
      · unfold look startD
        rw [List.getD_eq_getElem?_getD, List.getElem?_append_left hd, List.getElem?_eq_getElem hd]
        exact rv
    · rw [List.getElem?_append_right (by simpa using hi), List.getElem?_replicate] at h
      split at h
      · cases h; trivial
      · cases h
  · unfold ownV at hi
    by_cases hi' : i < n
    · rw [List.getElem?_append_left (by simpa using hi'), List.getElem?_replicate, if_pos hi'] at hi
      cases hi; cases oi
    · rw [List.getElem?_append_right (by simpa using hi'), List.getElem?_replicate] at hi
      split at hi
      · cases hi; cases oi
      · cases hi
theorem FunD.okC {CX : CXT} {sp : Sp} (Fd : FunD K x qual params body scope dvs kws f fd) (S : FnScope N ps scope) (len : ∀ vs H Q E, sp vs H Q E → vs.length = ps.length)
    (hb : ∀ (cdv : Value) (A : Around) (outer : List PySem.Env) (s : Shared) (H : Hp) (vs : List V) (Q : VK) (E : XK), cdIs K f cdv → Room k (A.deeper (PyProof.Rows.envOfC qual scope s.heap.objs.size f cdv)) → sp vs H Q E →
      ∃ t, PSs (cxOf CX P w K mg base N qual scope f cdv A outer s H E) body t ∧ t { nx := fun _ H' => Q .non H', rt := Q } (L2.start N vs) H) : FnOk P w K mg base CX (k + 1) f fd ps sp := by
  obtain ⟨oc, od, dV, kV, doc, pm, an, cdv, ct, osl, e, lk, hcd, _, _⟩ := Fd.ex
  have hc : cdIs K f cdv := ⟨oc, od, fd, osl, lk, by rw [e], (by
    unfold PySem.W.codeIn at hcd
    split at hcd
    · exact ⟨_, rfl⟩
    · cases hcd)⟩
  subst e
  exact fn_of lk hcd S len fun A outer s H vs Q E hr hsp => hb cdv A outer s H vs Q E hc hr hsp
theorem fn_V {g : SM} {own' : List Stt} (Fd : FunD K x qual params body scope dvs kws f fd) (S : FnScope N ps scope) (h : STs (bodyF P w K mg base N qual scope f k) K (ctlV N.length) (ownV N.length ps.length) body g own') : FnOk P w K mg base CX0 (k + 1) f fd ps (spV K ps.length (runV N.length ps.length g)) := by
  obtain ⟨t, pt, h⟩ := h
  have hpl : ps.length ≤ N.length := by
    have := congrArg List.length S.pre
    rw [List.length_take] at this
    omega
  refine FunD.okC Fd S (fun vs H Q E ⟨B, ds, d, hl, _⟩ => hl) fun cdv A outer s H vs Q E hc hr ⟨B, ds, d, hl, ⟨bh, tb⟩, rs, hf, q⟩ => ⟨t, (pt _ ⟨cdv, A, outer, s, H, E, ⟨hr, hc⟩, rfl⟩).nox, ?_⟩
  refine h _ _ _ H B (rel_startV (N := N) bh tb rs (by omega) hl) _ ?_
  have fin : ∀ {own : List Stt} {ρ : Env} {σ : L2.St} {H' B' : Hp}, Ex B B' → Rel K ⟨H, B, fun _ => False, fun _ => none, none, none⟩ own ρ σ H' B' → New K B H B' H' := fun e R => ⟨e, fun a o q n => R.keep.fr a o q id n, R.keep.dom, R.keep.bh, fun a o q => R.keep.old a o q, R.keep.tk, fun _ => R.keep.tab.th, fun _ => R.keep.tab.nb⟩
  unfold runV at hf
  rw [if_pos (by rw [← rs.len]; exact hl)] at hf
  cases hg : g (startD N.length ds) with
  | nx ρ => rw [hg] at hf; cases hf; exact fun σ' H' B' e R => q _ H' B' (fin e R) .non
  | rt d' ρ => rw [hg] at hf; cases hf; exact fun v σ' H' B' e R r => q _ H' B' (fin e R) r
  | bk ρ => rw [hg] at hf; cases hf
  | ct ρ => rw [hg] at hf; cases hf
  | ex c fs ρ => rw [hg] at hf; cases hf
  | bad => rw [hg] at hf; cases hf
theorem rel_startM {H B : Hp} {a : Addr} {vs : List V} {d0 : D} {ds : List D} {n : Nat} {s0 : Stt} (bh : Ex B H) (tb : TabK K H B) (la : MOk K H B a d0) (hs0 : s0.rfd = true) (kd : s0.kind d0) (r : Reps K B vs ds) (hn : vs.length + 1 ≤ N.length) (hm : vs.length = n) :
    Rel K ⟨H, B, Root H a, fun _ => none, none, some a⟩ (ownX s0 N.length n) (startD N.length (d0 :: ds)) (L2.start N (.ref a :: vs)) H B := by
  have hl := r.len
  have key : ∀ (i : Nat) (si : Stt), (ownX s0 N.length n)[i]? = some si → si.own = true → i = 0 := fun i si hi oi => by
    cases i with
    | zero => rfl
    | succ i =>
      have hi' : (List.replicate n Stt.V ++ List.replicate (N.length - (n + 1)) Stt.U)[i]? = some si := hi
      by_cases hlt : i < n
      · rw [List.getElem?_append_left (by simpa using hlt), List.getElem?_replicate, if_pos hlt] at hi'
        cases hi'; cases oi
      · rw [List.getElem?_append_right (by simpa using hlt), List.getElem?_replicate] at hi'
        split at hi'
        · cases hi'; cases oi
        · cases hi'
  refine ⟨⟨bh, fun _ _ e => (nomatch e), fun _ _ e => (nomatch e), Ex.rfl, fun _ _ e _ _ => e, fun a o e => ⟨o, e⟩, fun _ _ _ => rfl, fun _ _ e => (nomatch e), TabsK.rfl, tb⟩, ?_, ?_, fun i st h => ?_, fun i j si sj b hi hj oi oj _ _ => (key i si hi oi).trans (key j sj hj oj).symm⟩
  · simp [startD, ownX]; omega
  · simp [L2.start, ownX]; omega
  · cases i with
    | zero =>
      cases h
      have os : s0.own = true := by cases s0 <;> first | rfl | cases hs0
      have ns : ¬ s0.fsh = true := by cases s0 <;> first | (cases hs0; done) | decide
      exact (SlotOk.split os).mpr ⟨by rw [if_neg ns]; exact ⟨a, rfl, la, fun b r => ⟨rfl, .inr r⟩, rfl⟩, kd⟩
    | succ i =>
      have h' : (List.replicate n Stt.V ++ List.replicate (N.length - (n + 1)) Stt.U)[i]? = some st := h
      by_cases hi : i < n
      · rw [List.getElem?_append_left (by simpa using hi), List.getElem?_replicate, if_pos hi] at h'
        cases h'
        have hd : i < ds.length := by omega
        obtain ⟨v, hv, rv⟩ := r.get (List.getElem?_eq_getElem hd)
        refine ⟨v, ?_, ?_⟩
        · unfold L2.start
          rw [List.getElem?_append_left (by simp; omega), List.getElem?_map, List.getElem?_cons_succ, hv]
          rfl
        · unfold look startD
          rw [List.getD_eq_getElem?_getD, List.getElem?_append_left (by simp; omega), List.getElem?_cons_succ, List.getElem?_eq_getElem hd]
          exact rv
      · rw [List.getElem?_append_right (by simpa using hi), List.getElem?_replicate] at h'
        split at h'
        · cases h'; trivial
        · cases h'
theorem kind_same {s0 : Stt} {d0 d1 : D} (h : s0.rfd = true) (k0 : s0.kind d0) (k1 : s0.kind d1) : SameK d0 d1 := by
  cases s0 with
  | R => exact ⟨fun _ => k1, fun ⟨c, fs, e⟩ => by obtain ⟨ds, e2⟩ := k0; rw [e] at e2; cases e2⟩
  | M => exact ⟨fun ⟨ds, e⟩ => (by obtain ⟨c, fs, e2⟩ := k0; rw [e] at e2; cases e2), fun _ => k1⟩
  | _ => cases h
theorem fn_Mg {g : SM} {own' : List Stt} {m : Nat} {ff : FMf} (s0 : Stt) (hs0 : s0.rfd = true) (Fd : FunD K x qual params body scope dvs kws f fd) (S : FnScope N ps scope) (hps : ps.length = m + 1) (h : STs (bodyF P w K mg base N qual scope f k) K (ctlX s0 N.length) (ownX s0 N.length m) body g own') (ho : leB (roX s0 N.length) own' = true) (hff : ∀ d0 ds r, ff d0 ds = some r → s0.kind d0 ∧ runM N.length m g d0 ds = some r) :
    FnOk P w K mg base CX0 (k + 1) f fd ps (spM K ps.length ff) := by
  obtain ⟨t, pt, h⟩ := h
  have hpl : ps.length ≤ N.length := by
    have := congrArg List.length S.pre
    rw [List.length_take] at this
    omega
  refine FunD.okC Fd S (fun vs H Q E ⟨B, a, ws, rs, ds, d, rs', hl, _⟩ => hl) fun cdv A outer s H vs Q E hc hr ⟨B, a, ws, d0, ds, d, d1, hl, hv, ⟨bh, tb⟩, la, rws, hf0, q⟩ => ⟨t, (pt _ ⟨cdv, A, outer, s, H, E, ⟨hr, hc⟩, rfl⟩).nox, ?_⟩
  subst hv
  have hw : ws.length = m := by simp at hl; omega
  obtain ⟨kd, hf⟩ := hff _ _ _ hf0
  refine h _ _ _ H B (rel_startM (N := N) bh tb la hs0 kd rws (by omega) hw) _ ?_
  have fin : ∀ {ρ : Env} {σ : L2.St} {H' B' : Hp} {d' : D} {v : V}, some (d', look ρ 0) = some (d, d1) → Ex B B' → Rel K ⟨H, B, Root H a, fun _ => none, none, some a⟩ (roX s0 N.length) ρ σ H' B' → Rep K B' v d' → Q v H' := fun {ρ σ H' B' d' v} hb e R r => by
    have os : s0.own = true := by cases s0 <;> first | rfl | cases hs0
    have ns : ¬ s0.fsh = true := by cases s0 <;> first | (cases hs0; done) | decide
    have sl := ((SlotOk.split os).mp (R.slot 0 s0 rfl)).1
    have kd1 := ((SlotOk.split os).mp (R.slot 0 s0 rfl)).2
    rw [if_neg ns] at sl
    obtain ⟨a', e1, l, rt, mem⟩ := sl
    cases mem
    cases hb
    exact q v H' B' e R.keep.bh ⟨fun b o hb hne nt => R.keep.fr b o hb hne nt, R.keep.dom, R.keep.tk, fun b r => (rt b r).2.elim .inr .inl⟩ R.keep.tab (fun b o hb => R.keep.old b o hb) l (kind_same hs0 kd kd1) r
  unfold runM at hf
  rw [if_pos (by rw [← rws.len]; exact hw)] at hf
  cases hg : g (startD N.length (d0 :: ds)) with
  | nx ρ => rw [hg] at hf; exact fun σ' H' B' e R => fin hf e (R.less ho) .non
  | rt d' ρ => rw [hg] at hf; exact fun v σ' H' B' e R r => fin hf e R r
  | bk ρ => rw [hg] at hf; cases hf
  | ct ρ => rw [hg] at hf; cases hf
  | ex c fs ρ => rw [hg] at hf; cases hf
  | bad => rw [hg] at hf; cases hf
theorem fn_R {g : SM} {own' : List Stt} {m : Nat} (Fd : FunD K x qual params body scope dvs kws f fd) (S : FnScope N ps scope) (hps : ps.length = m + 1) (h : STs (bodyF P w K mg base N qual scope f k) K (ctlR N.length) (ownR N.length m) body g own') (ho : leB (roR N.length) own' = true) :
    FnOk P w K mg base CX0 (k + 1) f fd ps (spR K ps.length (runR N.length m g)) := fn_Mg .R rfl Fd S hps h ho fun d0 ds r q => by
      refine ⟨?_, liftR_runM q⟩
      cases d0 with
      | lst rs => exact ⟨rs, rfl⟩
      | _ => cases q
/-- of instances alone -/
def onIns (f : FMf) : FMf := fun d ds => match d with
  | .ins c fs => f (.ins c fs) ds
  | _ => none
theorem fn_M {g : SM} {own' : List Stt} {m : Nat} (Fd : FunD K x qual params body scope dvs kws f fd) (S : FnScope N ps scope) (hps : ps.length = m + 1) (h : STs (bodyF P w K mg base N qual scope f k) K (ctlM N.length) (ownM N.length m) body g own') (ho : leB (roM N.length) own' = true) :
    FnOk P w K mg base CX0 (k + 1) f fd ps (spM K ps.length (onIns (runM N.length m g))) := fn_Mg .M rfl Fd S hps h ho fun d0 ds r q => by
      cases d0 with
      | ins c fs => exact ⟨⟨c, fs, rfl⟩, q⟩
      | _ => cases q
end
/-! ### calls -/
structure Fam (F : CF) (P : Program) (w : World) (base : Heap) : Prop where
  hP : ∀ X, F X → X.prog = P
  hw : ∀ X, F X → X.w = w
  hb : ∀ X, F X → X.base = base
section
variable {F : CF} {K : PySem.W.Frag} {mg : Str → Option Value} {Z : XC} {own own1 own' : List Stt} {N : List Str} {vis : List Bool} {gl : List Str} {k : Nat} {P : Program} {w : World} {base : Heap} {ps : List Str} {f : Addr} {fd : FuncData}
theorem fnAt (A : Fam F P w base) (S : Sx F K mg N vis gl k) {X : Cx} (hX : F X) {CX : CXT} {j : Nat} {sp : Sp} (G : FnOk P w K mg base CX j f fd ps sp) : FnOk X.prog X.w X.K X.mg X.base CX j f fd ps sp := by
  rw [A.hP X hX, A.hw X hX, A.hb X hX, S.hK X hX, S.hmg X hX]; exact G
/-- what a caller knows of a def -/
structure FnV (P : Program) (w : World) (K : PySem.W.Frag) (mg : Str → Option Value) (base : Heap) (x : Str) (f : Addr) (fd : FuncData) (ps : List Str) (j : Nat) (ff : FV) : Prop where
  ok : FnOk P w K mg base CX0 j f fd ps (spV K ps.length ff)
  ar : ∀ ds d, ff ds = some d → ds.length = ps.length
  mg : mg x = some (.ref f)
  kp : PySem.W.keepIn K (.ref f) = true
  bd : Binds K fd ps []
structure FnRr (P : Program) (w : World) (K : PySem.W.Frag) (mg : Str → Option Value) (base : Heap) (x : Str) (f : Addr) (fd : FuncData) (ps : List Str) (j : Nat) (ff : FRf) : Prop where
  ok : FnOk P w K mg base CX0 j f fd ps (spR K ps.length ff)
  ar : ∀ rs ds d, ff rs ds = some d → ds.length + 1 = ps.length
  mg : mg x = some (.ref f)
  kp : PySem.W.keepIn K (.ref f) = true
  bd : Binds K fd ps []
theorem ex_callV (A : Fam F P w base) (S : Sx F K mg N vis gl k) (i : Nat) {j : Nat} {ff : FV} {x : Str} {p pos : Pos} {e : Expr} {es : List Expr} {g : M (List D)} (G : FnV P w K mg base x f fd ps j ff) (ha : EXs F K Z own (e :: es) g) (hj : j ≤ k := by decide)
    (hg : gl[i]? = some x := by rfl) (hs : ∀ X, F X → starEach (e :: es) X.env = (false, eval e X.env) :: starEach es X.env := by intro _ _; rfl) (hs2 : ∀ X, F X → ((backTo pos (starEach es X.env)).any fun q => q.1) = false := by intro _ _; rfl) :
    EX F K Z own (.Call (.Name x p) (e :: es) [] pos) (callD ff g) := by
  obtain ⟨ta, pa, ha⟩ := ha
  refine ⟨_, fun X hX => let ⟨g1, g2, g3⟩ := S.gl X hX i x hg; pe_call (fnAt A S hX G.ok) ((S.room X hX).mono hj) g1 (by rw [S.hmg X hX]; exact G.mg) (by rw [S.hK X hX]; exact G.kp) (by rw [S.hK X hX]; exact G.bd) (ds := []) (dvs := []) .nil (pass0 (X := X)) (pa X hX) g2 (hs X hX) (hs2 X hX), fun G' ρ σ H B R => ?_⟩
  refine Run.thn (p2 := fun vs H1 Q => spV K ps.length ff (vs ++ []) H1 Q E0) (ha G' ρ σ H B R) fun ds ρ1 vs H1 B1 _ e R1 l => ?_
  refine Run.prim R1 ?_
  cases hf : ff ds with
  | none => trivial
  | some d => exact fun Q q => ⟨B1, ds, d, by simp [l.len, G.ar ds d hf], ⟨R1.keep.bh, R1.keep.tab⟩, by simpa using l, hf, q⟩
def callR (ff : FRf) (j : Nat) (g : M (List D)) : M D := bnd g fun ds ρ => match look ρ j with
  | .lst rs => (match ff rs ds with
    | some (d, rs') => .ok d (ρ.set j (.lst rs'))
    | none => .bad)
  | _ => .bad
/-- a thing of slot j has been changed -/
theorem Rel.changedG {G : Gam} {ρ : Env} {σ : L2.St} {H B H' B' : Hp} (R : Rel K G own ρ σ H B) {j : Nat} {st : Stt} {a : Addr} {d1 : D} (hj : own[j]? = some st) (hs : st.own = true) (ha : (σ[j]?).join = some (.ref a)) (e1 : Ex B B') (e2 : Ex B' H') (c1 : ∀ b o, H b = some o → ¬ Root H a b → isTb o = false → H' b = some o) (c2 : ∀ b o, H b = some o → ∃ o', H' b = some o') (c3 : TabsK H H') (c4 : ∀ b, Root H' a b → Root H a b ∨ ((G.pr b = none ∧ G.H b = none) ∧ NoRt own σ H b)) (tb : TabK K H' B')
    (e4 : ∀ b o, H b = some o → B' b = B b) (la : MOk K H' B' a d1) (fu : st.fsh = true → Full d1) (kd : st.kind d1) (nI : (∃ rs rs', look ρ j = .lst rs ∧ d1 = .lst rs') ∨ noI own) : Rel K G own (ρ.set j d1) σ H' B' := by
  have hl := R.own_lt hj
  have slotj := R.slot j st hj
  obtain ⟨a', ea', m, gm⟩ := slotj.mok hs
  rw [ha] at ea'
  cases ea'
  -- what is no part of the thing of slot j stays
  have oth : ∀ (i : Nat) (si : Stt), own[i]? = some si → si.own = true → i ≠ j → ∀ b o, Rt H (σ[i]?).join b → H b = some o → isTb o = false → H' b = some o := fun i si hi oi ne b o rt e nt =>
    c1 b o e (fun z => ne (R.sep i j si st b hi hj oi hs rt ⟨a, ha, z⟩)) nt
  have prt : ∀ b o, G.pr b = some o → ¬ Root H a b := fun b o q z => by rw [(gm b z).1] at q; cases q
  refine ⟨⟨e2, fun b o q => ?_, fun b o q => ?_, R.keep.b0.trans e1, fun b o q nb nt => ?_, fun b o q => ?_, fun b o q => ?_, R.keep.prn, R.keep.tk.trans c3, tb⟩, by simpa using R.lr, R.ls, fun i si hi => ?_, fun i k si sk b hi hk oi ok ei ek => ?_⟩
  · exact c1 b o (R.keep.pr b o q) (prt b o q) (R.keep.prn b o q)
  · rw [e4 b o (R.keep.pr b o q)]; exact R.keep.prb b o q
  · refine c1 b o (R.keep.fr b o q nb nt) (fun z => ?_) nt
    rcases (gm b z).2 with h0 | h0
    · rw [h0] at q; cases q
    · exact nb h0
  · obtain ⟨o', q'⟩ := R.keep.dom b o q
    exact c2 b o' q'
  · obtain ⟨o', q'⟩ := R.keep.dom b o q
    rw [e4 b o' q']; exact R.keep.old b o q
  · rw [look_set (by rw [R.lr]; exact hl)]
    by_cases e : i = j
    · subst e
      rw [if_pos rfl]
      rw [hj] at hi
      cases hi
      exact SlotOk.keepF slotj hs ha la fu (fun _ => kd) (fun b r => (c4 b r).imp id fun z => z.1) fun _ _ q => q
    · rw [if_neg e]
      have x := R.slot i si hi
      have own1 : si.own = true → SlotOk K G H' B' si (σ[i]?).join (look ρ i) := fun os => by
        obtain ⟨y, ey, my, _⟩ := x.mok os
        have k : ∀ b o, Root H y b → H b = some o → H' b = some o := fun b o rt q => by
          obtain ⟨⟨o', q', p⟩, _⟩ := my.has rt
          rw [q] at q'; cases q'
          exact oth i si hi os e b o ⟨y, ey, rt⟩ q p.1
        refine SlotOk.keep x os ey (my.stay k e1 fun b rt => ?_) id id (fun b q => .inl ((my.same (k y · .self)).mp q)) fun _ _ q => q
        obtain ⟨⟨o', q', _⟩, bb⟩ := my.has rt
        rw [e4 b o' q']; exact bb
      cases si with
      | U => trivial
      | V => obtain ⟨x, q1, q2⟩ := x; exact ⟨x, q1, q2.mono e1⟩
      | L => exact own1 rfl
      | R => exact own1 rfl
      | O => exact own1 rfl
      | M => exact own1 rfl
      | K => exact own1 rfl
      | T => exact own1 rfl
      | I =>
        rcases nI with ⟨rs, rs', hlr, _⟩ | nI
        · obtain ⟨y, dx, c, us, fs, q1, q2, q3, q5⟩ := x
          rw [hlr] at m
          obtain ⟨vl, hvl, _⟩ := id m
          obtain ⟨n1, n2⟩ := q3.nl hvl
          obtain ⟨⟨w1, h1⟩, w2, h2⟩ := q3.xs
          have nr : ∀ b, b ≠ a → ¬ Root H a b := fun b hb z => hb (CellOk.root (K := K) (B := B) (d := .lst rs) m z)
          exact ⟨y, dx, c, us, fs, q1, q2, q3.stay (fun q z => c1 _ _ z (nr _ n1) (q3.nt.1 q z)) (fun q z => c1 _ _ z (nr _ n2) (q3.nt.2 q z)) e1 (by rw [e4 _ _ h1]; exact q3.bx) (by rw [e4 _ _ h2]; exact q3.bd), q5⟩
        · exact absurd hi (nI i)
  · -- apart
    have back : ∀ (i : Nat) (si : Stt), own[i]? = some si → si.own = true → i ≠ j → Rt H' (σ[i]?).join b → Rt H (σ[i]?).join b := fun i si hi oi ne rt => R.back hi oi (fun x o ex e p => oth i si hi oi ne x o ⟨x, ex, .self⟩ e p.1) rt
    have atj : Rt H' (σ[j]?).join b → Rt H (σ[j]?).join b ∨ NoRt own σ H b := fun ⟨x, ex, rt⟩ => by
      rw [ha] at ex; cases ex
      exact (c4 b rt).imp (fun z => ⟨a, ha, z⟩) fun z => z.2
    have no : ∀ (i : Nat) (si : Stt), own[i]? = some si → si.own = true → Rt H (σ[i]?).join b → NoRt own σ H b → False := fun i si hi oi rt z => z i si hi oi rt
    by_cases zi : i = j
    · subst zi
      by_cases zk : k = i
      · exact zk.symm
      · have r1 := back k sk hk ok zk ek
        rcases atj ei with r2 | r2
        · exact R.sep i k si sk b hi hk oi ok r2 r1
        · exact (no k sk hk ok r1 r2).elim
    · have r1 := back i si hi oi zi ei
      by_cases zk : k = j
      · subst zk
        rcases atj ek with r2 | r2
        · exact R.sep i k si sk b hi hk oi ok r1 r2
        · exact (no i si hi oi r1 r2).elim
      · exact R.sep i k si sk b hi hk oi ok r1 (back k sk hk ok zk ek)
theorem Rel.changed {G : Gam} {ρ : Env} {σ : L2.St} {H B H' B' : Hp} (R : Rel K G own ρ σ H B) {j : Nat} {st : Stt} {a : Addr} {d1 : D} (hj : own[j]? = some st) (hs : st.own = true) (ha : (σ[j]?).join = some (.ref a)) (e1 : Ex B B') (e2 : Ex B' H') (e3 : Chg a H H') (tb : TabK K H' B')
    (e4 : ∀ b o, H b = some o → B' b = B b) (la : MOk K H' B' a d1) (fu : st.fsh = true → Full d1) (kd : st.kind d1) (nI : (∃ rs rs', look ρ j = .lst rs ∧ d1 = .lst rs') ∨ noI own) : Rel K G own (ρ.set j d1) σ H' B' :=
  R.changedG hj hs ha e1 e2 e3.h e3.dm e3.tk (fun b r => (e3.rt b r).imp id fun z => R.free z) tb e4 la fu kd nI
theorem Rel.ownAt {G : Gam} {ρ : Env} {σ : L2.St} {H B : Hp} (R : Rel K G own ρ σ H B) {j : Nat} {st : Stt} (hj : own[j]? = some st) (hs : st.isL = true) : ∃ a rs, (σ[j]?).join = some (.ref a) ∧ look ρ j = .lst rs ∧ LstOk K H B a rs := by
  obtain ⟨a, e, m, _⟩ := (R.slot j st hj).mok (Stt.isL_own hs)
  obtain ⟨rs, er⟩ : ∃ ds, look ρ j = .lst ds := by
    have := (R.slot j st hj).knd (Stt.isL_own hs)
    cases st with
    | L => exact this
    | R => exact this
    | _ => cases hs
  rw [er] at m
  exact ⟨a, rs, e, er, m⟩
theorem kind_lst {st : Stt} (h : st.isL = true) (ds : List D) : st.kind (.lst ds) := by
  cases st with
  | L => exact ⟨ds, rfl⟩
  | R => exact ⟨ds, rfl⟩
  | _ => cases h
theorem Root.lst {H : Hp} {a b : Addr} {vs : List V} (h : H a = some (.lst vs)) (r : Root H a b) : b = a := by
  rcases r with r | ⟨_, _, _, e, _⟩
  · exact r
  · rw [h] at e; cases e
/-- f(x, ..), x a list that f changes -/
theorem ex_callR (A : Fam F P w base) (S : Sx F K mg N vis gl k) (i m : Nat) {st : Stt} {j : Nat} {ff : FRf} {x y : Str} {p py pos : Pos} {es : List Expr} {g : M (List D)} (G : FnRr P w K mg base x f fd ps j ff) (ha : EXs F K Z own es g) (hj : j ≤ k := by decide)
    (hg : gl[i]? = some x := by rfl) (hN : N[m]? = some y := by rfl) (hv : vis[m]? = some true := by rfl) (ho : own[m]? = some st := by rfl) (hst : st.isL = true := by rfl)
    (hs : ∀ X, F X → starEach (.Name y py :: es) X.env = (false, eval (.Name y py) X.env) :: starEach es X.env := by intro _ _; rfl) (hs2 : ∀ X, F X → ((backTo pos (starEach es X.env)).any fun q => q.1) = false := by intro _ _; rfl) :
    EX F K Z own (.Call (.Name x p) (.Name y py :: es) [] pos) (callR ff m g) := by
  obtain ⟨ta, pa, ha⟩ := ha
  refine ⟨tCall (spR K ps.length ff) [] E0 (tCons (tVar m) ta), fun X hX => let ⟨g1, g2, g3⟩ := S.gl X hX i x hg; let ⟨v1, v2, v3⟩ := S.vis X hX m y hv hN; pe_call (fnAt A S hX G.ok) ((S.room X hX).mono hj) g1 (by rw [S.hmg X hX]; exact G.mg) (by rw [S.hK X hX]; exact G.kp) (by rw [S.hK X hX]; exact G.bd) (ds := []) (dvs := []) .nil (pass0 (X := X))
    (pa_cons (pe_var (by rw [S.hN X hX]; exact hN) v1 v2 v3) (pa X hX) (hs X hX)) g2 (hs X hX) (hs2 X hX), fun G' ρ σ H B R => ?_⟩
  obtain ⟨a, rs0, ea, _, _⟩ := R.ownAt ho hst
  refine Run.imp (Run.thn (p2 := fun ws H2 Q => spR K ps.length ff ((.ref a :: ws) ++ []) H2 Q E0) (ha G' ρ σ H B R) fun ds ρ1 vs H1 B1 _ e R1 l => ?_) fun Q q => ⟨.ref a, join_some ea, q⟩
  obtain ⟨a', rs, ea', er, la⟩ := R1.ownAt ho hst
  rw [ea] at ea'
  cases ea'
  show Run K Z G' own (RV K) (match look ρ1 m with
    | .lst rs => (match ff rs ds with
      | some (d, rs') => .ok d (ρ1.set m (.lst rs'))
      | none => .bad)
    | _ => .bad) σ B1 _
  rw [er]
  dsimp only
  cases hf : ff rs ds with
  | none => trivial
  | some q =>
    obtain ⟨d, rs'⟩ := q
    intro Q q
    refine ⟨B1, a, vs, .lst rs, ds, d, .lst rs', by simp [l.len, G.ar rs ds _ hf], by simp, ⟨R1.keep.bh, R1.keep.tab⟩, la, l, by show (ff rs ds).map _ = _; rw [hf]; rfl, fun v H' B' e1 e2 e3 tb e4 l' _ r' => q v H' B' e1 (R1.changed ho (Stt.isL_own hst) ea e1 e2 e3 tb e4 l' (fun _ => trivial) (kind_lst hst rs') (.inl ⟨rs, rs', er, rfl⟩)) r'⟩
end
end MP
namespace MP
open PySem L2
theorem opr_or {X : Cx} {f : Value → Value → Sem Value} {r1 r2 : R2} (h1 : OpR X f r1) (h2 : OpR X f r2) : OpR X f (fun x y H Q => r1 x y H Q ∨ r2 x y H Q) := fun pins s σ H x y v u Q I rx ry h =>
  h.elim (h1 pins s σ H x y v u Q I rx ry) (h2 pins s σ H x y v u Q I rx ry)
theorem opd_or {K : PySem.W.Frag} {r1 r2 : R2} {f1 f2 : D → D → Option D} (h1 : OpD K r1 f1) (h2 : OpD K r2 f2) : OpD K (fun x y H Q => r1 x y H Q ∨ r2 x y H Q) (fun a b => (f1 a b).or (f2 a b)) := fun x y d1 d2 H B bh rx ry => by
  have a1 := h1 x y d1 d2 H B bh rx ry
  have a2 := h2 x y d1 d2 H B bh rx ry
  show Prim K (RV K) ((f1 d1 d2).or (f2 d1 d2)) H B (fun Q => r1 x y H Q ∨ r2 x y H Q)
  cases e1 : f1 d1 d2 with
  | some d => rw [e1] at a1; exact fun Q q => Or.inl (a1 Q q)
  | none =>
    cases e2 : f2 d1 d2 with
    | some d => rw [e2] at a2; exact fun Q q => Or.inr (a2 Q q)
    | none => trivial
/-! ### numbers -/
def intOp (C : Int → Int → Bool) (g : Int → Int → D) : D → D → Option D
  | .int i, .int j => if C i j then some (g i j) else none
  | _, _ => none
theorem opd_int {K : PySem.W.Frag} {C : Int → Int → Bool} {C' : Int → Int → Prop} {g : Int → Int → D} {g' : Int → Int → V} (hc : ∀ i j, C i j = true → C' i j) (hg : ∀ B i j, Rep K B (g' i j) (g i j)) : OpD K (rI C' g') (intOp C g) := fun x y d1 d2 H B bh rx ry => by
  cases rx with
  | int i =>
    cases ry with
    | int j =>
      show Prim K _ (if C i j then some (g i j) else none) H B _
      split
      · rename_i h
        exact Prim.now bh (hg B i j) fun Q q => ⟨i, j, rfl, rfl, hc i j h, q⟩
      · trivial
    | _ => trivial
  | _ => cases ry <;> trivial
theorem opd_int0 {K : PySem.W.Frag} {g : Int → Int → D} {g' : Int → Int → V} (hg : ∀ B i j, Rep K B (g' i j) (g i j)) : OpD K (rI0 g') (intOp (fun _ _ => true) g) := fun x y d1 d2 H B bh rx ry => by
  cases rx with
  | int i =>
    cases ry with
    | int j => exact Prim.now bh (hg B i j) fun Q q => ⟨i, j, rfl, rfl, q⟩
    | _ => trivial
  | _ => cases ry <;> trivial
def strOp (C : Str → Str → Bool) (g : Str → Str → D) : D → D → Option D
  | .str i, .str j => if C i j then some (g i j) else none
  | _, _ => none
theorem strOk_append {a b : Str} (ha : PyData.strOk a = true) (hb : PyData.strOk b = true) : PyData.strOk (a ++ b) = true := by
  have e : (a ++ b).cps = a.cps ++ b.cps := rfl
  unfold PyData.strOk at *
  rw [e, Array.all_append, ha, hb]
  rfl
/-- s + t -/
theorem opd_adds {K : PySem.W.Frag} : OpD K (fun x y H Q => ∃ i j, x = V.str i ∧ y = V.str j ∧ i.length + j.length ≤ sizeLine ∧ Q (V.str (i ++ j)) H) (strOp (fun i j => decide (i.length + j.length ≤ 16000000)) fun i j => .str (i ++ j)) := fun x y d1 d2 H B bh rx ry => by
  cases rx with
  | str i hi =>
    cases ry with
    | str j hj =>
      show Prim K _ (if decide (i.length + j.length ≤ 16000000) then some (D.str (i ++ j)) else none) H B _
      split
      · rename_i h
        exact Prim.now bh (.str _ (strOk_append hi hj)) fun Q q => ⟨i, j, rfl, rfl, by rw [sizeLine_eq]; have := of_decide_eq_true h; omega, q⟩
      · trivial
    | _ => trivial
  | _ => cases ry <;> trivial
def tupOp (g : List D → List D → Option D) : D → D → Option D
  | .tup a, .tup b => g a b
  | _, _ => none
def lstOp (g : List D → List D → Option D) : D → D → Option D
  | .lst a, .lst b => g a b
  | _, _ => none
def catT : D → D → Option D := tupOp fun a b => (szO (a ++ b)).map .tup
def catL : D → D → Option D := lstOp fun a b => (szO (a ++ b)).map .lst
theorem opd_catT {K : PySem.W.Frag} : OpD K (rCatA K) catT := fun x y d1 d2 H B bh rx ry => by
  cases rx with
  | tup hq rs hz =>
    cases ry with
    | tup hq2 rs2 hz2 =>
      rename_i a us ds b us2 ds2
      show Prim K _ ((szO (ds ++ ds2)).map D.tup) H B _
      cases hsz : szO (ds ++ ds2) with
      | none => trivial
      | some es =>
        obtain ⟨rfl, hs2⟩ := szO_some hsz
        intro Q q
        have l1 := rs.len
        have l2 := rs2.len
        refine ⟨a, b, us, us2, rfl, rfl, seqT bh hq, seqT bh hq2, by rw [l1, l2]; simpa using hs2, fun e => ?_, fun e1 e2 => ?_, fun e1 e2 p hp => ?_⟩
        · subst e
          cases rs
          exact q _ H B (New.refl bh) (.tup hq2 rs2 hz2)
        · subst e2
          cases rs2
          refine q _ H B (New.refl bh) ?_
          rw [List.append_nil]
          exact .tup hq rs hz
        · exact q _ _ _ (New.alloc (K := K) bh hp) (.tup (.inl (.inl upd_same)) ((rs.append rs2).mono (New.alloc (K := K) bh hp).b) hs2)
    | _ => trivial
  | _ => cases ry <;> trivial
def rCatS (K : PySem.W.Frag) : R2 := fun x y H Q => ∃ l b xs zs, x = .ref l ∧ y = .ref b ∧ SqL K H l xs ∧ SqL K H b zs ∧ xs.length + zs.length ≤ sizeLine ∧ ∀ p, H p = none → Q (.ref p) (upd H p (.lst (xs ++ zs)))
theorem op_catS {X : Cx} : OpR X (binaryOp .Add) (rCatS X.K) := by
  intro pins s σ H x y v u Q I rx ry h
  obtain ⟨l, b, xs, zs, rfl, rfl, hH, hB, hz, q⟩ := h
  cases rx
  cases ry
  obtain ⟨its, r, pl, _⟩ := I.list hH
  obtain ⟨its2, r2, pl2, _⟩ := I.list hB
  obtain ⟨⟨cls, dd, data, sl⟩, n, ho, hc, hdd, hd⟩ := pl
  obtain ⟨⟨cls2, dd2, data2, sl2⟩, n2, ho2, hc2, hdd2, hd2⟩ := pl2
  simp only at hc hd hc2 hd2
  subst hc hd hc2 hd2
  have ea : its.toArray ++ its2.toArray = (its ++ its2).toArray := by simp
  have hl1 := r.length
  have hl2 := r2.length
  refine concat_meets ⟨_, ho, rfl⟩ ⟨_, ho2, rfl⟩ noFill_list_add seq_list_add PySem.F.slot_list_add PySem.F.entry_list_add (PySem.F.args_list_add_2 _ _) (PyProof.Rows.list_addW l b its.toArray its2.toArray n n2 dd dd2 sl sl2 (by simp; omega)) ⟨ho, ho2, ?_⟩
  rw [ea]
  exact ⟨.ref _, _, I.lnew (t' := s.toks) (r.append r2) (by rw [List.length_append]; omega), rfl, q _ I.fresh⟩
theorem opd_catL {K : PySem.W.Frag} : OpD K (rCatS K) catL := fun x y d1 d2 H B bh rx ry => by
  cases rx with
  | lst hq rs hz =>
    cases ry with
    | lst hq2 rs2 hz2 =>
      rename_i a us ds b us2 ds2
      show Prim K _ ((szO (ds ++ ds2)).map D.lst) H B _
      cases hsz : szO (ds ++ ds2) with
      | none => trivial
      | some es =>
        obtain ⟨rfl, hs2⟩ := szO_some hsz
        intro Q q
        refine ⟨a, b, us, us2, rfl, rfl, bh.seq hq, bh.seq hq2, by rw [rs.len, rs2.len]; simpa using hs2, fun p hp => ?_⟩
        exact q _ _ _ (New.alloc (K := K) bh hp) (.lst (.inl (.inl upd_same)) ((rs.append rs2).mono (New.alloc (K := K) bh hp).b) hs2)
    | _ => trivial
  | _ => cases ry <;> trivial
/-- a + b -/
def addD : D → D → Option D
  | .int i, .int j => some (.int (i + j))
  | .str i, .str j => if i.length + j.length ≤ 16000000 then some (.str (i ++ j)) else none
  | .tup a, .tup b => (szO (a ++ b)).map .tup
  | .lst a, .lst b => (szO (a ++ b)).map .lst
  | _, _ => none
theorem opd_imp {K : PySem.W.Frag} {r : R2} {f f' : D → D → Option D} (h : OpD K r f) (e : ∀ a b, f' a b = f a b) : OpD K r f' := fun x y d1 d2 H B bh rx ry => by
  rw [e]; exact h x y d1 d2 H B bh rx ry
section
variable {F : CF} {K : PySem.W.Frag} {mg : Str → Option Value} {Z : XC} {own own1 own' : List Stt} {N : List Str} {vis : List Bool} {gl : List Str} {k : Nat} {a b : Expr} {g h : M D} {pos : Pos}
theorem ex_add (S : Sx F K mg N vis gl k) (ha : EX F K Z own a g) (hb : EX F K Z own b h) : EX F K Z own (.BinOp a .Add b pos) (op2 addD g h) :=
  ex_op (fun X hX => opr_or op_add (opr_or op_add_str (opr_or (atK (S.hK X hX) (fun K => OpR X _ (rCatA K)) op_catA) (atK (S.hK X hX) (fun K => OpR X _ (rCatS K)) op_catS))))
    (opd_imp (opd_or (opd_int0 fun B i j => .int (i + j)) (opd_or opd_adds (opd_or opd_catT opd_catL))) fun x y => by
      cases x <;> cases y <;> first | rfl | (simp only [addD, intOp, strOp, catT, catL, tupOp, lstOp, Option.none_or, Option.or_none, decide_eq_true_eq])) ha hb
theorem ex_sub (ha : EX F K Z own a g) (hb : EX F K Z own b h) : EX F K Z own (.BinOp a .Sub b pos) (op2 (intOp (fun _ _ => true) fun i j => .int (i - j)) g h) := ex_op (fun X hX => op_sub) (opd_int0 fun B i j => .int (i - j)) ha hb
def mulC (i j : Int) : Bool := decide ((-(2 ^ 64) < i ∧ i < 2 ^ 64) ∨ (-(2 ^ 64) < j ∧ j < 2 ^ 64))
theorem ex_mul (ha : EX F K Z own a g) (hb : EX F K Z own b h) : EX F K Z own (.BinOp a .Mult b pos) (op2 (intOp mulC fun i j => .int (i * j)) g h) := ex_op (fun X hX => op_mul) (opd_int (C := mulC) (fun i j e => of_decide_eq_true (p := (-(2 ^ 64) < i ∧ i < 2 ^ 64) ∨ (-(2 ^ 64) < j ∧ j < 2 ^ 64)) e) fun B i j => .int (i * j)) ha hb
def divC (i j : Int) : Bool := decide (0 < j ∧ j < 1073741824)
theorem ex_fdiv (ha : EX F K Z own a g) (hb : EX F K Z own b h) : EX F K Z own (.BinOp a .FloorDiv b pos) (op2 (intOp divC fun i j => .int (i / j)) g h) := ex_op (fun X hX => op_fdiv) (opd_int (C := divC) (fun i j e => of_decide_eq_true (p := 0 < j ∧ j < 1073741824) e) fun B i j => .int (i / j)) ha hb
theorem ex_mod (ha : EX F K Z own a g) (hb : EX F K Z own b h) : EX F K Z own (.BinOp a .Mod b pos) (op2 (intOp (fun _ j => decide (0 < j)) fun i j => .int (i % j)) g h) := ex_op (fun X hX => op_mod) (opd_int (fun i j e => of_decide_eq_true e) fun B i j => .int (i % j)) ha hb
def powC (i j : Int) : Bool := decide (0 ≤ j ∧ j ≤ 1000000 ∧ i.natAbs < 2 ^ 64)
theorem ex_pow (ha : EX F K Z own a g) (hb : EX F K Z own b h) : EX F K Z own (.BinOp a .Pow b pos) (op2 (intOp powC fun i j => .int (i ^ j.toNat)) g h) := ex_op (fun X hX => op_pow) (opd_int (C := powC) (fun i j e => of_decide_eq_true (p := 0 ≤ j ∧ j ≤ 1000000 ∧ i.natAbs < 2 ^ 64) e) fun B i j => .int (i ^ j.toNat)) ha hb
/-! ### order -/
def cmpO (fi : Int → Int → Bool) (fs : List Nat → List Nat → Bool) : D → D → Option D
  | .int i, .int j => some (.bl (fi i j))
  | .str i, .str j => some (.bl (fs i.cps.toList j.cps.toList))
  | _, _ => none
theorem opd_cmpS {fs : List Nat → List Nat → Bool} : OpD K (fun x y H Q => ∃ i j : Str, x = V.str i ∧ y = V.str j ∧ Q (V.bl (fs i.cps.toList j.cps.toList)) H) (strOp (fun _ _ => true) fun i j => .bl (fs i.cps.toList j.cps.toList)) := fun x y d1 d2 H B bh rx ry => by
  cases rx with
  | str i hi =>
    cases ry with
    | str j hj => exact Prim.now bh (.bl _) fun Q q => ⟨i, j, rfl, rfl, q⟩
    | _ => trivial
  | _ => cases ry <;> trivial
theorem opd_cmp {fi : Int → Int → Bool} {fs : List Nat → List Nat → Bool} : OpD K (fun x y H Q => (rI0 (fun i j => V.bl (fi i j))) x y H Q ∨ ∃ i j : Str, x = V.str i ∧ y = V.str j ∧ Q (V.bl (fs i.cps.toList j.cps.toList)) H) (cmpO fi fs) :=
  opd_imp (opd_or (opd_int0 fun B i j => .bl (fi i j)) opd_cmpS) fun x y => by cases x <;> cases y <;> rfl
def ltD : D → D → Option D := cmpO (fun i j => decide (i < j)) fun a b => decide (a < b)
def leD : D → D → Option D := cmpO (fun i j => decide (i ≤ j)) fun a b => !decide (b < a)
def gtD : D → D → Option D := cmpO (fun i j => decide (j < i)) fun a b => decide (b < a)
def geD : D → D → Option D := cmpO (fun i j => decide (j ≤ i)) fun a b => !decide (a < b)
theorem or_lt {X : Cx} : OpR X (compareOp .Lt) (fun x y H Q => (rI0 (fun i j => V.bl (decide (i < j)))) x y H Q ∨ ∃ i j : Str, x = V.str i ∧ y = V.str j ∧ Q (V.bl (decide (i.cps.toList < j.cps.toList))) H) := opr_or op_lt op_lt_str
theorem or_le {X : Cx} : OpR X (compareOp .LtE) (fun x y H Q => (rI0 (fun i j => V.bl (decide (i ≤ j)))) x y H Q ∨ ∃ i j : Str, x = V.str i ∧ y = V.str j ∧ Q (V.bl (!decide (j.cps.toList < i.cps.toList))) H) := opr_or op_le op_le_str
theorem or_gt {X : Cx} : OpR X (compareOp .Gt) (fun x y H Q => (rI0 (fun i j => V.bl (decide (j < i)))) x y H Q ∨ ∃ i j : Str, x = V.str i ∧ y = V.str j ∧ Q (V.bl (decide (j.cps.toList < i.cps.toList))) H) := opr_or op_gt op_gt_str
theorem or_ge {X : Cx} : OpR X (compareOp .GtE) (fun x y H Q => (rI0 (fun i j => V.bl (decide (j ≤ i)))) x y H Q ∨ ∃ i j : Str, x = V.str i ∧ y = V.str j ∧ Q (V.bl (!decide (i.cps.toList < j.cps.toList))) H) := opr_or op_ge op_ge_str
theorem od_lt : OpD K (fun x y H Q => (rI0 (fun i j => V.bl (decide (i < j)))) x y H Q ∨ ∃ i j : Str, x = V.str i ∧ y = V.str j ∧ Q (V.bl (decide (i.cps.toList < j.cps.toList))) H) ltD := opd_cmp
theorem od_le : OpD K (fun x y H Q => (rI0 (fun i j => V.bl (decide (i ≤ j)))) x y H Q ∨ ∃ i j : Str, x = V.str i ∧ y = V.str j ∧ Q (V.bl (!decide (j.cps.toList < i.cps.toList))) H) leD := opd_cmp (fs := fun a b => !decide (b < a))
theorem od_gt : OpD K (fun x y H Q => (rI0 (fun i j => V.bl (decide (j < i)))) x y H Q ∨ ∃ i j : Str, x = V.str i ∧ y = V.str j ∧ Q (V.bl (decide (j.cps.toList < i.cps.toList))) H) gtD := opd_cmp (fs := fun a b => decide (b < a))
theorem od_ge : OpD K (fun x y H Q => (rI0 (fun i j => V.bl (decide (j ≤ i)))) x y H Q ∨ ∃ i j : Str, x = V.str i ∧ y = V.str j ∧ Q (V.bl (!decide (i.cps.toList < j.cps.toList))) H) geD := opd_cmp (fs := fun a b => !decide (a < b))
theorem ex_lt (ha : EX F K Z own a g) (hb : EX F K Z own b h) : EX F K Z own (.Compare a [.Lt] [b] pos) (op2 ltD g h) := ex_cmp (fun _ _ => or_lt) od_lt (nomark _) ha hb
end
end MP
namespace MP
open PySem L2
/-! ### equality of data -/
mutual
def D.py : D → PyData
  | .non => .none
  | .bl b => .bool b
  | .int i => .int i
  | .str s => .str s
  | .tup ds => .tuple (pys ds)
  | .lst ds => .list (pys ds)
  | .dct _ => .dict []
  | .ins _ _ => .dict []
  | .dk _ _ _ => .dict []
  | .dt _ _ _ => .dict []
def pys : List D → List PyData
  | [] => []
  | d :: ds => d.py :: pys ds
end
mutual
def D.plain : D → Bool
  | .non | .bl _ | .int _ | .str _ => true
  | .tup ds => plains ds
  | .lst ds => plains ds
  | .dct _ => false
  | .ins _ _ => false
  | .dk _ _ _ => false
  | .dt _ _ _ => false
def plains : List D → Bool
  | [] => true
  | d :: ds => d.plain && plains ds
end
def okD (d : D) : Bool := d.plain && decide (d.py.depth ≤ 64)
mutual
theorem Rep.dp {K : PySem.W.Frag} {B H : Hp} (e : Ex B H) : ∀ {v : V} {d : D}, Rep K B v d → d.plain = true → Dp K H v d.py ∧ d.py.canLay0 = true
  | _, _, .non, _ => ⟨.non, rfl⟩
  | _, _, .bl b, _ => ⟨.bl b, rfl⟩
  | _, _, .int i, _ => ⟨.int i, rfl⟩
  | _, _, .str s h, _ => ⟨.str s, by simpa [D.py, PyData.canLay0] using h⟩
  | _, _, .tup h r _, p => by
    obtain ⟨a, b⟩ := Reps.dp e r (by simpa [D.plain] using p)
    exact ⟨by rw [D.py]; exact .tup (seqT e h) a, by rw [D.py, PyData.canLay0]; exact b⟩
  | _, _, .lst h r _, p => by
    obtain ⟨a, b⟩ := Reps.dp e r (by simpa [D.plain] using p)
    exact ⟨by rw [D.py]; exact .lst (e.seq h) a, by rw [D.py, PyData.canLay0]; exact b⟩
  | _, _, .sl _ _ _, p => by simp [D.plain] at p
  | _, _, .di _ _ _ _ _, p => by simp [D.plain] at p
  | _, _, .dk _ _ _ _ _, p => by simp [D.plain] at p
  | _, _, .dt _ _ _ _ _, p => by simp [D.plain] at p
  | _, _, .oi _, p => by simp [D.plain] at p
theorem Reps.dp {K : PySem.W.Frag} {B H : Hp} (e : Ex B H) : ∀ {vs : List V} {ds : List D}, Reps K B vs ds → plains ds = true → DpAll K H vs (pys ds) ∧ PyData.canLayAll0 (pys ds) = true
  | _, _, .nil, _ => ⟨by rw [pys]; exact .nil, by rw [pys, PyData.canLayAll0]⟩
  | _, _, .cons r t, p => by
    rw [plains, Bool.and_eq_true] at p
    obtain ⟨a, b⟩ := Rep.dp e r p.1
    obtain ⟨c, d⟩ := Reps.dp e t p.2
    exact ⟨by rw [pys]; exact .cons a c, by rw [pys, PyData.canLayAll0, b, d]; rfl⟩
end
theorem shaped_of {K : PySem.W.Frag} {B H : Hp} (e : Ex B H) {v : V} {d : D} (r : Rep K B v d) (h : okD d = true) : Dp K H v d.py ∧ SeqAt.shaped d.py = true := by
  unfold okD at h
  rw [Bool.and_eq_true] at h
  obtain ⟨a, b⟩ := r.dp e h.1
  exact ⟨a, by unfold SeqAt.shaped; rw [b, h.2]; rfl⟩
def eqD (a b : D) : Option D := if okD a && okD b then some (.bl (PyData.eqv a.py b.py)) else none
def neD (a b : D) : Option D := if okD a && okD b then some (.bl (!PyData.eqv a.py b.py)) else none
theorem od_eq {K : PySem.W.Frag} : OpD K (rEqD K) eqD := fun x y d1 d2 H B bh rx ry => by
  unfold eqD
  split
  · rename_i h
    rw [Bool.and_eq_true] at h
    obtain ⟨a1, a2⟩ := shaped_of bh rx h.1
    obtain ⟨b1, b2⟩ := shaped_of bh ry h.2
    exact Prim.now bh (.bl _) fun Q q => ⟨_, _, a1, b1, a2, b2, q⟩
  · trivial
theorem od_ne {K : PySem.W.Frag} : OpD K (rNeD K) neD := fun x y d1 d2 H B bh rx ry => by
  unfold neD
  split
  · rename_i h
    rw [Bool.and_eq_true] at h
    obtain ⟨a1, a2⟩ := shaped_of bh rx h.1
    obtain ⟨b1, b2⟩ := shaped_of bh ry h.2
    exact Prim.now bh (.bl _) fun Q q => ⟨_, _, a1, b1, a2, b2, q⟩
  · trivial
section
variable {F : CF} {K : PySem.W.Frag} {mg : Str → Option Value} {Z : XC} {own own1 own' : List Stt} {N : List Str} {vis : List Bool} {gl : List Str} {k : Nat} {a b : Expr} {g h : M D} {pos : Pos}
theorem ex_eq (S : Sx F K mg N vis gl k) (ha : EX F K Z own a g) (hb : EX F K Z own b h) : EX F K Z own (.Compare a [.Eq] [b] pos) (op2 eqD g h) :=
  ex_cmp (fun X hX => atK (S.hK X hX) (fun K => OpR X _ (rEqD K)) (op_eqD (S.room X hX).units)) od_eq (nomark _) ha hb
theorem ex_ne (S : Sx F K mg N vis gl k) (ha : EX F K Z own a g) (hb : EX F K Z own b h) : EX F K Z own (.Compare a [.NotEq] [b] pos) (op2 neD g h) :=
  ex_cmp (fun X hX => atK (S.hK X hX) (fun K => OpR X _ (rNeD K)) (op_neD (S.room X hX).units)) od_ne (nomark _) ha hb
/-! ### is None -/
def isND : D → D → Option D
  | .non, .non => some (.bl true)
  | _, .non => some (.bl false)
  | _, _ => none
def notND : D → D → Option D
  | .non, .non => some (.bl false)
  | _, .non => some (.bl true)
  | _, _ => none
theorem od_isN : OpD K (fun x y H Q => y = V.non ∧ Q (V.bl (decide (x = V.non))) H) isND := fun x y d1 d2 H B bh rx ry => by
  cases ry with
  | non => cases rx <;> exact Prim.now bh (.bl _) fun Q q => ⟨rfl, q⟩
  | _ => cases rx <;> trivial
theorem od_notN : OpD K (fun x y H Q => y = V.non ∧ Q (V.bl (!decide (x = V.non))) H) notND := fun x y d1 d2 H B bh rx ry => by
  cases ry with
  | non => cases rx <;> exact Prim.now bh (.bl _) fun Q q => ⟨rfl, q⟩
  | _ => cases rx <;> trivial
/-! ### in -/
def flatD : D → Bool
  | .non | .bl _ | .int _ | .str _ => true
  | _ => false
def eqF : D → D → Bool
  | .non, .non => true
  | .bl a, .bl b => a == b
  | .bl a, .int j => (if a then 1 else 0) == j
  | .int i, .bl b => i == (if b then 1 else 0)
  | .int i, .int j => i == j
  | .str a, .str b => a == b
  | _, _ => false
def inD (neg : Bool) : D → D → Option D
  | x, .tup ds => if flatD x && ds.all flatD then some (.bl (xor neg (ds.any fun y => eqF y x))) else none
  | x, .lst ds => if flatD x && ds.all flatD then some (.bl (xor neg (ds.any fun y => eqF y x))) else none
  | .str c, .str z => (match c.cps.toList with
    | [n] => some (.bl (xor neg (decide (n ∈ z.cps.toList))))
    | _ => none)
  | _, _ => none
theorem rep_flat {B : Hp} {v : V} {d : D} (r : Rep K B v d) (h : flatD d = true) : flatV v = true := by
  cases r <;> first | rfl | cases h
theorem reps_flat {B : Hp} : ∀ {vs : List V} {ds : List D}, Reps K B vs ds → ds.all flatD = true → vs.all flatV = true
  | _, _, .nil, _ => rfl
  | _, _, .cons r t, h => by
    rw [List.all_cons, Bool.and_eq_true] at h ⊢
    exact ⟨rep_flat r h.1, reps_flat t h.2⟩
theorem rep_eqF {B : Hp} {v u : V} {d e : D} (r : Rep K B v d) (q : Rep K B u e) (h : flatD d = true) (h2 : flatD e = true) : eqV v u = eqF d e := by
  cases r <;> first | (cases h; done) | (cases q <;> first | rfl | (cases h2; done))
theorem reps_any {B : Hp} {u : V} {e : D} (q : Rep K B u e) (h2 : flatD e = true) : ∀ {vs : List V} {ds : List D}, Reps K B vs ds → ds.all flatD = true → inV u vs = ds.any fun y => eqF y e
  | _, _, .nil, _ => rfl
  | _, _, .cons r t, h => by
    rw [List.all_cons, Bool.and_eq_true] at h
    unfold inV
    rw [List.any_cons, List.any_cons, rep_eqF r q h.1 h2]
    congr 1
    exact reps_any q h2 t h.2
def rIn2 (K : PySem.W.Frag) (neg : Bool) : R2 := fun x y H Q => rIn K neg x y H Q ∨ ∃ c z, x = V.str { cps := #[c] } ∧ y = V.str z ∧ Q (V.bl (xor neg (decide (c ∈ z.cps.toList)))) H
theorem or_in {X : Cx} (neg : Bool) : OpR X (compareOp (if neg then .NotIn else .In)) (rIn2 X.K neg) := by
  cases neg with
  | false => exact opr_or op_in_seq (by simpa using op_in_sign)
  | true => exact opr_or op_notIn_seq (by simpa using op_notIn_sign)
theorem od_in (neg : Bool) : OpD K (rIn2 K neg) (inD neg) := fun x y d1 d2 H B bh rx ry => by
  have seq : ∀ {a : Addr} {us : List V} {ds : List D}, (SqL K H a us ∨ SqT K H a us) → Reps K B us ds → Prim K (RV K) (if flatD d1 && ds.all flatD then some (D.bl (xor neg (ds.any fun y => eqF y d1))) else none) H B (rIn2 K neg x (.ref a) H) := fun {a us ds} hq rs => by
    split
    · rename_i h
      rw [Bool.and_eq_true] at h
      refine Prim.now bh (.bl _) fun Q q => .inl ⟨a, us, rfl, hq, rep_flat rx h.1, reps_flat rs h.2, ?_⟩
      have e := reps_any rx h.1 rs h.2
      rw [e]
      cases neg <;> simpa using q
    · trivial
  cases ry with
  | tup hq rs hz => unfold inD; exact seq (.inr (seqT bh hq)) rs
  | lst hq rs hz => unfold inD; exact seq (.inl (bh.seq hq)) rs
  | str z hz =>
    cases rx with
    | str c hc =>
      unfold inD
      obtain ⟨⟨cs⟩⟩ := c
      dsimp only
      match cs with
      | [] => trivial
      | [n] => exact Prim.now bh (.bl _) fun Q q => .inr ⟨n, z, rfl, rfl, q⟩
      | _ :: _ :: _ => trivial
    | _ => trivial
  | _ => cases rx <;> trivial
theorem ex_in (S : Sx F K mg N vis gl k) (ha : EX F K Z own a g) (hb : EX F K Z own b h) (hm : behindInMarks .In b = false := by rfl) : EX F K Z own (.Compare a [.In] [b] pos) (op2 (inD false) g h) :=
  ex_cmp (fun X hX => atK (S.hK X hX) (fun K => OpR X _ (rIn2 K false)) (or_in false)) (od_in false) hm ha hb
/-! ### minus -/
def negD : D → Option D
  | .int i => some (.int (-i))
  | _ => none
def op1 (f : D → Option D) (g : M D) : M D := bnd g fun x => ofO (f x)
theorem ex_neg (ha : EX F K Z own a g) : EX F K Z own (.UnaryOp .USub a pos) (op1 negD g) := by
  obtain ⟨ta, pa, ha⟩ := ha
  refine ⟨_, fun X hX => pe_un un_neg (pa X hX), fun G ρ σ H B R => ?_⟩
  refine Run.thn (p2 := fun x H1 Q => rU (fun i => V.int (-i)) x H1 Q) (ha G ρ σ H B R) fun d ρ1 v H1 B1 _ e R1 l => ?_
  cases l with
  | int i => exact Run.now R1 (.int _) fun Q q => ⟨i, rfl, q⟩
  | _ => trivial
/-! ### len, items, slices -/
def lenD : List D → Option D
  | [.tup ds] => some (.int ds.length)
  | [.lst ds] => some (.int ds.length)
  | [.str z] => if z.length ≤ 16000000 then some (.int z.length) else none
  | _ => none
theorem cd_len : CallD K (fun xs H Q => ∃ x n, xs = [x] ∧ LenV K x H n ∧ Q (V.int (n : Nat)) H) lenD := fun vs ds H B bh r => by
  cases r with
  | nil => trivial
  | cons r rs =>
    cases rs with
    | cons _ _ => cases r <;> trivial
    | nil =>
      cases r with
      | tup hq rs hz => exact Prim.now bh (.int _) fun Q q => ⟨_, _, rfl, .inr ⟨_, seqT bh hq, rs.len.symm⟩, q⟩
      | lst hq rs hz => exact Prim.now bh (.int _) fun Q q => ⟨_, _, rfl, .inl ⟨_, bh.seq hq, rs.len.symm⟩, q⟩
      | str z hz =>
        show Prim K _ (if z.length ≤ 16000000 then some (D.int z.length) else none) H B _
        by_cases hl : z.length ≤ 16000000
        · rw [if_pos hl]; exact Prim.now bh (.int _) fun Q q => ⟨_, _, rfl, ⟨by rw [sizeLine_eq]; omega, rfl⟩, q⟩
        · rw [if_neg hl]; trivial
      | _ => trivial
theorem ex_len (S : Sx F K mg N vis gl k) (i : Nat) {p : Pos} (hm : mg "len" = none) (ha : EX F K Z own a g) (hg : gl[i]? = some ("len" : Str) := by rfl) (hs : ∀ X, F X → starEach [a] X.env = (false, eval a X.env) :: starEach [] X.env := by intro _ _; rfl) :
    EX F K Z own (.Call (.Name "len" p) [a] [] pos) (callD lenD (consD g nilD)) :=
  ex_callB S i (fun X hX => atK (S.hK X hX) (fun K => CallR X _ fun xs H Q => ∃ x n, xs = [x] ∧ LenV K x H n ∧ Q (V.int (n : Nat)) H) call_len) cd_len hm PySem.boot_len (es_cons ha es_nil hs) hg hs
theorem Reps.atI {B : Hp} {vs : List V} {ds : List D} {i : Int} {d : D} (r : Reps K B vs ds) (h : L2.atI ds i = some d) : ∃ v, L2.atI vs i = some v ∧ Rep K B v d := by
  unfold L2.atI at *
  rw [r.len]
  cases hn : ixN ds.length i with
  | none => rw [hn] at h; cases h
  | some j => rw [hn] at h; exact r.get h
def ixD : D → D → Option D
  | .tup ds, .int i => atI ds i
  | .lst ds, .int i => atI ds i
  | .str z, .int i => if z.length ≤ 16000000 then (atI z.cps.toList i).map fun c => .str ⟨#[c]⟩ else none
  | _, _ => none
theorem strOk_at {z : Str} (h : PyData.strOk z = true) {i : Int} {c : Nat} (hc : L2.atI z.cps.toList i = some c) : PyData.strOk ⟨#[c]⟩ = true := by
  unfold L2.atI at hc
  cases hn : ixN z.cps.toList.length i with
  | none => rw [hn] at hc; cases hc
  | some j => rw [hn] at hc; exact strOk_one h (by simpa using hc)
theorem od_ix : OpD K (rIx K) ixD := fun x y d1 d2 H B bh rx ry => by
  cases ry with
  | int i =>
    cases rx with
    | tup hq rs hz =>
      rename_i ds
      show Prim K _ (atI ds i) H B _
      cases hi : atI ds i with
      | none => trivial
      | some d => obtain ⟨v, hv, r⟩ := rs.atI hi; exact Prim.now bh r fun Q q => .inr (.inl ⟨_, _, i, v, rfl, rfl, seqT bh hq, hv, q⟩)
    | lst hq rs hz =>
      rename_i ds
      show Prim K _ (atI ds i) H B _
      cases hi : atI ds i with
      | none => trivial
      | some d => obtain ⟨v, hv, r⟩ := rs.atI hi; exact Prim.now bh r fun Q q => .inl ⟨_, _, i, v, rfl, rfl, bh.seq hq, hv, q⟩
    | str z hz =>
      show Prim K _ (if z.length ≤ 16000000 then (atI z.cps.toList i).map fun c => D.str ⟨#[c]⟩ else none) H B _
      split
      · cases hi : atI z.cps.toList i with
        | none => trivial
        | some c => exact Prim.now bh (.str _ (strOk_at hz hi)) fun Q q => .inr (.inr ⟨z, i, c, rfl, rfl, by rw [sizeLine_eq]; omega, hi, q⟩)
      · trivial
    | _ => trivial
  | _ => cases rx <;> trivial
theorem ex_ix (S : Sx F K mg N vis gl k) (ha : EX F K Z own a g) (hb : EX F K Z own b h) (hp : PlainIx b := by intro _ _; rfl) : EX F K Z own (.Subscript a b pos) (op2 ixD g h) := by
  obtain ⟨ta, pa, ha⟩ := ha
  obtain ⟨tb, pb, hb⟩ := hb
  refine ⟨tOp (rIx K) ta tb, fun X hX => pe_ix (atK (S.hK X hX) (fun K => IxR X (rIx K)) ix_seq) (pa X hX) (pb X hX) hp, fun G ρ σ H B R => ?_⟩
  exact Run.thn (ha G ρ σ H B R) fun d ρ1 v H1 B1 _ e R1 l => Run.thn (hb G ρ1 σ H1 B1 R1) fun d2 ρ2 v2 H2 B2 _ e2 R2 l2 => Run.prim R2 (od_ix v v2 d d2 H2 B2 R2.keep.bh (l.mono e2) l2)
/-- x[i], x a list of the frame's own -/
def ixOwn (j : Nat) (h : M D) : M D := bnd h fun i ρ => ofO (ixD (look ρ j) i) ρ
theorem ex_ixOwn (S : Sx F K mg N vis gl k) (j : Nat) {st : Stt} {x : Str} {px : Pos} (hb : EX F K Z own b h) (hN : N[j]? = some x := by rfl) (hv : vis[j]? = some true := by rfl) (ho : own[j]? = some st := by rfl) (hst : st.isL = true := by rfl) (hp : PlainIx b := by intro _ _; rfl) : EX F K Z own (.Subscript (.Name x px) b pos) (ixOwn j h) := by
  obtain ⟨tb, pb, hb⟩ := hb
  refine ⟨tOp (rIx K) (tVar j) tb, fun X hX => let ⟨v1, v2, v3⟩ := S.vis X hX j x hv hN; pe_ix (atK (S.hK X hX) (fun K => IxR X (rIx K)) ix_seq) (pe_var (by rw [S.hN X hX]; exact hN) v1 v2 v3) (pb X hX) hp, fun G ρ σ H B R => ?_⟩
  obtain ⟨a, rs0, ea, _, _⟩ := R.ownAt ho hst
  refine Run.imp (Run.thn (p2 := fun y H2 Q => rIx K (.ref a) y H2 Q) (hb G ρ σ H B R) fun d ρ1 v H1 B1 _ e R1 l => ?_) fun Q q => ⟨.ref a, join_some ea, q⟩
  obtain ⟨a', rs, ea', er, us, hu, ru, hz, _⟩ := R1.ownAt ho hst
  rw [ea] at ea'
  cases ea'
  refine Run.prim R1 ?_
  rw [er]
  cases l with
  | int i =>
    show Prim K _ (atI rs i) H1 B1 _
    cases hi : atI rs i with
    | none => trivial
    | some d => obtain ⟨v, hv, r⟩ := ru.atI hi; exact Prim.now R1.keep.bh r fun Q q => .inl ⟨_, _, i, v, rfl, rfl, .inl (.inl hu), hv, q⟩
  | _ => trivial
/-- len(x), x a list of the frame's own -/
def lenOwn (j : Nat) : M D := fun ρ => ofO (lenD [look ρ j]) ρ
/-- a part of a slice -/
def EO (F : CF) (K : PySem.W.Frag) (Z : XC) (own : List Stt) (e : Option Expr) (g : M (Option Int)) : Prop :=
  ∃ t, (∀ X, F X → PO X e t) ∧ ∀ G ρ σ H B, Rel K G own ρ σ H B → Run K Z G own (fun _ _ i j => i = j) (g ρ) σ B (t σ H)
def noP : M (Option Int) := ret none
def someP (g : M D) : M (Option Int) := bnd g fun d => match d with
  | .int i => ret (some i)
  | _ => ofO none
theorem eo_none : EO F K Z own none noP := ⟨_, fun _ _ => po_none, fun G ρ σ H B R => Run.now R rfl fun Q q => q⟩
theorem eo_some {e : Expr} (ha : EX F K Z own e g) : EO F K Z own (some e) (someP g) := by
  obtain ⟨ta, pa, ha⟩ := ha
  refine ⟨_, fun X hX => po_some (pa X hX), fun G ρ σ H B R => ?_⟩
  refine Run.thn (p2 := fun x H1 Q => ∃ i, x = .int i ∧ Q (some i) H1) (ha G ρ σ H B R) fun d ρ1 v H1 B1 _ e R1 l => ?_
  cases l with
  | int i => exact Run.now R1 rfl fun Q q => ⟨i, rfl, q⟩
  | _ => trivial
def cutD (ds : List D) (lo hi : Option Int) : List D := (ds.drop (HT.sIx ds.length 0 lo)).take (HT.sIx ds.length ds.length hi - HT.sIx ds.length 0 lo)
def slD (d : D) (lo hi : Option Int) : Option D := match d with
  | .tup ds => some (.tup (cutD ds lo hi))
  | .lst ds => some (.lst (cutD ds lo hi))
  | _ => none
def slM (g : M D) (lo hi : M (Option Int)) : M D := bnd g fun d => bnd lo fun l => bnd hi fun u => ofO (slD d l u)
theorem reps_cut {B : Hp} {vs : List V} {ds : List D} (r : Reps K B vs ds) (lo hi : Option Int) : Reps K B (cutV vs lo hi) (cutD ds lo hi) := by
  unfold cutV cutD
  rw [r.len]
  exact (r.drop _).take _
theorem cutD_len {ds : List D} {lo hi : Option Int} (h : ds.length ≤ sizeLine) : (cutD ds lo hi).length ≤ sizeLine := by
  unfold cutD
  rw [List.length_take, List.length_drop]
  omega
theorem cutD_all {ds : List D} {lo hi : Option Int} (h1 : HT.sIx ds.length 0 lo = 0) (h2 : HT.sIx ds.length ds.length hi = ds.length) : cutD ds lo hi = ds := by
  unfold cutD
  rw [h1, h2]
  simp
def rSl2 (K : PySem.W.Frag) : V → Option Int → Option Int → Hp → VK → Prop := fun x lo hi H Q => rSlL K x lo hi H Q ∨ rSlA K x lo hi H Q
theorem slr_or {X : Cx} {r1 r2 : V → Option Int → Option Int → Hp → VK → Prop} (h1 : SlR X r1) (h2 : SlR X r2) : SlR X (fun x lo hi H Q => r1 x lo hi H Q ∨ r2 x lo hi H Q) := fun pins s σ H x v vl vu lo hi sl Q I rx hs pl pu h =>
  h.elim (h1 pins s σ H x v vl vu lo hi sl Q I rx hs pl pu) (h2 pins s σ H x v vl vu lo hi sl Q I rx hs pl pu)
theorem ex_slice (S : Sx F K mg N vis gl k) {lo hi : Option Expr} {p2 : Pos} {gl' gh : M (Option Int)} (ha : EX F K Z own a g) (hl : EO F K Z own lo gl') (hh : EO F K Z own hi gh) : EX F K Z own (.Subscript a (.Slice lo hi none p2) pos) (slM g gl' gh) := by
  obtain ⟨ta, pa, ha⟩ := ha
  obtain ⟨tl, pl, hl⟩ := hl
  obtain ⟨th, ph, hh⟩ := hh
  refine ⟨L2.tSl (rSl2 K) ta tl th, fun X hX => pe_slice (atK (S.hK X hX) (fun K => SlR X (rSl2 K)) (slr_or sl_list sl_tupA)) (pa X hX) (pl X hX) (ph X hX), fun G ρ σ H B R => ?_⟩
  refine Run.thn (p2 := fun x H1 Q => tl σ H1 fun l H2 => th σ H2 fun u H3 => rSl2 K x l u H3 Q) (ha G ρ σ H B R) fun d ρ1 v H1 B1 _ e R1 l => ?_
  refine Run.thn (p2 := fun lo H2 Q => th σ H2 fun u H3 => rSl2 K v lo u H3 Q) (hl G ρ1 σ H1 B1 R1) fun d2 ρ2 v2 H2 B2 _ e2 R2 l2 => ?_
  refine Run.thn (p2 := fun hi H3 Q => rSl2 K v v2 hi H3 Q) (hh G ρ2 σ H2 B2 R2) fun d3 ρ3 v3 H3 B3 _ e3 R3 l3 => Run.prim R3 ?_
  cases l2
  cases l3
  have l := (l.mono e2).mono e3
  cases l with
  | tup hq rs hz =>
    intro Q q
    refine .inr ⟨_, _, rfl, seqT R3.keep.bh hq, fun e => ?_, fun e p hp => ?_⟩
    · rw [rs.len] at e
      refine q _ H3 B3 (New.refl R3.keep.bh) ?_
      rw [cutD_all e.1 e.2]
      exact .tup hq rs hz
    · exact q _ _ _ (New.alloc (K := K) R3.keep.bh hp) (.tup (.inl (.inl upd_same)) ((reps_cut rs _ _).mono (New.alloc (K := K) R3.keep.bh hp).b) (cutD_len hz))
  | lst hq rs hz => exact fun Q q => .inl ⟨_, _, rfl, R3.keep.bh.seq hq, fun p hp => q _ _ _ (New.alloc (K := K) R3.keep.bh hp) (.lst (.inl (.inl upd_same)) ((reps_cut rs _ _).mono (New.alloc (K := K) R3.keep.bh hp).b) (cutD_len hz))⟩
  | _ => trivial
end
end MP
namespace MP
open PySem L2
/-! ### classes with slots whose instances do not change once they are made -/
/-- what of the text such a class has: the slots' descriptors by name, in order -/
structure Cl (K : PySem.W.Frag) (c : Str) (sl : List Str) : Prop where
  s : SlX.SCls K (He.ga K c)
  at_ : ∀ (i : Nat) (f : Str), sl[i]? = some f → ∃ p, SlX.Slot1 K (He.ga K c) f p i
  nf : (flds c).isEmpty = true
def fldD (c : Str) (i : Nat) : D → Option D
  | .ins c' fs => if c' = c then fs[i]? else none
  | _ => none
section
variable {F : CF} {K : PySem.W.Frag} {mg : Str → Option Value} {Z : XC} {own own1 own' : List Stt} {N : List Str} {vis : List Bool} {gl : List Str} {k : Nat} {a b : Expr} {g h : M D} {pos : Pos} {P : Program} {w : World} {base : Heap} {ps : List Str} {f : Addr} {fd : FuncData}
theorem rep_ins {B : Hp} {v : V} {c : Str} {ds : List D} (hc : (flds c).isEmpty = true) (r : Rep K B v (.ins c ds)) : ∃ a dx us, v = .ref a ∧ SlX.Slt B a (He.ga K c) dx (us.map some) ∧ Reps K B us ds := by
  cases r with
  | sl _ h rs => exact ⟨_, _, _, rfl, h, rs⟩
  | di n _ _ _ _ => rw [hc] at n; cases n
theorem ex_fld (S : Sx F K mg N vis gl k) {c : Str} {sl : List Str} (C : Cl K c sl) (i : Nat) {x : Str} (ha : EX F K Z own a g) (hi : sl[i]? = some x := by rfl) (hb : ∀ X, F X → attributeBase a x X.env (eval a X.env) = eval a X.env := by intro _ _; rfl) : EX F K Z own (.Attribute a x pos) (op1 (fldD c i) g) := by
  obtain ⟨ta, pa, ha⟩ := ha
  refine ⟨SlX.tSl K ta x, fun X hX => atK (S.hK X hX) (fun K => PE X _ (SlX.tSl K ta x)) (SlX.pe_sl (pa X hX) (hb X hX)), fun G ρ σ H B R => ?_⟩
  refine Run.thn (p2 := fun y H1 Q => ∃ a C dx p vs i v, y = .ref a ∧ SlX.Slt H1 a C dx vs ∧ SlX.SCls K C ∧ SlX.Slot1 K C x p i ∧ vs[i]? = some (some v) ∧ Q v H1) (ha G ρ σ H B R) fun d ρ1 v H1 B1 _ e R1 l => Run.prim R1 ?_
  cases d with
  | ins c' ds =>
    show Prim K _ (if c' = c then ds[i]? else none) H1 B1 _
    split
    · rename_i ec
      subst ec
      obtain ⟨a, dx, us, rfl, hs, rs⟩ := rep_ins C.nf l
      cases hd : ds[i]? with
      | none => trivial
      | some d =>
        obtain ⟨v, hv, r⟩ := rs.get hd
        obtain ⟨p, sp⟩ := C.at_ i x hi
        exact Prim.now R1.keep.bh r fun Q q => ⟨a, _, dx, p, _, i, v, rfl, sltX R1.keep.bh hs, C.s, sp, by rw [List.getElem?_map, hv]; rfl, q⟩
    · trivial
  | _ => trivial
/-! ### what a caller knows of a method -/
/-- a property's getter -/
structure PrV (P : Program) (w : World) (K : PySem.W.Frag) (mg : Str → Option Value) (base : Heap) (c m : Str) (p f : Addr) (fd : FuncData) (ps : List Str) (j : Nat) (ff : FV) : Prop where
  ok : FnOk P w K mg base CX0 j f fd ps (spV K ps.length ff)
  ar : ∀ ds d, ff ds = some d → ds.length = ps.length
  at_ : PySem.W.findIn K (.ref (He.ga K c)) m = some (some (.ref p))
  get : PySem.W.specialIn K (.ref p) "__get__" = some (some (.builtin "property.__get__"))
  tk : PySem.W.takesIn K (.ref p) = some true
  rc : ∃ rest, PySem.W.recIn K p "property" = some (.ref f :: rest)
  bd : Binds K fd ps []
def isC (c : Str) (ff : FV) (ds : List D) : D → Option D
  | .ins c' fs => if c' = c then ff (.ins c' fs :: ds) else none
  | _ => none
theorem fnRAt (A : Fam F P w base) (S : Sx F K mg N vis gl k) {X : Cx} (hX : F X) {CX : CXT} {j : Nat} {sp : Sp} (G : FnR P w K mg base CX j f sp) : FnR X.prog X.w X.K X.mg X.base CX j f sp := by
  rw [A.hP X hX, A.hw X hX, A.hb X hX, S.hK X hX, S.hmg X hX]; exact G
theorem ex_prop (A : Fam F P w base) (S : Sx F K mg N vis gl k) {c m : Str} {sl : List Str} {p : Addr} {j : Nat} {ff : FV} (C : Cl K c sl) (G : PrV P w K mg base c m p f fd ps j ff) (ha : EX F K Z own a g) (hj : j + 1 ≤ k := by decide)
    (hb : ∀ X, F X → attributeBase a m X.env (eval a X.env) = eval a X.env := by intro _ _; rfl) : EX F K Z own (.Attribute a m pos) (op1 (isC c ff []) g) := by
  obtain ⟨ta, pa, ha⟩ := ha
  have raw := G.ok.raw G.bd (dvs := []) .nil
  refine ⟨SlX.tPropSl (He.ga K c) (fun vs H Q E => spV K ps.length ff (vs ++ []) H Q E) E0 ta, fun X hX => SlX.pe_propSl (pa X hX) (by rw [S.hK X hX]; exact C.s) (by rw [S.hK X hX]; exact G.at_) (by rw [S.hK X hX]; exact G.get) (by rw [S.hK X hX]; exact G.tk) (by rw [S.hK X hX]; exact G.rc) (fnRAt A S hX raw) ((S.room X hX).mono hj) (fun _ _ _ _ h => h) (hb X hX), fun G' ρ σ H B R => ?_⟩
  refine Run.thn (p2 := fun y H1 Q => ∃ a dx vs, y = .ref a ∧ SlX.Slt H1 a (He.ga K c) dx vs ∧ spV K ps.length ff ([.ref a] ++ []) H1 Q E0) (ha G' ρ σ H B R) fun d ρ1 v H1 B1 _ e R1 l => Run.prim R1 ?_
  cases d with
  | ins c' ds =>
    show Prim K _ (if c' = c then ff (.ins c' ds :: []) else none) H1 B1 _
    split
    · rename_i ec
      subst ec
      obtain ⟨a, dx, us, rfl, hs, rs⟩ := rep_ins C.nf l
      cases hf : ff [.ins c' ds] with
      | none => trivial
      | some d => exact fun Q q => ⟨a, dx, _, rfl, sltX R1.keep.bh hs, B1, [.ins c' ds], d, by simp [← G.ar _ _ hf], ⟨R1.keep.bh, R1.keep.tab⟩, .one (.sl C.nf hs rs), hf, q⟩
    · trivial
  | _ => trivial
def chkC (c : Str) : D → Option D
  | .ins c' fs => if c' = c then some (.ins c' fs) else none
  | _ => none
def methD (c : Str) (ff : FV) (g : M D) (h : M (List D)) : M D := bnd g fun d => bnd (ofO (chkC c d)) fun e => bnd h fun ds => ofO (ff (e :: ds))
/-! ### making -/
/-- __init__: what it is given, the slots' values -/
abbrev FI := List D → Option (List D)
/-- H' is H but for the objects at x and dx and the tables -/
structure Chg2 (x dx : Addr) (H H' : Hp) : Prop where
  h : ∀ b o, H b = some o → b ≠ x → b ≠ dx → isTb o = false → H' b = some o
  dm : ∀ b o, H b = some o → ∃ o', H' b = some o'
  tk : TabsK H H'
def spI (K : PySem.W.Frag) (c : Str) (n : Nat) (f : FI) : Sp := fun vs H Q _ => ∃ B x dx ws ds fs, vs.length = n ∧ vs = .ref x :: ws ∧ (Ex B H ∧ TabK K H B) ∧ InsOk K H B x dx c [] [] ∧ Reps K B ws ds ∧ f ds = some fs ∧
  ∀ H' B' us, Ex B B' → Ex B' H' → Chg2 x dx H H' → TabK K H' B' → (∀ b o, H b = some o → B' b = B b) → InsOk K H' B' x dx c us fs → Q .non H'
def endI : SRes → Option (List D)
  | .nx ρ => (match look ρ 0 with
    | .ins _ fs => some fs
    | _ => none)
  | _ => none
def runI (c : Str) (n m : Nat) (g : SM) : FI := fun ds => if ds.length = m then endI (g (startD n (.ins c [] :: ds))) else none
theorem runI_ar {c : Str} {n m : Nat} {g : SM} {ds fs : List D} (h : runI c n m g ds = some fs) : ds.length = m := by
  unfold runI at h
  split at h
  · assumption
  · cases h
def ownI (n m : Nat) : List Stt := .I :: (List.replicate m .V ++ List.replicate (n - (m + 1)) .U)
def roI (n : Nat) : List Stt := .I :: List.replicate (n - 1) .U
theorem rel_startI {H B : Hp} {x dx : Addr} {c : Str} {vs : List V} {ds : List D} {n : Nat} (bh : Ex B H) (tb : TabK K H B) (o : InsOk K H B x dx c [] []) (r : Reps K B vs ds) (hn : vs.length + 1 ≤ N.length) (hm : vs.length = n) :
    Rel K ⟨H, B, fun b => b = x ∨ b = dx, fun _ => none, some (x, dx, c), none⟩ (ownI N.length n) (startD N.length (.ins c [] :: ds)) (L2.start N (.ref x :: vs)) H B := by
  have hl := r.len
  have key : ∀ (i : Nat) (si : Stt), (ownI N.length n)[i]? = some si → si.own = false := fun i si hi => by
    cases i with
    | zero => cases hi; rfl
    | succ i =>
      have hi' : (List.replicate n Stt.V ++ List.replicate (N.length - (n + 1)) Stt.U)[i]? = some si := hi
      by_cases hlt : i < n
      · rw [List.getElem?_append_left (by simpa using hlt), List.getElem?_replicate, if_pos hlt] at hi'
        cases hi'; rfl
      · rw [List.getElem?_append_right (by simpa using hlt), List.getElem?_replicate] at hi'
        split at hi'
        · cases hi'; rfl
        · cases hi'
  refine ⟨⟨bh, fun _ _ e => (nomatch e), fun _ _ e => (nomatch e), Ex.rfl, fun _ _ e _ _ => e, fun a o e => ⟨o, e⟩, fun _ _ _ => rfl, fun _ _ e => (nomatch e), TabsK.rfl, tb⟩, ?_, ?_, fun i st h => ?_, fun i j si sj b hi hj oi oj _ _ => by rw [key i si hi] at oi; cases oi⟩
  · simp [startD, ownI]; omega
  · simp [L2.start, ownI]; omega
  · cases i with
    | zero => cases h; exact ⟨x, dx, c, [], [], rfl, rfl, o, ⟨rfl, rfl⟩, rfl, by simp, by simp⟩
    | succ i =>
      have h' : (List.replicate n Stt.V ++ List.replicate (N.length - (n + 1)) Stt.U)[i]? = some st := h
      by_cases hi : i < n
      · rw [List.getElem?_append_left (by simpa using hi), List.getElem?_replicate, if_pos hi] at h'
        cases h'
        have hd : i < ds.length := by omega
        obtain ⟨v, hv, rv⟩ := r.get (List.getElem?_eq_getElem hd)
        refine ⟨v, ?_, ?_⟩
        · unfold L2.start
          rw [List.getElem?_append_left (by simp; omega), List.getElem?_map, List.getElem?_cons_succ, hv]
          rfl
        · unfold look startD
          rw [List.getD_eq_getElem?_getD, List.getElem?_append_left (by simp; omega), List.getElem?_cons_succ, List.getElem?_eq_getElem hd]
          exact rv
      · rw [List.getElem?_append_right (by simpa using hi), List.getElem?_replicate] at h'
        split at h'
        · cases h'; trivial
        · cases h'
theorem fn_I {x qual : Str} {params : Arguments} {body : List Stmt} {scope : Scope} {dvs : List V} {kws : List (Str × V)} {c : Str} {g : SM} {own' : List Stt} {m : Nat} (Fd : FunD K x qual params body scope dvs kws f fd) (S : FnScope N ps scope) (hps : ps.length = m + 1)
    (h : STs (bodyF P w K mg base N qual scope f k) K (ctlV N.length) (ownI N.length m) body g own') (ho : leB (roI N.length) own' = true) : FnOk P w K mg base CX0 (k + 1) f fd ps (spI K c ps.length (runI c N.length m g)) := by
  obtain ⟨t, pt, h⟩ := h
  have hpl : ps.length ≤ N.length := by
    have := congrArg List.length S.pre
    rw [List.length_take] at this
    omega
  refine FunD.okC Fd S (fun vs H Q E ⟨B, x, dx, ws, ds, fs, hl, _⟩ => hl) fun cdv A outer s H vs Q E hc hr ⟨B, x, dx, ws, ds, fs, hl, hv, ⟨bh, tb⟩, o, rws, hf, q⟩ => ⟨t, (pt _ ⟨cdv, A, outer, s, H, E, ⟨hr, hc⟩, rfl⟩).nox, ?_⟩
  subst hv
  have hw : ws.length = m := by simp at hl; omega
  refine h _ _ _ H B (rel_startI (N := N) bh tb o rws (by omega) hw) _ ?_
  unfold runI at hf
  rw [if_pos (by rw [← rws.len]; exact hw)] at hf
  cases hg : g (startD N.length (.ins c [] :: ds)) with
  | nx ρ =>
    rw [hg] at hf
    intro σ' H' B' e R
    have R := R.less ho
    obtain ⟨x', dx', c', us, fs', e1, e2, o', _, m0, _, _⟩ := R.slot 0 .I rfl
    cases m0
    have hf' : (match look ρ 0 with
      | .ins _ fs => some fs
      | _ => none) = some fs := hf
    rw [e2] at hf'
    cases hf'
    exact q H' B' us e R.keep.bh ⟨fun b o hb h1 h2 nt => R.keep.fr b o hb (by simp [h1, h2]) nt, R.keep.dom, R.keep.tk⟩ R.keep.tab (fun b o hb => R.keep.old b o hb) o'
  | rt d' ρ => rw [hg] at hf; cases hf
  | bk ρ => rw [hg] at hf; cases hf
  | ct ρ => rw [hg] at hf; cases hf
  | ex c fs ρ => rw [hg] at hf; cases hf
  | bad => rw [hg] at hf; cases hf
/-- self.f = e, the next slot -/
def slotS (c : Str) (i : Nat) (g : M D) : SM := sbd g fun d ρ => match look ρ 0 with
  | .ins c' fs => if c' = c ∧ fs.length = i then .nx (ρ.set 0 (.ins c' (fs ++ [d]))) else .bad
  | _ => .bad
theorem putS_next (us : List V) (v : V) : SlX.putS us.length v (us.map some) = (us ++ [v]).map some := by
  unfold SlX.putS
  rw [List.length_map, show us.length + 1 - us.length = 1 by omega]
  show (us.map some ++ [none]).set us.length (some v) = (us ++ [v]).map some
  rw [List.set_append_right _ _ (by simp), List.length_map, Nat.sub_self, List.map_append]
  rfl
theorem Rel.slotted {G : Gam} {ρ : Env} {σ : L2.St} {H B : Hp} (R : Rel K G own ρ σ H B) {x dx : Addr} {c : Str} {us : List V} {fs : List D} {v : V} {d : D} (ho : own[0]? = some .I) (h1 : (own.tail.all fun s => s == .V || s == .U) = true) (e1 : (σ[0]?).join = some (.ref x)) (o : InsOk K H B x dx c us fs) (hp : G.pr x = none ∧ G.pr dx = none) (hm : G.me = some (x, dx, c)) (r1 : G.ref x) (r2 : G.ref dx) (rv : Rep K B v d) :
    Rel K G own (ρ.set 0 (.ins c (fs ++ [d]))) σ (SlX.slH H x (He.ga K c) dx ((us ++ [v]).map some)) B := by
  have hl := R.own_lt ho
  have noOwn : ∀ (i : Nat) (si : Stt), own[i]? = some si → si.own = true → False := fun i si hi oi => by
    cases own with
    | nil => cases hi
    | cons s0 rest =>
      cases i with
      | zero => rw [ho] at hi; cases hi; cases oi
      | succ i =>
        have : si ∈ rest := List.mem_of_getElem? (show rest[i]? = some si from hi)
        have := List.all_eq_true.mp h1 _ this
        cases si with
        | U => cases oi
        | V => cases oi
        | I => cases oi
        | _ => exact absurd this (by decide)
  have off : ∀ b, b ≠ x → b ≠ dx → SlX.slH H x (He.ga K c) dx ((us ++ [v]).map some) b = H b := fun b n1 n2 => SlX.slH_ne n1 n2
  have hx : ∃ q, SlX.slH H x (He.ga K c) dx ((us ++ [v]).map some) x = some q := ⟨_, upd_same⟩
  have hdx : SlX.slH H x (He.ga K c) dx ((us ++ [v]).map some) dx = some (.xd []) := by unfold SlX.slH; rw [upd_ne o.ne, upd_same]
  obtain ⟨⟨qx, px1, px2⟩, qd, pd1, pd2⟩ := o.pl
  have px3 : upd H dx (.xd []) x = some qx := by rw [upd_ne (Ne.symm o.ne)]; exact px1
  have tk2 : TabsK H (SlX.slH H x (He.ga K c) dx ((us ++ [v]).map some)) := (TabsK.put pd1 pd2).trans (TabsK.put px3 px2)
  have tb2 : TabK K (SlX.slH H x (He.ga K c) dx ((us ++ [v]).map some)) B := (R.keep.tab.put pd1 pd2 rfl).put px3 px2 rfl
  refine ⟨⟨fun b q e => ?_, fun b q e => ?_, R.keep.prb, R.keep.b0, fun b q e nb nt => ?_, fun b q e => ?_, R.keep.old, R.keep.prn, R.keep.tk.trans tk2, tb2⟩, by simpa using R.lr, R.ls, fun j st hj => ?_, fun i j si sj a hi hj oi oj ei ej => (noOwn i si hi oi).elim⟩
  · rw [off b (ne_of_none e o.bx) (ne_of_none e o.bd)]; exact R.keep.bh b q e
  · rw [off b (ne_of_none e hp.1) (ne_of_none e hp.2)]; exact R.keep.pr b q e
  · rw [off b (fun z => nb (by rw [z]; exact r1)) (fun z => nb (by rw [z]; exact r2))]; exact R.keep.fr b q e nb nt
  · by_cases z : b = x
    · subst z; exact hx
    · by_cases z2 : b = dx
      · subst z2; exact ⟨_, hdx⟩
      · rw [off b z z2]; exact R.keep.dom b q e
  · rw [look_set (by rw [R.lr]; exact hl)]
    by_cases ej : j = 0
    · subst ej
      rw [if_pos rfl]
      rw [ho] at hj
      cases hj
      exact ⟨x, dx, c, us ++ [v], fs ++ [d], e1, rfl, ⟨SlX.slH_slt o.ne, .inr hdx, o.rs.append (.one rv), o.bx, o.bd, o.ne⟩, hp, hm, r1, r2⟩
    · rw [if_neg ej]
      have := R.slot j st hj
      have hin : st = .V ∨ st = .U := by
        cases own with
        | nil => cases hj
        | cons s0 rest =>
          cases j with
          | zero => exact absurd rfl ej
          | succ j =>
            have : st ∈ rest := List.mem_of_getElem? (show rest[j]? = some st from hj)
            have := List.all_eq_true.mp h1 _ this
            simpa using this
      rcases hin with rfl | rfl
      · exact this
      · trivial
theorem st_slot {C : Ctl} (S : Sx F K mg N vis gl k) {c : Str} {sl : List Str} (Cc : Cl K c sl) (i : Nat) {x y : Str} {e : Expr} {ps' pn pos' : Pos} (h : EX F K C.Z own e g) (hi : sl[i]? = some x := by rfl) (hN : N[0]? = some y := by rfl) (hv : vis[0]? = some true := by rfl) (ho : own[0]? = some .I := by rfl) (h1 : (own.tail.all fun s => s == .V || s == .U) = true := by rfl)
    (hs : ∀ X, F X → swapsWith e (some (.Attribute (.Name y pn) x ps')) pos'.line X.env = pure false := by intro _ _; rfl) : ST F K C own (.Assign [.Attribute (.Name y pn) x ps'] e pos') (slotS c i g) own := by
  obtain ⟨t, p, h⟩ := h
  refine ⟨SlX.sSl K (tVar 0) t x, fun X hX => let ⟨v1, v2, v3⟩ := S.vis X hX 0 y hv hN; atK (S.hK X hX) (fun K => PS X _ (SlX.sSl K (tVar 0) t x)) (SlX.ps_sl (pe_var (by rw [S.hN X hX]; exact hN) v1 v2 v3) (p X hX) (hs X hX)), fun G ρ σ H B R => ?_⟩
  refine SRun.ofE (p2 := fun v H1 E => ∃ z, σ[0]? = some (some z) ∧ ∃ a C dx p vs i, z = .ref a ∧ SlX.Slt H1 a C dx vs ∧ SlX.SCls K C ∧ SlX.Slot1 K C x p i ∧ E.nx σ (SlX.slH H1 a C dx (SlX.putS i v vs))) (h G ρ σ H B R) fun d ρ1 v H1 B1 _ e R1 l E hE => ?_
  obtain ⟨a, dx, c', us, fs, e1, e2, o, hp, hm, r1, r2⟩ := R1.slot 0 .I ho
  rw [e2] at hE
  change SPost K C G own (if c' = c ∧ fs.length = i then .nx (ρ1.set 0 (.ins c' (fs ++ [d]))) else .bad) B1 E at hE
  by_cases hc : c' = c ∧ fs.length = i
  · rw [if_pos hc] at hE
    obtain ⟨rfl, hlen⟩ := hc
    obtain ⟨pd, sp⟩ := Cc.at_ i x hi
    refine ⟨_, join_some e1, a, _, dx, pd, _, i, rfl, o.sl, Cc.s, sp, ?_⟩
    have hul : us.length = i := o.rs.len.trans hlen
    rw [← hul, putS_next]
    exact hE σ _ B1 Ex.rfl (R1.slotted ho h1 e1 o hp hm r1 r2 l)
  · rw [if_neg hc] at hE; exact hE.elim
/-! ### a call of the class -/
/-- what a caller knows of a class -/
structure ClI (P : Program) (w : World) (K : PySem.W.Frag) (mg : Str → Option Value) (base : Heap) (c : Str) (f : Addr) (fd : FuncData) (ps : List Str) (j : Nat) (fi : FI) : Prop where
  ok : FnOk P w K mg base CX0 j f fd ps (spI K c ps.length fi)
  ar : ∀ ds fs, fi ds = some fs → ds.length + 1 = ps.length ∧ fs ≠ []
  mkr : Mk K (He.ga K c) f
  mg : mg c = some (.ref (He.ga K c))
  nf : (flds c).isEmpty = true
def makeD (c : Str) (fi : FI) : List D → Option D := fun ds => (fi ds).map (.ins c)
theorem tab2 {B H : Hp} {x dx : Addr} {c : Str} (bh : Ex B H) (t : TabK K H B) (hx : H x = none) (hd : H dx = none) (hne : dx ≠ x) : TabK K (upd (upd H dx (.own x)) x (.ins (He.ga K c) dx [])) B := by
  have n1 : New K B H B (upd H dx (.own x)) := New.heap (K := K) bh hd
  exact (t.new n1).new (New.heap (K := K) n1.bh (by rw [upd_ne (Ne.symm hne)]; exact hx))
theorem made {B H H' B' : Hp} {x dx : Addr} {c : Str} {us : List V} {fs : List D} (bh : Ex B H) (hx : H x = none) (hd : H dx = none) (e1 : Ex B B') (e2 : Ex B' H') (hne : dx ≠ x) (e3 : Chg2 x dx (upd (upd H dx (.own x)) x (.ins (He.ga K c) dx [])) H') (tb : TabK K H' B') (e4 : ∀ b o, upd (upd H dx (.own x)) x (.ins (He.ga K c) dx []) b = some o → B' b = B b)
    (o : InsOk K H' B' x dx c us fs) (hfs : fs ≠ []) (hc : (flds c).isEmpty = true) : ∃ B2, New K B H B2 H' ∧ Rep K B2 (.ref x) (.ins c fs) := by
  have hus : us ≠ [] := fun z => by
    have := o.rs.len
    rw [z] at this
    exact hfs (List.length_eq_zero_iff.mp this.symm)
  rcases o.sl with ⟨_, z⟩ | ⟨h1, h2⟩
  · exact (hus (by simpa using z)).elim
  · have eB : Ex B' (upd (upd B' dx (.xd [])) x (SlX.SlO x (He.ga K c) dx (us.map some))) := fun b q e => by
      rw [upd_ne (ne_of_none e o.bx), upd_ne (ne_of_none e o.bd)]; exact e
    have keep : ∀ b q, H b = some q → b ≠ x ∧ b ≠ dx := fun b q e => ⟨ne_of_none e hx, ne_of_none e hd⟩
    have hold : ∀ b q, H b = some q → upd (upd H dx (.own x)) x (.ins (He.ga K c) dx []) b = some q := fun b q e => by
      obtain ⟨n1, n2⟩ := keep b q e
      rw [upd_ne n1, upd_ne n2]; exact e
    refine ⟨_, ⟨e1.trans eB, fun b q e nt => ?_, fun b q e => e3.dm b q (hold b q e), fun b q e => ?_, fun b q e => ?_, fun Q ps e => e3.tk Q ps (hold Q _ e), fun _ => tb.th, fun _ => ((tb.grow (a := dx) (o := .xd [])).grow (a := x) (o := SlX.SlO x (He.ga K c) dx (us.map some))).nb⟩, (.sl hc (.inr ⟨upd_same, by rw [upd_ne o.ne, upd_same]⟩) (o.rs.mono eB))⟩
    · obtain ⟨n1, n2⟩ := keep b q e
      exact e3.h b q (hold b q e) n1 n2 nt
    · by_cases z : b = x
      · subst z; rw [upd_same] at e; rw [← e]; exact h1
      · rw [upd_ne z] at e
        by_cases z2 : b = dx
        · subst z2; rw [upd_same] at e; rw [← e]; exact h2
        · rw [upd_ne z2] at e; exact e2 b q e
    · obtain ⟨n1, n2⟩ := keep b q e
      rw [upd_ne n1, upd_ne n2]
      exact e4 b q (hold b q e)
theorem ex_make (A : Fam F P w base) (S : Sx F K mg N vis gl k) (i : Nat) {j : Nat} {fi : FI} {c : Str} {p pos : Pos} {e : Expr} {es : List Expr} {gs : M (List D)} {dvs : List V} {dds : List D} {ds : List Value} (G : ClI P w K mg base c f fd ps j fi) (hb : Binds K fd ps ds) (hd : Vals dvs ds) (hdd : ∀ B, Reps K B dvs dds) (ha : EXs F K Z own (e :: es) gs) (hj : j + 1 ≤ k := by decide)
    (hg : gl[i]? = some c := by rfl) (hs : ∀ X, F X → starEach (e :: es) X.env = (false, eval e X.env) :: starEach es X.env := by intro _ _; rfl) (hs2 : ∀ X, F X → ((backTo pos (starEach es X.env)).any fun q => q.1) = false := by intro _ _; rfl) :
    EX F K Z own (.Call (.Name c p) (e :: es) [] pos) (callD (fun xs => makeD c fi (xs ++ dds)) gs) := by
  obtain ⟨ta, pa, ha⟩ := ha
  refine ⟨tMake (He.ga K c) (spI K c ps.length fi) dvs E0 ta, fun X hX => let ⟨g1, g2, g3⟩ := S.gl X hX i c hg; pe_make (by rw [S.hK X hX]; exact G.mkr) (fnAt A S hX G.ok) ((S.room X hX).mono hj) g1 (by rw [S.hmg X hX]; exact G.mg) (by rw [S.hK X hX]; exact hb) hd (pass0 (X := X)) (pa X hX) g2 (hs X hX) (hs2 X hX), fun G' ρ σ H B R => ?_⟩
  refine Run.thn (p2 := fun vs H1 Q => ∀ x dx, H1 x = none → H1 dx = none → dx ≠ x → spI K c ps.length fi (.ref x :: (vs ++ dvs)) (upd (upd H1 dx (.own x)) x (.ins (He.ga K c) dx [])) (fun v H2 => v = .non ∧ Q (.ref x) H2) E0) (ha G' ρ σ H B R) fun es ρ1 vs H1 B1 _ e R1 l => Run.prim R1 ?_
  show Prim K _ ((fi (es ++ dds)).map (D.ins c)) H1 B1 _
  cases hf : fi (es ++ dds) with
  | none => trivial
  | some fs =>
    intro Q q x dx hx hdx hne
    obtain ⟨ar, hfs⟩ := G.ar _ _ hf
    have l' := l.append (hdd B1)
    refine ⟨B1, x, dx, vs ++ dvs, es ++ dds, fs, by rw [← ar]; simp [← l'.len], rfl, ⟨fun b o e => ?_, tab2 R1.keep.bh R1.keep.tab hx hdx hne⟩, ⟨.inl ⟨upd_same, rfl⟩, .inl (by rw [upd_ne hne, upd_same]), .nil, R1.keep.bh.free hx, R1.keep.bh.free hdx, hne⟩, l', hf, fun H' B' us e1 e2 e3 tb e4 o => ⟨rfl, ?_⟩⟩
    · have h1 := R1.keep.bh b o e
      rw [upd_ne (ne_of_none h1 hx), upd_ne (ne_of_none h1 hdx)]; exact h1
    · obtain ⟨B2, n2, r2⟩ := made R1.keep.bh hx hdx e1 e2 hne e3 tb e4 o hfs G.nf
      exact q _ _ B2 n2 r2
/-- keywords -/
def EK (F : CF) (K : PySem.W.Frag) (Z : XC) (own : List Stt) (es : List Keyword) (g : M (List D)) : Prop :=
  ∃ t, (∀ X, F X → PK X es t) ∧ ∀ G ρ σ H B, Rel K G own ρ σ H B → Run K Z G own (RVs K) (g ρ) σ B (t σ H)
theorem ek_nil : EK F K Z own [] nilD := ⟨_, fun _ _ => pk_nil, fun G ρ σ H B R => Run.now R .nil fun Q q => q⟩
theorem ek_cons {e : Expr} {kws : List Keyword} {nm : Option Str} {kpos : Pos} {gs : M (List D)} (ha : EX F K Z own e g) (hb : EK F K Z own kws gs) : EK F K Z own (⟨nm, e, kpos⟩ :: kws) (consD g gs) := by
  obtain ⟨ta, pa, ha⟩ := ha
  obtain ⟨tb, pb, hb⟩ := hb
  refine ⟨_, fun X hX => pk_cons (pa X hX) (pb X hX), fun G ρ σ H B R => ?_⟩
  exact Run.thn (ha G ρ σ H B R) fun d ρ1 v H1 B1 _ e R1 l => Run.thn (hb G ρ1 σ H1 B1 R1) (p2 := fun xs H2 Q => Q (v :: xs) H2) fun d2 ρ2 v2 H2 B2 _ e2 R2 l2 => Run.now R2 (.cons (l.mono e2) l2) fun Q q => q
def makeK (c : Str) (fi : FI) (gD : List D → List D → List D) (g h : M (List D)) : M D := bnd g fun xs => bnd h fun ys => ofO (makeD c fi (gD xs ys))
theorem ex_makeK (A : Fam F P w base) (S : Sx F K mg N vis gl k) (i : Nat) {j n : Nat} {fi : FI} {c : Str} {ks : List Str} {p pos : Pos} {e : Expr} {es : List Expr} {kws : List Keyword} {gs hs : M (List D)} {gU : List Value → List Value → List Value} {gV : List V → List V → List V} {gD : List D → List D → List D} (G : ClI P w K mg base c f fd ps j fi) (hb : KBn K fd ps (n + 1) ks gU gV)
    (hgV : ∀ x vs zs, vs.length = n → zs.length = ks.length → ∃ ws, gV (x :: vs) zs = x :: ws ∧ ∀ B ds es, Reps K B vs ds → Reps K B zs es → Reps K B ws (gD ds es)) (ha : EXs F K Z own (e :: es) gs) (hk : EK F K Z own kws hs)
    (hn : ∀ ρ ds ρ', gs ρ = .ok ds ρ' → ds.length = n) (hm : ∀ ρ ds ρ', hs ρ = .ok ds ρ' → ds.length = ks.length) (pe : ∀ X, F X → ∀ {t tk : TA}, PA X (e :: es) t → PK X kws tk → PE X (.Call (.Name c p) (e :: es) kws pos) (tMakeN (He.ga K c) n ks.length (spI K c ps.length fi) gV E0 t tk)) :
    EX F K Z own (.Call (.Name c p) (e :: es) kws pos) (makeK c fi gD gs hs) := by
  obtain ⟨ta, pa, ha⟩ := ha
  obtain ⟨tk, pk, hk⟩ := hk
  refine ⟨_, fun X hX => pe X hX (pa X hX) (pk X hX), fun G' ρ σ H B R => ?_⟩
  refine Run.thn (p2 := fun vs H1 Q => tk σ H1 fun zs H2 => vs.length = n ∧ zs.length = ks.length ∧ ∀ x dx, H2 x = none → H2 dx = none → dx ≠ x → spI K c ps.length fi (gV (.ref x :: vs) zs) (upd (upd H2 dx (.own x)) x (.ins (He.ga K c) dx [])) (fun v H3 => v = .non ∧ Q (.ref x) H3) E0) (ha G' ρ σ H B R) fun es ρ1 vs H1 B1 hq1 e R1 l => ?_
  refine Run.thn (p2 := fun zs H2 Q => vs.length = n ∧ zs.length = ks.length ∧ ∀ x dx, H2 x = none → H2 dx = none → dx ≠ x → spI K c ps.length fi (gV (.ref x :: vs) zs) (upd (upd H2 dx (.own x)) x (.ins (He.ga K c) dx [])) (fun v H3 => v = .non ∧ Q (.ref x) H3) E0) (hk G' ρ1 σ H1 B1 R1) fun es2 ρ2 zs H2 B2 hq2 e2 R2 l2 => Run.prim R2 ?_
  show Prim K _ ((fi (gD es es2)).map (D.ins c)) H2 B2 _
  cases hf : fi (gD es es2) with
  | none => trivial
  | some fs =>
    intro Q q
    have hl1 : vs.length = n := l.len.trans (hn _ _ _ hq1)
    have hl2 : zs.length = ks.length := l2.len.trans (hm _ _ _ hq2)
    refine ⟨hl1, hl2, fun x dx hx hdx hne => ?_⟩
    obtain ⟨ar, hfs⟩ := G.ar _ _ hf
    obtain ⟨ws, ew, rw_⟩ := hgV (.ref x) vs zs hl1 hl2
    have l' := rw_ B2 _ _ (l.mono e2) l2
    rw [ew]
    refine ⟨B2, x, dx, ws, gD es es2, fs, by rw [← ar]; simp [← l'.len], rfl, ⟨fun b o e => ?_, tab2 R2.keep.bh R2.keep.tab hx hdx hne⟩, ⟨.inl ⟨upd_same, rfl⟩, .inl (by rw [upd_ne hne, upd_same]), .nil, R2.keep.bh.free hx, R2.keep.bh.free hdx, hne⟩, l', hf, fun H' B' us e1 e2 e3 tb e4 o => ⟨rfl, ?_⟩⟩
    · have h1 := R2.keep.bh b o e
      rw [upd_ne (ne_of_none h1 hx), upd_ne (ne_of_none h1 hdx)]; exact h1
    · obtain ⟨B3, n3, r3⟩ := made R2.keep.bh hx hdx e1 e2 hne e3 tb e4 o hfs G.nf
      exact q _ _ B3 n3 r3
end
end MP
namespace MP
open PySem L2
section
variable {F : CF} {K : PySem.W.Frag} {mg : Str → Option Value} {Z : XC} {own own1 own' : List Stt} {N : List Str} {vis : List Bool} {gl : List Str} {k : Nat} {a b : Expr} {g h : M D} {pos : Pos}
/-! ### tuple(x), list(x) -/
def tupleD : List D → Option D
  | [.tup ds] => some (.tup ds)
  | [.lst ds] => some (.tup ds)
  | _ => none
theorem cd_tuple : CallD K (fun xs H Q => ∃ p ys, xs = [V.ref p] ∧ ((SqL K H p ys ∧ ∀ l, H l = none → Q (V.ref l) (upd H l (.tup ys))) ∨ SqT K H p ys ∧ Q (V.ref p) H)) tupleD := fun vs ds H B bh r => by
  cases r with
  | nil => trivial
  | cons r rs =>
    cases rs with
    | cons _ _ => cases r <;> trivial
    | nil =>
      cases r with
      | tup hq rs hz => exact Prim.now bh (.tup hq rs hz) fun Q q => ⟨_, _, rfl, .inr ⟨seqT bh hq, q⟩⟩
      | lst hq rs hz => exact fun Q q => ⟨_, _, rfl, .inl ⟨bh.seq hq, fun l hl => q _ _ _ (New.alloc (K := K) bh hl) (.tup (.inl (.inl upd_same)) (rs.mono (New.alloc (K := K) bh hl).b) hz)⟩⟩
      | _ => trivial
theorem ex_tuple (S : Sx F K mg N vis gl k) (i : Nat) {p : Pos} (hm : mg "tuple" = none) (ha : EX F K Z own a g) (hg : gl[i]? = some ("tuple" : Str) := by rfl) (hs : ∀ X, F X → starEach [a] X.env = (false, eval a X.env) :: starEach [] X.env := by intro _ _; rfl) :
    EX F K Z own (.Call (.Name "tuple" p) [a] [] pos) (callD tupleD (consD g nilD)) :=
  ex_callTy S i (fun X hX => atK (S.hK X hX) (fun K => CallR X _ fun xs H Q => ∃ p ys, xs = [V.ref p] ∧ ((SqL K H p ys ∧ ∀ l, H l = none → Q (V.ref l) (upd H l (.tup ys))) ∨ SqT K H p ys ∧ Q (V.ref p) H)) call_tuple_of) cd_tuple hm PyProof.Rows.boot_tuple (es_cons ha es_nil hs) hg hs
/-- list(x): a new list -/
def listM (g : M D) : M (List D) := bnd g fun d => ofO (itemsOf d)
theorem el_list (S : Sx F K mg N vis gl k) (i : Nat) {p : Pos} (hm : mg "list" = none) (ha : EX F K Z own a g) (hg : gl[i]? = some ("list" : Str) := by rfl) (hs : ∀ X, F X → starEach [a] X.env = (false, eval a X.env) :: starEach [] X.env := by intro _ _; rfl) :
    EL F K Z own (.Call (.Name "list" p) [a] [] pos) (listM g) := by
  obtain ⟨ta, pa, ha⟩ := ha
  refine ⟨tCB (fun xs H Q => ∃ p ys, xs = [V.ref p] ∧ (SqL K H p ys ∨ SqT K H p ys) ∧ ∀ l, H l = none → Q (V.ref l) (upd H l (.lst ys))) (tCons ta tNil), fun X hX => let ⟨g1, g2, g3⟩ := S.gl X hX i _ hg;
    pe_callTy (atK (S.hK X hX) (fun K => CallR X _ fun xs H Q => ∃ p ys, xs = [V.ref p] ∧ (SqL K H p ys ∨ SqT K H p ys) ∧ ∀ l, H l = none → Q (V.ref l) (upd H l (.lst ys))) call_list_of) g1 (by rw [S.hmg X hX]; exact hm) PyProof.Rows.boot_list (pa_cons (pa X hX) pa_nil (hs X hX)) g3 g2 (hs X hX) rfl, fun G ρ σ H B R => ?_⟩
  refine Run.thn (p2 := fun x H1 Q => ∃ p ys, [x] = [V.ref p] ∧ (SqL K H1 p ys ∨ SqT K H1 p ys) ∧ ∀ l, H1 l = none → Q (V.ref l) (upd H1 l (.lst ys))) (ha G ρ σ H B R) fun d ρ1 v H1 B1 _ e R1 l => ?_
  cases hd : itemsOf d with
  | none => simp only [ofO]; trivial
  | some ds =>
    obtain ⟨p, vs, rfl, hq, rs, hz⟩ := rep_items l hd
    intro Q q
    refine ⟨p, vs, rfl, hq.elim (fun z => .inr (seqT R1.keep.bh z)) (fun z => .inl (R1.keep.bh.seq z)), fun l hl => ?_⟩
    obtain ⟨R2, f2⟩ := R1.fresh hl rs hz
    exact q _ _ B1 Ex.rfl R2 f2
/-! ### all, any, sum -/
def boolsOf : List D → Option (List Bool)
  | [] => some []
  | .bl b :: ds => (boolsOf ds).map (b :: ·)
  | _ => none
theorem reps_bools {B : Hp} : ∀ {vs : List V} {ds : List D} {bs : List Bool}, Reps K B vs ds → boolsOf ds = some bs → vs = bs.map V.bl
  | _, _, _, .nil, h => by cases h; rfl
  | _, _, bs, .cons r t, h => by
    cases r with
    | bl b =>
      rename_i us es
      have h' : (boolsOf es).map (b :: ·) = some bs := h
      cases hb : boolsOf es with
      | none => rw [hb] at h'; cases h'
      | some cs => rw [hb] at h'; cases h'; rw [reps_bools t hb]; rfl
    | _ => cases h
def allD : List D → Option D
  | [.lst ds] => (boolsOf ds).map fun bs => .bl (bs.all id)
  | _ => none
theorem cd_lst1 {r : List V → Hp → VK → Prop} {f : List D → Option D} (h : ∀ {a : Addr} {us : List V} {ds : List D} {H B : Hp}, Ex B H → SqL K B a us → Reps K B us ds → ds.length ≤ sizeLine → Prim K (RV K) (f [.lst ds]) H B (r [.ref a] H)) (hn : ∀ ds, (∀ es, ds ≠ [D.lst es]) → f ds = none) : CallD K r f := fun vs ds H B bh rs => by
  by_cases hd : ∃ es, ds = [D.lst es]
  · obtain ⟨es, rfl⟩ := hd
    cases rs with
    | cons q t =>
      cases t
      cases q with
      | lst hq rs hz => exact h bh hq rs hz
  · rw [hn ds fun es z => hd ⟨es, z⟩]; trivial
theorem cd_all : CallD K (rAll K) allD := cd_lst1 (fun {a us ds H B} bh hq rs hz => by
    show Prim K _ ((boolsOf ds).map fun bs => D.bl (bs.all id)) H B _
    cases hb : boolsOf ds with
    | none => trivial
    | some bs => exact Prim.now bh (.bl _) fun Q q => ⟨a, bs, rfl, by rw [← reps_bools rs hb]; exact bh.seq hq, q⟩) fun ds hd => by
  unfold allD
  split
  · exact (hd _ rfl).elim
  · rfl
theorem ex_all (S : Sx F K mg N vis gl k) (i : Nat) {p : Pos} (hm : mg "all" = none) (ha : EX F K Z own a g) (hg : gl[i]? = some ("all" : Str) := by rfl) (hs : ∀ X, F X → starEach [a] X.env = (false, eval a X.env) :: starEach [] X.env := by intro _ _; rfl) :
    EX F K Z own (.Call (.Name "all" p) [a] [] pos) (callD allD (consD g nilD)) := ex_callB S i (fun X hX => atK (S.hK X hX) (fun K => CallR X _ (rAll K)) (cr_all (S.calm X hX))) cd_all hm PyProof.Rows.boot_all (es_cons ha es_nil hs) hg hs
/-! ### int, isinstance -/
def intD : List D → Option D
  | [.int i] => some (.int i)
  | [.bl b] => some (.int (if b then 1 else 0))
  | _ => none
theorem cd_int : CallD K (fun xs H Q => (∃ i, xs = [V.int i] ∧ Q (V.int i) H) ∨ ∃ k, xs = [V.bl k] ∧ Q (V.int (if k = true then 1 else 0)) H) intD := fun vs ds H B bh r => by
  cases r with
  | nil => trivial
  | cons r rs =>
    cases rs with
    | cons _ _ => cases r <;> trivial
    | nil =>
      cases r with
      | int i => exact Prim.now bh (.int i) fun Q q => .inl ⟨i, rfl, q⟩
      | bl b => exact Prim.now bh (.int _) fun Q q => .inr ⟨b, rfl, q⟩
      | _ => trivial
theorem ex_intc (S : Sx F K mg N vis gl k) (i : Nat) {p : Pos} (hm : mg "int" = none) (ha : EX F K Z own a g) (hg : gl[i]? = some ("int" : Str) := by rfl) (hs : ∀ X, F X → starEach [a] X.env = (false, eval a X.env) :: starEach [] X.env := by intro _ _; rfl) :
    EX F K Z own (.Call (.Name "int" p) [a] [] pos) (callD intD (consD g nilD)) := ex_callTy S i (fun X hX => call_int1) cd_int hm PyProof.Rows.boot_int (es_cons ha es_nil hs) hg hs
def tyName : D → Option String
  | .non => some "NoneType"
  | .bl _ => some "bool"
  | .int _ => some "int"
  | .str _ => some "str"
  | _ => none
def isiD (T : String) (d : D) : Option D := (tyName d).bind fun t => (kitB t T).map .bl
theorem ex_isi (S : Sx F K mg N vis gl k) (i j : Nat) (T : String) {t : Str} {p pt : Pos} (hm : mg "isinstance" = none) (hmT : mg t = none) (hbT : bootBuiltins t = some (.type T)) (ha : EX F K Z own a g) (hg : gl[i]? = some ("isinstance" : Str) := by rfl) (hgT : gl[j]? = some t := by rfl)
    (hs : ∀ X, F X → starEach [a, .Name t pt] X.env = (false, eval a X.env) :: starEach [.Name t pt] X.env := by intro _ _; rfl) (hs3 : ∀ X, F X → starEach [.Name t pt] X.env = (false, eval (.Name t pt) X.env) :: starEach [] X.env := by intro _ _; rfl)
    (hs2 : ∀ X, F X → ((backTo pos (starEach [.Name t pt] X.env)).any fun q => q.1) = false := by intro _ _; rfl) :
    EX F K Z own (.Call (.Name "isinstance" p) [a, .Name t pt] [] pos) (op1 (isiD T) g) := by
  obtain ⟨ta, pa, ha⟩ := ha
  refine ⟨tCB (rIsi K) (tCons ta (tCons (tC (.ty T)) tNil)), fun X hX => let ⟨g1, g2, g3⟩ := S.gl X hX i _ hg; let ⟨t1, t2, t3⟩ := S.gl X hX j _ hgT;
    pe_callB (atK (S.hK X hX) (fun K => CallR X _ (rIsi K)) call_isi) g1 (by rw [S.hmg X hX]; exact hm) PyProof.Rows.boot_isinstance (pa_cons (pa X hX) (pa_cons (pe_bltn (v := .ty T) t1 (by rw [S.hmg X hX]; exact hmT) hbT rfl t3 t2) pa_nil (hs3 X hX)) (hs X hX)) g3 g2 (hs X hX) (hs2 X hX), fun G ρ σ H B R => ?_⟩
  refine Run.thn (p2 := fun x H1 Q => rIsi K [x, .ty T] H1 Q) (ha G ρ σ H B R) fun d ρ1 v H1 B1 _ e R1 l => Run.prim R1 ?_
  have go : ∀ (n : String), tyName d = some n → TyOf K H1 v (.type n) → Prim K (RV K) (isiD T d) H1 B1 (rIsi K [v, .ty T] H1) := fun n hn ty => by
    unfold isiD
    rw [hn]
    show Prim K _ ((kitB n T).map D.bl) H1 B1 _
    cases hk : kitB n T with
    | none => trivial
    | some b => exact Prim.now R1.keep.bh (.bl b) fun Q q => ⟨v, .ty T, .type n, .type T, b, rfl, .ty T, .base ty, kit_ty hk, q⟩
  cases l with
  | non => exact go _ rfl .non
  | bl b => exact go _ rfl (.bl b)
  | int i => exact go _ rfl (.int i)
  | str s h => exact go _ rfl (.str s)
  | _ => trivial
/-! ### tuple(range(..)), list(range(..)) -/
theorem rep_rg {B : Hp} (n : Int) : Reps K B (rgV 0 n) (rangeL 0 n) := by
  unfold rgV rangeL
  generalize List.range (n - 0).toNat = l
  induction l with
  | nil => exact .nil
  | cons x xs ih => exact .cons (.int _) ih
def rgD (d : D) : Option (List D) := match d with
  | .int n => if 0 ≤ n ∧ n ≤ 16000000 then some (rangeL 0 n) else none
  | _ => none
theorem rangeL_len (n : Int) : (rangeL 0 n).length = n.toNat := by unfold rangeL; simp
theorem ex_tupRg (S : Sx F K mg N vis gl k) (i j : Nat) {p q pos2 : Pos} (hm : mg "tuple" = none) (hr : mg "range" = none) (ha : EX F K Z own a g) (hg : gl[i]? = some ("tuple" : Str) := by rfl) (hg2 : gl[j]? = some ("range" : Str) := by rfl)
    (hs : ∀ X, F X → starEach [a] X.env = (false, eval a X.env) :: starEach [] X.env := by intro _ _; rfl) (hs2 : ∀ X, F X → starEach [.Call (.Name "range" q) [a] [] pos2] X.env = (false, eval (.Call (.Name "range" q) [a] [] pos2) X.env) :: starEach [] X.env := by intro _ _; rfl) :
    EX F K Z own (.Call (.Name "tuple" p) [.Call (.Name "range" q) [a] [] pos2] [] pos) (op1 (fun d => (rgD d).map .tup) g) := by
  obtain ⟨ta, pa, ha⟩ := ha
  refine ⟨_, fun X hX => pe_tupRg (S.calm X hX) (S.gl X hX i _ hg).1 (by rw [S.hmg X hX]; exact hm) (prg_1 (S.gl X hX j _ hg2).1 (by rw [S.hmg X hX]; exact hr) (pa X hX) (hs X hX)) (hs2 X hX), fun G ρ σ H B R => ?_⟩
  refine Run.thn (p2 := fun x H1 Q => ∃ n, x = V.int n ∧ (RgOk 0 n ∧ ∀ q, H1 q = none → Q (.ref q) (upd H1 q (.tup (rgV 0 n))))) (ha G ρ σ H B R) fun d ρ1 v H1 B1 _ e R1 l => Run.prim R1 ?_
  cases l with
  | int n =>
    show Prim K _ ((if 0 ≤ n ∧ n ≤ 16000000 then some (rangeL 0 n) else none).map D.tup) H1 B1 _
    split
    · rename_i hn
      exact fun Q q => ⟨n, rfl, ⟨by decide, by decide, by omega, by omega, by omega⟩, fun p hp => q _ _ _ (New.alloc (K := K) R1.keep.bh hp) (.tup (.inl (.inl upd_same)) (rep_rg n) (by rw [rangeL_len, sizeLine_eq]; omega))⟩
    · trivial
  | _ => trivial
/-! ### a list of the frame's own is changed -/
def appS (j : Nat) (g : M D) : SM := sbd g fun d ρ => match look ρ j with
  | .lst rs => if rs.length < 16000000 then .nx (ρ.set j (.lst (rs ++ [d]))) else .bad
  | _ => .bad
theorem Rel.mut {G : Gam} {ρ : Env} {σ : L2.St} {H B : Hp} (R : Rel K G own ρ σ H B) {j : Nat} {st : Stt} {a : Addr} {us : List V} {rs' : List D} (hj : own[j]? = some st) (hs : st.isL = true) (ha : (σ[j]?).join = some (.ref a)) (hb : B a = none) (ru : Reps K B us rs') (hz : rs'.length ≤ sizeLine) : Rel K G own (ρ.set j (.lst rs')) σ (upd H a (.lst us)) B := by
  obtain ⟨a', rs0, ea, er0, us0, h0, _⟩ := R.ownAt hj hs
  rw [ha] at ea
  cases ea
  exact R.changed hj (Stt.isL_own hs) ha Ex.rfl (fun b o e => by rw [upd_ne (ne_of_none e hb)]; exact R.keep.bh b o e)
    ⟨fun b o e ne _ => by rw [upd_ne (fun z => ne (.inl z))]; exact e, fun b o e => (by
      by_cases z : b = a
      · subst z; exact ⟨_, upd_same⟩
      · exact ⟨o, by rw [upd_ne z]; exact e⟩), TabsK.put h0 plain_lst, fun b r => .inl (.inl (Root.lst upd_same r))⟩ (R.keep.tab.put h0 plain_lst rfl) (fun _ _ _ => rfl) (show LstOk K _ B a rs' from ⟨us, upd_same, ru, hz, hb⟩) (fun _ => trivial) (kind_lst hs rs') (.inl ⟨rs0, rs', er0, rfl⟩)
theorem st_append {C : Ctl} (S : Sx F K mg N vis gl k) (j : Nat) {st : Stt} {x : Str} {e : Expr} {px ap cp : Pos} (h : EX F K C.Z own e g) (hN : N[j]? = some x := by rfl) (hv : vis[j]? = some true := by rfl) (ho : own[j]? = some st := by rfl) (hst : st.isL = true := by rfl)
    (h1 : ∀ X, F X → attributeBase (.Name x px) "append" X.env (eval (.Name x px) X.env) = eval (.Name x px) X.env := by intro _ _; rfl)
    (h2 : ∀ X, F X → (((backTo cp (starEach [e] X.env)).all fun x => !x.1) && (backToKw cp (keywordEach [] X.env)).all fun x => x.1.isSome) && decide (([e].length + ([] : List Keyword).length + if ([] : List Keyword).isEmpty = true then 0 else 1) < 30) = true := by intro _ _; rfl) (h3 : (ap.endLine == cp.line) = true := by rfl)
    (hs : ∀ X, F X → starEach [e] X.env = (false, eval e X.env) :: starEach [] X.env := by intro _ _; rfl)
    (hw : ∀ X, F X → swapsWith (.Call (.Attribute (.Name x px) "append" ap) [e] [] cp) none pos.line X.env = pure false := by intro _ _; rfl) : ST F K C own (.Expr (.Call (.Attribute (.Name x px) "append" ap) [e] [] cp) pos) (appS j g) own := by
  obtain ⟨t, p, h⟩ := h
  refine ⟨tDrop (tBM K "list" rAppend (tVar j) (tCons t tNil)), fun X hX => let ⟨v1, v2, v3⟩ := S.vis X hX j x hv hN;
    atK (S.hK X hX) (fun K => PS X _ (tDrop (tBM K "list" rAppend (tVar j) (tCons t tNil)))) (ps_expr (pe_bm PySem.F.plainAttrs_list PySem.F.slot_list_append PySem.F.type_list_append mt_append (pe_var (by rw [S.hN X hX]; exact hN) v1 v2 v3) (pa_cons (p X hX) pa_nil (hs X hX)) (h1 X hX) (h2 X hX) h3 (hs X hX) rfl) (hw X hX)), fun G ρ σ H B R => ?_⟩
  obtain ⟨a, rs0, ea, _, us0, hu0, _⟩ := R.ownAt ho hst
  refine SRun.ofE (p2 := fun v H1 E => rAppend (.ref a) [v] H1 fun _ H2 => E.nx σ H2) (h G ρ σ H B R) (fun d ρ1 v H1 B1 _ e R1 l E hE => ?_) fun E q => ⟨.ref a, join_some ea, .inl ⟨rfl, us0, .inl (.inl hu0)⟩, q⟩
  obtain ⟨a', rs, ea', er, us, hu, ru, hz, hb⟩ := R1.ownAt ho hst
  rw [ea] at ea'
  cases ea'
  rw [er] at hE
  change SPost K C G own (if rs.length < 16000000 then .nx (ρ1.set j (.lst (rs ++ [d]))) else .bad) B1 E at hE
  by_cases hl : rs.length < 16000000
  · rw [if_pos hl] at hE
    refine ⟨a, us, v, rfl, rfl, hu, by rw [ru.len, sizeLine_eq]; omega, ?_⟩
    exact hE σ _ B1 Ex.rfl (R1.mut ho hst ea hb (ru.append (.one l)) (by rw [sizeLine_eq]; simp; omega))
  · rw [if_neg hl] at hE; exact hE.elim
end
end MP
namespace MP
open PySem L2
section
variable {F : CF} {K : PySem.W.Frag} {mg : Str → Option Value} {Z : XC} {own own1 own' : List Stt} {N : List Str} {vis : List Bool} {gl : List Str} {k : Nat} {a b : Expr} {g h : M D} {pos : Pos}
/-- x[i] = e -/
def setIxS (j : Nat) (gi ge : M D) : SM := sbd ge fun d => sbd gi fun i ρ => match look ρ j with
  | .lst rs => (match i with
    | .int z => (match ixN rs.length z with
      | some n => .nx (ρ.set j (.lst (rs.set n d)))
      | none => .bad)
    | _ => .bad)
  | _ => .bad
theorem st_setIx {C : Ctl} (S : Sx F K mg N vis gl k) (j : Nat) {st : Stt} {x : Str} {e i : Expr} {gi : M D} {px sp : Pos} (hi : EX F K C.Z own i gi) (h : EX F K C.Z own e g) (hN : N[j]? = some x := by rfl) (hv : vis[j]? = some true := by rfl) (ho : own[j]? = some st := by rfl) (hst : st.isL = true := by rfl)
    (h1 : ∀ X, F X → ∀ v : Value, assign (.Subscript (.Name x px) i sp) X.env v = (do
      let ov ← holding [v] (eval (.Name x px) X.env)
      let iv ← holding [v, ov] (eval i X.env)
      standAt sp
      holding [v, ov, iv] (setItem ov iv v)
      release [v, ov, iv] []) := by intro _ _ _; rfl)
    (h2 : ∀ X, F X → swapsWithSole [.Subscript (.Name x px) i sp] e pos.line X.env = pure false := by intro _ _; rfl) (h3 : ∀ X, F X → swappedStores [.Subscript (.Name x px) i sp] e X.env = pure none := by intro _ _; rfl)
    (h4 : ∀ X, F X → (assignEach [.Subscript (.Name x px) i sp] X.env).map (·.2) = [assign (.Subscript (.Name x px) i sp) X.env] := by intro _ _; rfl) : ST F K C own (.Assign [.Subscript (.Name x px) i sp] e pos) (setIxS j gi g) own := by
  obtain ⟨t, p, h⟩ := h
  obtain ⟨ti, pi, hi⟩ := hi
  refine ⟨_, fun X hX => let ⟨v1, v2, v3⟩ := S.vis X hX j x hv hN; ps_asg (p X hX) (pg_sub (pe_var (by rw [S.hN X hX]; exact hN) v1 v2 v3) (pi X hX) set_list (h1 X hX)) (h2 X hX) (h3 X hX) (h4 X hX), fun G ρ σ H B R => ?_⟩
  refine SRun.ofE (p2 := fun v H1 E => ∃ z, σ[j]? = some (some z) ∧ ti σ H1 fun i H3 => rSetL z i v H3 fun H4 => E.nx σ H4) (h G ρ σ H B R) fun d ρ1 v H1 B1 _ e R1 l => ?_
  obtain ⟨a, rs0, ea, _⟩ := R1.ownAt ho hst
  refine SRun.ofE (p2 := fun i H3 E => rSetL (.ref a) i v H3 fun H4 => E.nx σ H4) (hi G ρ1 σ H1 B1 R1) (fun d2 ρ2 v2 H2 B2 _ e2 R2 l2 E hE => ?_) fun E q => ⟨.ref a, join_some ea, q⟩
  obtain ⟨a', rs, ea', er, us, hu, ru, hz, hb⟩ := R2.ownAt ho hst
  rw [ea] at ea'
  cases ea'
  rw [er] at hE
  cases l2 with
  | int z =>
    dsimp only at hE
    cases hn : ixN rs.length z with
    | none => rw [hn] at hE; exact hE.elim
    | some n =>
      rw [hn] at hE
      refine ⟨a, us, z, n, rfl, rfl, hu, by rw [ru.len]; exact hn, ?_⟩
      exact hE σ _ B2 Ex.rfl (R2.mut ho hst ea hb (ru.set (l.mono e2) n) (by simpa using hz))
  | _ => exact hE.elim
/-- x == e, x != e, x a list of the frame's own -/
def cmpOwn (f : D → D → Option D) (j : Nat) (h : M D) : M D := bnd h fun d ρ => ofO (f (look ρ j) d) ρ
/-! ### a, b = e1, e2 -/
/-- how an item of the right side stands: a value, a new list -/
def setPar (i j : Nat) (g h : M D) : SM := sbd g fun x => sbd h fun y ρ => .nx ((ρ.set i x).set j y)
theorem st_parVV {C : Ctl} (S : Sx F K mg N vis gl k) {lv : List Bool} (L : Lx F N lv) (i j : Nat) {x y : Str} {px py pt pt2 : Pos} {kt k2 : Nat} (ha : EX F K C.Z own a g) (hb : EX F K C.Z own b h) (hx : ∀ X, F X → X.env.scope.names.lookup x = some .local) (hy : ∀ X, F X → X.env.scope.names.lookup y = some .local) (hNi : N[i]? = some x := by rfl) (hNj : N[j]? = some y := by rfl) (hij : i ≠ j := by decide) (ho : (own.set i .V).set j .V = own' := by rfl)
    (hs1 : ∀ X, F X → starEach [a, b] X.env = (false, eval a X.env) :: starEach [b] X.env := by intro _ _; rfl) (hs2 : ∀ X, F X → starEach [b] X.env = (false, eval b X.env) :: starEach [] X.env := by intro _ _; rfl)
    (hw : ∀ X, F X → swappedStores [.Tuple [.Name x px, .Name y py] kt pt] (.Tuple [a, b] k2 pt2) X.env = pure (some [x, y]) := by intro _ _; rfl) (hw2 : ∀ X, F X → swapsWithSole [.Tuple [.Name x px, .Name y py] kt pt] (.Tuple [a, b] k2 pt2) pos.line X.env = pure false := by intro _ _; rfl) :
    ST F K C own (.Assign [.Tuple [.Name x px, .Name y py] kt pt] (.Tuple [a, b] k2 pt2) pos) (setPar i j g h) own' := by
  obtain ⟨ta, pa, ha⟩ := ha
  obtain ⟨tb, pb, hb⟩ := hb
  subst ho
  refine ⟨_, fun X hX => ps_par (i := i) (j := j) (S.calm X hX) (by rw [S.hN X hX]; exact L.nd) (by rw [S.hN X hX]; exact hNi) (by rw [S.hN X hX]; exact hNj) hij (hx X hX) (hy X hX) (pa_cons (pa X hX) (pa_cons (pb X hX) pa_nil (hs2 X hX)) (hs1 X hX)) (hw X hX) (hw2 X hX), fun G ρ σ H B R => ?_⟩
  refine SRun.ofE (p2 := fun v H1 E => tb σ H1 fun u H2 => ∃ v' w, [v, u] = [v', w] ∧ E.nx ((σ.set i (some v')).set j (some w)) H2) (ha G ρ σ H B R) fun d ρ1 v H1 B1 _ e R1 l => ?_
  refine SRun.ofE (p2 := fun u H2 E => ∃ v' w, [v, u] = [v', w] ∧ E.nx ((σ.set i (some v')).set j (some w)) H2) (hb G ρ1 σ H1 B1 R1) fun d2 ρ2 v2 H2 B2 _ e2 R2 l2 E hE => ?_
  exact ⟨v, v2, rfl, hE _ H2 B2 Ex.rfl ((R2.setV (l.mono e2)).setV l2)⟩
end
end MP
namespace MP
open PySem L2
/-! ### contexts, by checks of the text -/
def isVis (sc : Scope) (x : Str) : Bool := match sc.names.lookup x with
  | some .local => true
  | some .cell => true
  | some .free => true
  | _ => false
def visB (sc : Scope) : List Str → List Bool → Bool
  | x :: N, true :: vs => isVis sc x && !(x == ("__debug__" : Str)) && !(x == ("__classdict__" : Str)) && visB sc N vs
  | _ :: N, false :: vs => visB sc N vs
  | _, _ => true
theorem isVis_ok {sc : Scope} {x : Str} (h : isVis sc x = true) : Vis sc x := by
  unfold isVis at h
  unfold Vis
  split at h <;> simp_all
theorem visB_at {sc : Scope} : ∀ {N : List Str} {vs : List Bool} {i : Nat} {x : Str}, visB sc N vs = true → vs[i]? = some true → N[i]? = some x → Vis sc x ∧ (x == ("__debug__" : Str)) = false ∧ (x == ("__classdict__" : Str)) = false
  | [], _, _, _, _, _, h => by simp at h
  | _ :: _, [], _, _, _, h, _ => by simp at h
  | y :: N, b :: vs, 0, x, h, h1, h2 => by
    simp at h1 h2
    subst h1 h2
    have h' : (isVis sc y && !(y == ("__debug__" : Str)) && !(y == ("__classdict__" : Str)) && visB sc N vs) = true := h
    simp only [Bool.and_eq_true, Bool.not_eq_true'] at h'
    exact ⟨isVis_ok h'.1.1.1, h'.1.1.2, h'.1.2⟩
  | y :: N, b :: vs, i + 1, x, h, h1, h2 => by
    refine visB_at (N := N) (vs := vs) (i := i) ?_ (by simpa using h1) (by simpa using h2)
    cases b with
    | true => have h' : (isVis sc y && !(y == ("__debug__" : Str)) && !(y == ("__classdict__" : Str)) && visB sc N vs) = true := h; exact (Bool.and_eq_true_iff.mp h').2
    | false => exact h
def glB (sc : Scope) (gl : List Str) : Bool := gl.all fun x => decide (sc.names.lookup x = some .globalImplicit) && !(x == ("__debug__" : Str)) && decide (x ≠ "__name__")
def isLoc (sc : Scope) (x : Str) : Bool := match sc.names.lookup x with
  | some .local => true
  | some .cell => true
  | _ => false
def locB (sc : Scope) : List Str → List Bool → Bool
  | x :: N, true :: vs => isLoc sc x && locB sc N vs
  | _ :: N, false :: vs => locB sc N vs
  | _, _ => true
theorem locB_at {sc : Scope} : ∀ {N : List Str} {vs : List Bool} {i : Nat} {x : Str}, locB sc N vs = true → vs[i]? = some true → N[i]? = some x → L2.Loc sc x
  | [], _, _, _, _, _, h => by simp at h
  | _ :: _, [], _, _, _, h, _ => by simp at h
  | y :: N, b :: vs, 0, x, h, h1, h2 => by
    simp at h1 h2
    subst h1 h2
    have h' := (Bool.and_eq_true_iff.mp (show (isLoc sc y && locB sc N vs) = true from h)).1
    unfold isLoc at h'
    unfold L2.Loc
    split at h' <;> simp_all
  | y :: N, b :: vs, i + 1, x, h, h1, h2 => by
    refine locB_at (N := N) (vs := vs) (i := i) ?_ (by simpa using h1) (by simpa using h2)
    cases b with
    | true => exact (Bool.and_eq_true_iff.mp (show (isLoc sc y && locB sc N vs) = true from h)).2
    | false => exact h
section
variable {P : Program} {w : World} {K : PySem.W.Frag} {mg : Str → Option Value} {base : Heap} {N : List Str} {qual : Str} {sc : Scope} {f : Addr} {k : Nat} {vis lv : List Bool} {gl : List Str} {F : CF} {C : Value → Prop}
theorem glB_at {gl : List Str} (h : glB sc gl = true) {i : Nat} {x : Str} (hi : gl[i]? = some x) : sc.names.lookup x = some .globalImplicit ∧ (x == ("__debug__" : Str)) = false ∧ x ≠ "__name__" := by
  have := List.all_eq_true.mp h x (List.mem_of_getElem? hi)
  simp only [Bool.and_eq_true, Bool.not_eq_true', decide_eq_true_eq] at this
  exact ⟨this.1.1, this.1.2, this.2⟩
theorem sx_body (hv : visB sc N vis = true) (hg : glB sc gl = true) : Sx (bodyG C P w K mg base N qual sc f k) K mg N vis gl k where
  hK := fun X ⟨_, _, _, _, _, _, _, e⟩ => by rw [e]; rfl
  hmg := fun X ⟨_, _, _, _, _, _, _, e⟩ => by rw [e]; rfl
  hN := fun X ⟨_, _, _, _, _, _, _, e⟩ => by rw [e]; rfl
  vis := fun X ⟨_, _, _, _, _, _, _, e⟩ i x h1 h2 => by rw [e]; exact visB_at hv h1 h2
  gl := fun X ⟨_, _, _, _, _, _, _, e⟩ i x h => by rw [e]; exact glB_at hg h
  calm := fun X ⟨_, _, _, _, _, _, _, e⟩ => by rw [e]; rfl
  room := fun X ⟨_, _, _, _, _, _, r, e⟩ => by rw [e]; exact r.1
theorem fam_body : Fam (bodyG C P w K mg base N qual sc f k) P w base where
  hP := fun X ⟨_, _, _, _, _, _, _, e⟩ => by rw [e]; rfl
  hw := fun X ⟨_, _, _, _, _, _, _, e⟩ => by rw [e]; rfl
  hb := fun X ⟨_, _, _, _, _, _, _, e⟩ => by rw [e]; rfl
theorem lx_body (hn : N.Nodup) (hl : locB sc N lv = true) : Lx (bodyG C P w K mg base N qual sc f k) N lv where
  nd := hn
  loc := fun X ⟨_, _, _, _, _, _, _, e⟩ i x h1 h2 => by rw [e]; exact ⟨locB_at hl h1 h2, .inl rfl⟩
theorem pass_body : ∀ X, bodyG C P w K mg base N qual sc f k X → PassesOwn (model X.prog X.w) X.A X.env X.xe := fun X ⟨_, _, _, _, _, _, _, e⟩ => by rw [e]; exact PassesOwn.never
theorem loc_body {x : Str} (h : sc.names.lookup x = some .local) : ∀ X, bodyG C P w K mg base N qual sc f k X → X.env.scope.names.lookup x = some .local := fun X ⟨_, _, _, _, _, _, _, e⟩ => by rw [e]; exact h
/-! blocks of comprehensions -/
theorem relabel_at {env : PySem.Env} {x : Str} {kd : NameKind} : ∀ {names : List (Str × NameKind)}, names.lookup x = some kd → (names.map fun (n, k) => if (k == NameKind.free && env.scope.kind == .function && env.kindOf n == some .cell) then (n, NameKind.cell) else (n, k)).lookup x = some kd ∨
    (kd = .free ∧ (names.map fun (n, k) => if (k == NameKind.free && env.scope.kind == .function && env.kindOf n == some .cell) then (n, NameKind.cell) else (n, k)).lookup x = some .cell)
  | [], h => by simp at h
  | (n, k) :: r, h => by
    have ih := @relabel_at env x kd r
    show List.lookup x ((if (k == NameKind.free && env.scope.kind == .function && env.kindOf n == some .cell) = true then (n, NameKind.cell) else (n, k)) :: _) = _ ∨ _ ∧ List.lookup x ((if (k == NameKind.free && env.scope.kind == .function && env.kindOf n == some .cell) = true then (n, NameKind.cell) else (n, k)) :: _) = _
    cases hx : x == n with
    | true =>
      simp only [List.lookup_cons, hx] at h
      cases h
      by_cases hc : (kd == NameKind.free && env.scope.kind == .function && env.kindOf n == some .cell) = true
      · rw [if_pos hc]
        simp only [Bool.and_eq_true] at hc
        exact .inr ⟨eq_of_beq hc.1.1, by simp [List.lookup_cons, hx]⟩
      · rw [if_neg hc]
        exact .inl (by simp [List.lookup_cons, hx])
    | false =>
      simp only [List.lookup_cons, hx] at h
      by_cases hc : (k == NameKind.free && env.scope.kind == .function && env.kindOf n == some .cell) = true
      · rw [if_pos hc]; simp only [List.lookup_cons, hx]; exact ih h
      · rw [if_neg hc]; simp only [List.lookup_cons, hx]; exact ih h
theorem vis_relabel {env : PySem.Env} {x : Str} (h : Vis sc x) : Vis (relabel sc env) x := by
  rcases h with h | h | h
  · rcases relabel_at (env := env) h with q | ⟨q, _⟩
    · exact .inl q
    · cases q
  · rcases relabel_at (env := env) h with q | ⟨q, _⟩
    · exact .inr (.inl q)
    · cases q
  · rcases relabel_at (env := env) h with q | ⟨_, q⟩
    · exact .inr (.inr q)
    · exact .inr (.inl q)
theorem lookup_relabel {env : PySem.Env} {x : Str} {kd : NameKind} (h : sc.names.lookup x = some kd) (hk : kd ≠ .free) : (relabel sc env).names.lookup x = some kd := by
  rcases relabel_at (env := env) h with q | ⟨q, _⟩
  · exact q
  · exact (hk q).elim
theorem sx_blk {N0 : List Bool} {gl0 : List Str} (S : Sx F K mg N N0 gl0 k) (hv : visB sc N vis = true) (hg : glB sc gl = true) : Sx (blkF F sc) K mg N vis gl k where
  hK := fun Y ⟨X, _, _, _, _, _, hX, e⟩ => by rw [e]; exact S.hK X hX
  hmg := fun Y ⟨X, _, _, _, _, _, hX, e⟩ => by rw [e]; exact S.hmg X hX
  hN := fun Y ⟨X, _, _, _, _, _, hX, e⟩ => by rw [e]; exact S.hN X hX
  vis := fun Y ⟨X, _, _, _, _, _, hX, e⟩ i x h1 h2 => by
    rw [e]
    obtain ⟨a, b⟩ := visB_at hv h1 h2
    exact ⟨vis_relabel a, b⟩
  gl := fun Y ⟨X, _, _, _, _, _, hX, e⟩ i x h => by
    rw [e]
    obtain ⟨a, b⟩ := glB_at hg h
    exact ⟨lookup_relabel a (by decide), b⟩
  calm := fun Y ⟨X, _, _, _, _, _, hX, e⟩ => by rw [e]; exact S.calm X hX
  room := fun Y ⟨X, _, _, _, _, _, hX, e⟩ => by rw [e]; exact S.room X hX
theorem fam_blk (A : Fam F P w base) : Fam (blkF F sc) P w base where
  hP := fun Y ⟨X, _, _, _, _, _, hX, e⟩ => by rw [e]; exact A.hP X hX
  hw := fun Y ⟨X, _, _, _, _, _, hX, e⟩ => by rw [e]; exact A.hw X hX
  hb := fun Y ⟨X, _, _, _, _, _, hX, e⟩ => by rw [e]; exact A.hb X hX
def lclB (sc : Scope) : List Str → List Bool → Bool
  | x :: N, true :: vs => (decide (sc.names.lookup x = some .local) || decide (sc.names.lookup x = some .cell)) && lclB sc N vs
  | _ :: N, false :: vs => lclB sc N vs
  | _, _ => true
theorem lclB_at {sc : Scope} : ∀ {N : List Str} {vs : List Bool} {i : Nat} {x : Str}, lclB sc N vs = true → vs[i]? = some true → N[i]? = some x → sc.names.lookup x = some .local ∨ sc.names.lookup x = some .cell
  | [], _, _, _, _, _, h => by simp at h
  | _ :: _, [], _, _, _, h, _ => by simp at h
  | y :: N, b :: vs, 0, x, h, h1, h2 => by
    simp at h1 h2
    subst h1 h2
    exact (Bool.or_eq_true_iff.mp (Bool.and_eq_true_iff.mp (show ((decide (sc.names.lookup y = some .local) || decide (sc.names.lookup y = some .cell)) && lclB sc N vs) = true from h)).1).imp of_decide_eq_true of_decide_eq_true
  | y :: N, b :: vs, i + 1, x, h, h1, h2 => by
    refine lclB_at (N := N) (vs := vs) (i := i) ?_ (by simpa using h1) (by simpa using h2)
    cases b with
    | true => exact (Bool.and_eq_true_iff.mp (show ((decide (sc.names.lookup y = some .local) || decide (sc.names.lookup y = some .cell)) && lclB sc N vs) = true from h)).2
    | false => exact h
theorem lx_blk (hn : N.Nodup) (hl : lclB sc N lv = true) : Lx (blkF F sc) N lv where
  nd := hn
  loc := fun Y ⟨X, _, _, _, _, _, hX, e⟩ i x h1 h2 => by
    rw [e]
    rcases lclB_at hl h1 h2 with z | z
    · have q := lookup_relabel (env := X.env) z (by decide)
      exact ⟨.inl q, .inr q⟩
    · have q := lookup_relabel (env := X.env) z (by decide)
      exact ⟨.inr q, .inl (by show (sc.names.lookup x == some .cell) = true; rw [z]; rfl)⟩
end
end MP
namespace MP
open PySem L2
/-- the scope in which a comprehension stands -/
def Scp (F : CF) (N : List Str) (sc : Scope) : Prop := ∀ X, F X → X.N = N ∧ ∀ scope oc, BlkOk N sc scope oc → BlkOk X.N X.env.scope scope oc
section
variable {P : Program} {w : World} {K : PySem.W.Frag} {mg : Str → Option Value} {base : Heap} {N : List Str} {qual : Str} {sc : Scope} {f : Addr} {k : Nat} {vis lv : List Bool} {gl : List Str} {F : CF} {C : Value → Prop} {Z : XC} {own own1 own' : List Stt}
theorem scp_body : Scp (bodyG C P w K mg base N qual sc f k) N sc := fun X ⟨_, _, _, _, _, _, _, e⟩ => by rw [e]; exact ⟨rfl, fun _ _ h => h⟩
theorem scp_blk {N0 : List Bool} {gl0 : List Str} (S : Sx F K mg N N0 gl0 k) : Scp (blkF F sc) N sc := fun Y ⟨X, _, _, _, _, _, hX, e⟩ => by
  rw [e]
  refine ⟨S.hN X hX, fun scope oc h => ?_⟩
  show BlkOk X.N (relabel sc X.env) scope oc
  rw [S.hN X hX]
  refine ⟨h.kind, h.uniq, h.ix, fun y hy hf => ?_, h.own⟩
  rcases h.free y hy hf with q | q
  · exact .inl (lookup_relabel q (by decide))
  · rcases relabel_at (env := X.env) q with z | ⟨_, z⟩
    · exact .inr z
    · exact .inl z
theorem el_lcB {elt tg iter : Expr} {ifs : List Expr} {scope : Scope} {pos : Pos} {it : M (List D)} {b : Bd} {c : M Bool} {g : M D} (oc : List (Str × Nat)) (vis1 lv1 : List Bool) (gl1 : List Str) (S : Sx F K mg N vis gl k) (A : Fam F P w base) (Q : Scp F N sc) (hnd : N.Nodup) (own1 : List Stt) (hi : IT F K Z own tg iter it)
    (ht : Sx (blkF F scope) K mg N vis1 gl1 k → Lx (blkF F scope) N lv1 → TGd (blkF F scope) K own own1 tg (oc.map (·.2)) b) (hc : Sx (blkF F scope) K mg N vis1 gl1 k → Fam (blkF F scope) P w base → Scp (blkF F scope) N scope → ETs (blkF F scope) K (Z0 own) own1 ifs c)
    (hg : Sx (blkF F scope) K mg N vis1 gl1 k → Fam (blkF F scope) P w base → Scp (blkF F scope) N scope → EX (blkF F scope) K (Z0 own) own1 elt g) (hb : blkC N sc scope oc = true := by decide +kernel) (hv : visB scope N vis1 = true := by decide +kernel) (hgl : glB scope gl1 = true := by decide +kernel) (hl : lclB scope N lv1 = true := by decide +kernel)
    (hu : (oc.map (·.2)).all (fun i => own[i]? == some .U) = true := by decide) (hw : leB own own1 = true := by rfl) (hs : ∀ X, F X → ∀ x, foldedSetIterable iter X.env x = pure x := by intro _ _ _; rfl) : EL F K Z own (.ListComp elt [⟨tg, iter, ifs, 0⟩] scope pos) (lcD b it c g (oc.map (·.2))) := by
  have S1 := sx_blk (sc := scope) S hv hgl
  exact el_lc S hnd (fun X hX => (Q X hX).2 scope oc (blkOk_by hb)) hi (ht S1 (lx_blk hnd hl)) (hc S1 (fam_blk A) (scp_blk S)) (hg S1 (fam_blk A) (scp_blk S)) (fun i hi => eq_of_beq (List.all_eq_true.mp hu i hi)) hw hs
/-! ### tests -/
def EW (F : CF) (K : PySem.W.Frag) (Z : XC) (own : List Stt) (e : Expr) (g : M Bool) : Prop :=
  ∃ t, (∀ X, F X → PW X e t) ∧ ∀ G ρ σ H B, Rel K G own ρ σ H B → Run K Z G own RB (g ρ) σ B (t σ H)
def andB (g h : M Bool) : M Bool := bnd g fun b => if b then h else ret false
def orB (g h : M Bool) : M Bool := bnd g fun b => if b then ret true else h
def notB (g : M Bool) : M Bool := bnd g fun b => ret (!b)
theorem EW.et {e : Expr} {g : M Bool} (h : EW F K Z own e g) : ET F K Z own e g := by
  obtain ⟨t, p, h⟩ := h
  exact ⟨t, fun X hX => (p X hX).pt, h⟩
theorem et_not {a : Expr} {g : M Bool} {pos : Pos} (ha : ET F K Z own a g) : ET F K Z own (.UnaryOp .Not a pos) (notB g) := by
  obtain ⟨ta, pa, ha⟩ := ha
  refine ⟨_, fun X hX => pt_not (pa X hX), fun G ρ σ H B R => ?_⟩
  refine Run.thn (p2 := fun c H1 Q => Q (!c) H1) (ha G ρ σ H B R) fun c ρ1 c' H1 B1 _ e R1 l => ?_
  cases l
  exact Run.now R1 rfl fun Q q => q
theorem ew_and1 {a : Expr} {g : M Bool} {pos : Pos} (ha : ET F K Z own a g) : EW F K Z own (.BoolOp .And [a] pos) g := by
  obtain ⟨ta, pa, ha⟩ := ha
  exact ⟨ta, fun X hX => pw_and1 (pa X hX), ha⟩
theorem ew_or1 {a : Expr} {g : M Bool} {pos : Pos} (ha : ET F K Z own a g) : EW F K Z own (.BoolOp .Or [a] pos) g := by
  obtain ⟨ta, pa, ha⟩ := ha
  exact ⟨ta, fun X hX => pw_or1 (pa X hX), ha⟩
theorem ew_and {a b : Expr} {rest : List Expr} {g h : M Bool} {pos : Pos} (ha : ET F K Z own a g) (hb : EW F K Z own (.BoolOp .And (b :: rest) pos) h) : EW F K Z own (.BoolOp .And (a :: b :: rest) pos) (andB g h) := by
  obtain ⟨ta, pa, ha⟩ := ha
  obtain ⟨tb, pb, hb⟩ := hb
  refine ⟨_, fun X hX => pw_and (pa X hX) (pb X hX), fun G ρ σ H B R => ?_⟩
  refine Run.thn (Rl2 := RB) (p2 := fun c H1 Q => if c = true then tb σ H1 Q else Q false H1) (ha G ρ σ H B R) fun c ρ1 c' H1 B1 _ e R1 l => ?_
  cases l
  cases c with
  | true => exact Run.imp (hb G ρ1 σ H1 B1 R1) fun Q q => by rw [if_pos rfl]; exact q
  | false => exact Run.now R1 rfl fun Q q => by rw [if_neg Bool.false_ne_true]; exact q
theorem ew_or {a b : Expr} {rest : List Expr} {g h : M Bool} {pos : Pos} (ha : ET F K Z own a g) (hb : EW F K Z own (.BoolOp .Or (b :: rest) pos) h) : EW F K Z own (.BoolOp .Or (a :: b :: rest) pos) (orB g h) := by
  obtain ⟨ta, pa, ha⟩ := ha
  obtain ⟨tb, pb, hb⟩ := hb
  refine ⟨_, fun X hX => pw_or (pa X hX) (pb X hX), fun G ρ σ H B R => ?_⟩
  refine Run.thn (Rl2 := RB) (p2 := fun c H1 Q => if c = true then Q true H1 else tb σ H1 Q) (ha G ρ σ H B R) fun c ρ1 c' H1 B1 _ e R1 l => ?_
  cases l
  cases c with
  | true => exact Run.now R1 rfl fun Q q => by rw [if_pos rfl]; exact q
  | false => exact Run.imp (hb G ρ1 σ H1 B1 R1) fun Q q => by rw [if_neg Bool.false_ne_true]; exact q
theorem et_cmp {op : CmpOp} {r : R2} {ff : D → D → Option D} {a b : Expr} {g h : M D} {pos : Pos} (hr : ∀ X, F X → OpR X (compareOp op) r) (hf : OpD K r ff) (hm : behindInMarks op b = false) (ha : EX F K Z own a g) (hb : EX F K Z own b h) : ET F K Z own (.Compare a [op] [b] pos) (asB (op2 ff g h)) := by
  obtain ⟨ta, pa, ha⟩ := ha
  obtain ⟨tb, pb, hb⟩ := hb
  refine ⟨_, fun X hX => pt_cmpR (hr X hX) (pa X hX) (pb X hX) hm, fun G ρ σ H B R => Run.asB (g := op2 ff g h) ?_⟩
  exact Run.thn (ha G ρ σ H B R) fun d ρ1 v H1 B1 _ e R1 l => Run.thn (hb G ρ1 σ H1 B1 R1) fun d2 ρ2 v2 H2 B2 _ e2 R2 l2 => Run.prim R2 (hf v v2 d d2 H2 B2 R2.keep.bh (l.mono e2) l2)
theorem rl_eq (S : Sx F K mg N vis gl k) : ∀ X, F X → OpR X (compareOp .Eq) (rEqD K) := fun X hX => atK (S.hK X hX) (fun K => OpR X _ (rEqD K)) (op_eqD (S.room X hX).units)
theorem rl_ne (S : Sx F K mg N vis gl k) : ∀ X, F X → OpR X (compareOp .NotEq) (rNeD K) := fun X hX => atK (S.hK X hX) (fun K => OpR X _ (rNeD K)) (op_neD (S.room X hX).units)
theorem rl_in (S : Sx F K mg N vis gl k) : ∀ X, F X → OpR X (compareOp .In) (rIn2 K false) := fun X hX => atK (S.hK X hX) (fun K => OpR X _ (rIn2 K false)) (or_in false)
theorem rl_notin (S : Sx F K mg N vis gl k) : ∀ X, F X → OpR X (compareOp .NotIn) (rIn2 K true) := fun X hX => atK (S.hK X hX) (fun K => OpR X _ (rIn2 K true)) (or_in true)
/-! ### constants of the module -/
theorem ex_gint (S : Sx F K mg N vis gl k) (i : Nat) {x : Str} {pos : Pos} {n : Int} (hm : ∃ t, mg x = some (.int n t)) (hg : gl[i]? = some x := by rfl) : EX F K Z own (.Name x pos) (kD (.int n)) := by
  obtain ⟨t, hm⟩ := hm
  exact ex_glob S i hm (v := .int n) ⟨t, rfl⟩ (fun B => .int n) hg
theorem ex_gstr (S : Sx F K mg N vis gl k) (i : Nat) {x : Str} {pos : Pos} {n : Str} (hm : ∃ t, mg x = some (.str n t)) (hn : PyData.strOk n = true := by decide +kernel) (hg : gl[i]? = some x := by rfl) : EX F K Z own (.Name x pos) (kD (.str n)) := by
  obtain ⟨t, hm⟩ := hm
  exact ex_glob S i hm (v := .str n) ⟨t, rfl⟩ (fun B => .str n hn) hg
theorem ex_gref (S : Sx F K mg N vis gl k) (i : Nat) {x : Str} {pos : Pos} {d : D} (hm : ∃ a, mg x = some (.ref a) ∧ ∀ B, Rep K B (.ref a) d) (hg : gl[i]? = some x := by rfl) : EX F K Z own (.Name x pos) (kD d) := by
  obtain ⟨a, hm, hd⟩ := hm
  exact ex_glob S i hm (v := .ref a) rfl hd hg
/-! ### what is known of the defs, the function's data left open -/
end
end MP
namespace MP
open PySem L2
section
variable {F : CF} {K : PySem.W.Frag} {mg : Str → Option Value} {Z : XC} {own own1 own' : List Stt} {N : List Str} {vis lv : List Bool} {gl : List Str} {k : Nat} {a b : Expr} {pos : Pos}
/-! ### a, b = e1, e2: a new list among them -/
/-- a new list stays new while more is reckoned -/
theorem Rel.lockF {G : Gam} {ρ : Env} {σ : L2.St} {H B : Hp} (R : Rel K G own ρ σ H B) {v : V} {ds : List D} (f : Fresh K G own σ H B v ds) : ∃ p us, v = .ref p ∧ G.pr p = none ∧ G.H p = none ∧ Reps K B us ds ∧ ds.length ≤ sizeLine ∧ Rel K (G.lock p (.lst us)) own ρ σ H B := by
  obtain ⟨p, rfl, ⟨us, hp, ru, hz, hb⟩, ⟨g1, g2⟩, hn⟩ := f
  exact ⟨p, us, rfl, g1, g2, ru, hz, R.lock hp hb hn⟩
theorem Rel.unlockF {G : Gam} {ρ : Env} {σ : L2.St} {H B : Hp} {p : Addr} {us : List V} {ds : List D} (R : Rel K (G.lock p (.lst us)) own ρ σ H B) (g1 : G.pr p = none) (g2 : G.H p = none) (ru : Reps K B us ds) (hz : ds.length ≤ sizeLine) : Rel K G own ρ σ H B ∧ Fresh K G own σ H B (.ref p) ds := by
  obtain ⟨R1, hp, hb, hn⟩ := R.unlock g1
  exact ⟨R1, p, rfl, ⟨us, hp, ru, hz, hb⟩, ⟨g1, g2⟩, hn⟩
def setParLL (i j : Nat) (g h : M (List D)) : SM := sbd g fun x => sbd h fun y ρ => .nx ((ρ.set i (.lst x)).set j (.lst y))
def setParVL (i j : Nat) (g : M D) (h : M (List D)) : SM := sbd g fun x => sbd h fun y ρ => .nx ((ρ.set i x).set j (.lst y))
def setParLV (i j : Nat) (g : M (List D)) (h : M D) : SM := sbd g fun x => sbd h fun y ρ => .nx ((ρ.set i (.lst x)).set j y)
theorem st_parVL {C : Ctl} (S : Sx F K mg N vis gl k) (L : Lx F N lv) (i j : Nat) {x y : Str} {g : M D} {h : M (List D)} {px py pt pt2 : Pos} {kt k2 : Nat} (ha : EX F K C.Z own a g) (hb : EL F K C.Z own b h) (hx : ∀ X, F X → X.env.scope.names.lookup x = some .local) (hy : ∀ X, F X → X.env.scope.names.lookup y = some .local) (hNi : N[i]? = some x := by rfl) (hNj : N[j]? = some y := by rfl) (hij : i ≠ j := by decide) (ho : (own.set i .V).set j .L = own' := by rfl)
    (hs1 : ∀ X, F X → starEach [a, b] X.env = (false, eval a X.env) :: starEach [b] X.env := by intro _ _; rfl) (hs2 : ∀ X, F X → starEach [b] X.env = (false, eval b X.env) :: starEach [] X.env := by intro _ _; rfl)
    (hw : ∀ X, F X → swappedStores [.Tuple [.Name x px, .Name y py] kt pt] (.Tuple [a, b] k2 pt2) X.env = pure (some [x, y]) := by intro _ _; rfl) (hw2 : ∀ X, F X → swapsWithSole [.Tuple [.Name x px, .Name y py] kt pt] (.Tuple [a, b] k2 pt2) pos.line X.env = pure false := by intro _ _; rfl) :
    ST F K C own (.Assign [.Tuple [.Name x px, .Name y py] kt pt] (.Tuple [a, b] k2 pt2) pos) (setParVL i j g h) own' := by
  obtain ⟨ta, pa, ha⟩ := ha
  obtain ⟨tb, pb, hb⟩ := hb
  subst ho
  refine ⟨_, fun X hX => ps_par (i := i) (j := j) (S.calm X hX) (by rw [S.hN X hX]; exact L.nd) (by rw [S.hN X hX]; exact hNi) (by rw [S.hN X hX]; exact hNj) hij (hx X hX) (hy X hX) (pa_cons (pa X hX) (pa_cons (pb X hX) pa_nil (hs2 X hX)) (hs1 X hX)) (hw X hX) (hw2 X hX), fun G ρ σ H B R => ?_⟩
  refine SRun.ofE (p2 := fun v H1 E => tb σ H1 fun u H2 => ∃ v' w, [v, u] = [v', w] ∧ E.nx ((σ.set i (some v')).set j (some w)) H2) (ha G ρ σ H B R) fun d ρ1 v H1 B1 _ e R1 l => ?_
  refine SRun.ofE (p2 := fun u H2 E => ∃ v' w, [v, u] = [v', w] ∧ E.nx ((σ.set i (some v')).set j (some w)) H2) (hb G ρ1 σ H1 B1 R1) fun d2 ρ2 v2 H2 B2 _ e2 R2 l2 E hE => ?_
  refine ⟨v, v2, rfl, hE _ H2 B2 Ex.rfl ((R2.setV (l.mono e2)).setL ?_)⟩
  obtain ⟨p, rfl, la, g0, hn⟩ := l2
  refine ⟨p, rfl, la, g0, fun q sq hq oq eq => ?_⟩
  rcases own_set hq with ⟨rfl, rfl, hl⟩ | ⟨hne2, hq⟩
  · cases oq
  · by_cases hl : i < σ.length
    · rw [join_set hl, if_neg hne2] at eq; exact hn q sq hq oq eq
    · rw [List.set_eq_of_length_le (by omega)] at eq; exact hn q sq hq oq eq
/-- x, y = e -/
def unpS (b : Bd) (g : M D) : SM := sbd g fun d ρ => match b d ρ with
  | some ρ' => .nx ρ'
  | none => .bad
theorem st_unp {C : Ctl} {tg e : Expr} {g : M D} {bd : Bd} (vs : List Nat) (h : EX F K C.Z own e g) (ht : TGd F K own own' tg vs bd) (h2 : ∀ X, F X → swapsWithSole [tg] e pos.line X.env = pure false := by intro _ _; rfl) (h3 : ∀ X, F X → swappedStores [tg] e X.env = pure none := by intro _ _; rfl)
    (h4 : ∀ X, F X → (assignEach [tg] X.env).map (·.2) = [assign tg X.env] := by intro _ _; rfl) : ST F K C own (.Assign [tg] e pos) (unpS bd g) own' := by
  obtain ⟨t, p, h⟩ := h
  obtain ⟨gt, pg, ht⟩ := ht
  refine ⟨_, fun X hX => ps_asg (p X hX) (pg X hX) (h2 X hX) (h3 X hX) (h4 X hX), fun G ρ σ H B R => ?_⟩
  refine SRun.ofE (p2 := fun v H1 E => gt v σ H1 E.nx) (h G ρ σ H B R) fun d ρ1 v H1 B1 _ e R1 l E hE => ?_
  have := ht G ρ1 σ H1 B1 v d R1 l
  cases hb : bd d ρ1 with
  | none => rw [hb] at hE; exact hE.elim
  | some ρ2 =>
    rw [hb] at hE this
    exact this _ fun σ' _ R2 => hE σ' H1 B1 Ex.rfl R2
/-! ### zip -/
def zipL : List D → List D → List D
  | a :: as, b :: bs => .tup [a, b] :: zipL as bs
  | _, _ => []
theorem zipL_len : ∀ (a b : List D), (zipL a b).length = min a.length b.length
  | [], b => by simp [zipL]
  | _ :: _, [] => by simp [zipL]
  | _ :: as, _ :: bs => by simp [zipL, zipL_len as bs]
theorem zipL_at : ∀ {as bs : List D} {i : Nat} {a b : D}, as[i]? = some a → bs[i]? = some b → (zipL as bs)[i]? = some (.tup [a, b])
  | [], _, _, _, _, h, _ => by simp at h
  | _ :: _, [], _, _, _, _, h => by simp at h
  | _ :: _, _ :: _, 0, _, _, h1, h2 => by simp at h1 h2; subst h1 h2; rfl
  | _ :: as, _ :: bs, i + 1, _, _, h1, h2 => by simpa [zipL] using zipL_at (as := as) (bs := bs) (i := i) (by simpa using h1) (by simpa using h2)
def zipO : List D → Option (List D)
  | [.lst a, .lst b] => some (zipL a b)
  | [.tup a, .tup b] => some (zipL a b)
  | _ => none
def zipM (g : M (List D)) : M (List D) := bnd g fun ds => ofO (zipO ds)
theorem itz_ok {B : Hp} {a b : Addr} {us vs : List V} {ds es : List D} (h1 : SqT K B a us) (r1 : Reps K B us ds) (hz : ds.length ≤ sizeLine) (h2 : SqT K B b vs) (r2 : Reps K B vs es) : ItOk K B (RZ.ItzT K a b) (zipL ds es) where
  sz := by rw [zipL_len]; omega
  go := fun i H e hi => by
    rw [zipL_len] at hi
    obtain ⟨x, hx, _⟩ := r1.get (List.getElem?_eq_getElem (show i < ds.length by omega))
    obtain ⟨y, hy, _⟩ := r2.get (List.getElem?_eq_getElem (show i < es.length by omega))
    exact ⟨us, vs, x, y, seqT e h1, seqT e h2, hx, hy⟩
  yld := fun i H B1 x H' e e1 hi y => by
    obtain ⟨T, p, q, rfl, hT, rfl, y1, y2⟩ := y
    obtain ⟨d, hd, rd⟩ := r1.getV (y1 us (seqT (e.trans e1) h1))
    obtain ⟨d2, hd2, rd2⟩ := r2.getV (y2 vs (seqT (e.trans e1) h2))
    exact ⟨.tup [d, d2], upd B1 T (.tup [p, q]), zipL_at hd hd2, New.alloc e1 hT, .tup (.inl (.inl upd_same)) (.cons (rd.mono (e.trans (New.alloc (K := K) e1 hT).b)) (.cons (rd2.mono (e.trans (New.alloc (K := K) e1 hT).b)) .nil)) (by show 2 ≤ sizeLine; decide)⟩
  stop := fun i H e hi => by
    rw [zipL_len] at hi
    refine ⟨us, vs, seqT e h1, seqT e h2, ?_⟩
    rw [r1.len, r2.len]
    omega
theorem itzl_ok {B : Hp} {a b : Addr} {us vs : List V} {ds es : List D} (h1 : SqL K B a us) (r1 : Reps K B us ds) (hz : ds.length ≤ sizeLine) (h2 : SqL K B b vs) (r2 : Reps K B vs es) : ItOk K B (Itz K a b) (zipL ds es) where
  sz := by rw [zipL_len]; omega
  go := fun i H e hi => by
    rw [zipL_len] at hi
    obtain ⟨x, hx, _⟩ := r1.get (List.getElem?_eq_getElem (show i < ds.length by omega))
    obtain ⟨y, hy, _⟩ := r2.get (List.getElem?_eq_getElem (show i < es.length by omega))
    exact ⟨us, vs, x, y, e.seq h1, e.seq h2, hx, hy⟩
  yld := fun i H B1 x H' e e1 hi y => by
    obtain ⟨T, p, q, rfl, hT, rfl, y1, y2⟩ := y
    obtain ⟨d, hd, rd⟩ := r1.getV (y1 us ((e.trans e1).seq h1))
    obtain ⟨d2, hd2, rd2⟩ := r2.getV (y2 vs ((e.trans e1).seq h2))
    exact ⟨.tup [d, d2], upd B1 T (.tup [p, q]), zipL_at hd hd2, New.alloc e1 hT, .tup (.inl (.inl upd_same)) (.cons (rd.mono (e.trans (New.alloc (K := K) e1 hT).b)) (.cons (rd2.mono (e.trans (New.alloc (K := K) e1 hT).b)) .nil)) (by show 2 ≤ sizeLine; decide)⟩
  stop := fun i H e hi => by
    rw [zipL_len] at hi
    refine ⟨us, vs, e.seq h1, e.seq h2, ?_⟩
    rw [r1.len, r2.len]
    omega
theorem it_zip (S : Sx F K mg N vis gl k) (i : Nat) {g : M (List D)} {p tpos : Pos} {elts : List Expr} {kk : Nat} (hm : mg "zip" = none) (ha : EXs F K Z own [a, b] g) (hg : gl[i]? = some ("zip" : Str) := by rfl) (hs : ∀ X, F X → starEach [a, b] X.env = (false, eval a X.env) :: starEach [b] X.env := by intro _ _; rfl) (hs2 : ∀ X, F X → (backTo pos (starEach [b] X.env)).any (·.1) = false := by intro _ _; rfl) :
    IT F K Z own (.Tuple elts kk tpos) (.Call (.Name "zip" p) [a, b] [] pos) (zipM g) := by
  obtain ⟨t, pa, h⟩ := ha
  refine ⟨RZ.iZipA K t, fun X hX => atK (S.hK X hX) (fun K => PI X _ _ (RZ.iZipA K t)) (RZ.pi_zipA (S.gl X hX i _ hg).1 (by rw [S.hmg X hX]; exact hm) (pa X hX) (hs X hX) (hs2 X hX)), fun G ρ σ H B R => ?_⟩
  refine Run.thn (p2 := fun vs H1 R => ∃ a b xs ys, vs = [.ref a, .ref b] ∧ ((SqL K H1 a xs ∧ SqL K H1 b ys ∧ R (Itz K a b) H1) ∨ (SqT K H1 a xs ∧ SqT K H1 b ys ∧ R (RZ.ItzT K a b) H1))) (h G ρ σ H B R) fun ds ρ1 vs H1 B1 _ e R1 l => ?_
  cases l with
  | nil => trivial
  | cons r rs =>
    cases rs with
    | nil => cases r <;> trivial
    | cons r2 rs =>
      cases rs with
      | cons _ _ => cases r <;> cases r2 <;> trivial
      | nil =>
        cases r with
        | tup q1 s1 z1 =>
          cases r2 with
          | tup q2 s2 z2 => exact fun Q q => ⟨_, _, _, _, rfl, .inr ⟨seqT R1.keep.bh q1, seqT R1.keep.bh q2, q _ H1 B1 Ex.rfl R1 (itz_ok q1 s1 z1 q2 s2)⟩⟩
          | _ => trivial
        | lst q1 s1 z1 =>
          cases r2 with
          | lst q2 s2 z2 => exact fun Q q => ⟨_, _, _, _, rfl, .inl ⟨R1.keep.bh.seq q1, R1.keep.bh.seq q2, q _ H1 B1 Ex.rfl R1 (itzl_ok q1 s1 z1 q2 s2)⟩⟩
          | _ => trivial
        | _ => cases r2 <;> trivial
end
end MP
namespace MP
open PySem PySem.Spec PyProof.Rows L2
/-! ### a set of ints and texts -/
/-- the set at a holds just the keys l; its table can be walked -/
def MxR (P : Program) (w : World) (h : Heap) (a : Addr) (l : List Key) : Prop :=
  ∃ (o : Obj) (es : Array (Int × Value)) (ep : Nat) (t : SetTable), h.get? a = some o ∧ o.ExactSet ∧ o.data = .set es ep t ∧ ElemsOf (mixKind P w) es.toList ∧
    (∀ k, k ∈ l ↔ ∃ e ∈ es.toList, keyIs k e.2 = true) ∧ l.Nodup ∧ es.size = l.length ∧ l.length < scanBound ∧ t.fits es.size = true ∧ Ris t.place.toList ∧
    (w.params.followText "set-order" = true ∨ t.led = true)
instance decK (k : Key) (l : List Key) : Decidable (k ∈ l) := @List.instDecidableMemOfLawfulBEq _ instBEqOfDecidableEq inferInstance k l
def addK (l : List Key) (k : Key) : List Key := if k ∈ l then l else k :: l
theorem addK_len (l : List Key) (k : Key) : (addK l k).length ≤ l.length + 1 := by
  unfold addK; split
  · omega
  · simp
theorem addK_mem {l : List Key} {k j : Key} : j ∈ addK l k ↔ j ∈ l ∨ j = k := by
  unfold addK; split
  · rename_i h; exact ⟨.inl, fun z => z.elim id fun e => e ▸ h⟩
  · rw [List.mem_cons]; exact Or.comm
section
variable {P : Program} {w : World} {A : Around} {E : Value → Shared → Prop} {s : Shared} {a : Addr} {l : List Key}
theorem MxR.keep {h h' : Heap} (R : MxR P w h a l) (k : ∀ o, h.get? a = some o → h'.get? a = some o) : MxR P w h' a l := by
  obtain ⟨o, es, ep, t, ho, r⟩ := R
  exact ⟨o, es, ep, t, k o ho, r⟩
theorem mx_tail {g : Bool → Sem Unit} (hg : ∀ (b : Bool) (s₁ : Shared) (Q' : Unit → Shared → Prop), Q' () s₁ → wpAny (model P w) A (g b) Q' E s₁)
    {o : Obj} {es : Array (Int × Value)} {ep : Nat} {t : SetTable} (ho : s.heap.get? a = some o) (hex : o.ExactSet) (hd : o.data = .set es ep t)
    {es1 : Array (Int × Value)} {t2 : SetTable} (el : ElemsOf (mixKind P w) es1.toList) (hm : ∀ k, k ∈ l ↔ ∃ e ∈ es1.toList, keyIs k e.2 = true) (nd : l.Nodup) (sz : es1.size = l.length)
    (hb : l.length < scanBound) (hf : t2.fits es1.size = true) (hr : Ris t2.place.toList) (hl : w.params.followText "set-order" = true ∨ t2.led = true) {dm : Bool} {R : Option Bool → Shared → Prop}
    (hR : ∀ h', Heap.SameBut a s.heap h' → MxR P w h' a l → R (some true) { s with heap := h' }) :
    wpAny (model P w) A (do
        storeSet a es1 t2
        if (!dm && t2.tooFull) = true then do
            g (relayAll t2 es1 (SetTable.grown es1.size)).2.2
            storeSet a (relayAll t2 es1 (SetTable.grown es1.size)).1 (relayAll t2 es1 (SetTable.grown es1.size)).2.1
            pure (some true)
          else pure (some true)) R E s := by
  have hb1 : es1.size < scanBound := by omega
  refine wpAny_bind (wpAny_storeSet_of ho hd ?_ (fits_of_scanBound hb1))
  have ho1 := store_at (es' := es1) (t' := t2) ho hd
  have sb := Heap.SameBut.update s.heap a (Obj.putSet es1 t2)
  by_cases c : (!dm && t2.tooFull) = true
  · rw [if_pos c]
    have x1 := relayAll_perm t2 es1 (SetTable.grown es1.size)
    have x2 := relayAll_fits t2 es1 (SetTable.grown es1.size)
    have x3 := relayAll_ris t2 es1 (SetTable.grown es1.size)
    have x4 := relayAll_led t2 es1 (SetTable.grown es1.size)
    generalize relayAll t2 es1 (SetTable.grown es1.size) = Z at x1 x2 x3 x4 ⊢
    obtain ⟨es2, t3, gv⟩ := Z
    dsimp only at x1 x2 x3 x4 ⊢
    have z2 : es2.size = es1.size := by rw [← Array.length_toList, x1.length_eq, Array.length_toList]
    refine wpAny_bind (hg _ _ _ (wpAny_bind (wpAny_storeSet_of ho1 rfl (wpAny_pure (hR _ (sb.trans (Heap.SameBut.update _ a _)) ?_)) (fits_of_scanBound (by omega)))))
    exact ⟨_, es2, _, t3, store_at (es' := es2) (t' := t3) ho1 rfl, hex, rfl, fun e he => el e (x1.mem_iff.mp he),
      fun k => (hm k).trans ⟨fun ⟨e, he, q⟩ => ⟨e, x1.mem_iff.mpr he, q⟩, fun ⟨e, he, q⟩ => ⟨e, x1.mem_iff.mp he, q⟩⟩, nd, z2.trans sz, hb, x2, x3, hl.imp id fun z => x4.trans z⟩
  · rw [if_neg c]
    exact wpAny_pure (hR _ sb ⟨_, es1, _, t2, ho1, hex, rfl, el, hm, nd, sz, hb, hf, hr, hl⟩)
theorem mx_add {k : Key} {v : Value} {Q : Bool → Shared → Prop} (hk : (mixKind P w).is k v = true) (hsc : v.scannable = true) (R : MxR P w s.heap a l) (room : l.length + 1 < scanBound)
    (hQ : ∀ h' b, Heap.SameBut a s.heap h' → MxR P w h' a (addK l k) → Q b { s with heap := h' }) : wpAny (model P w) A (setAddHashed a v ((mixKind P w).hash k)) Q E s := by
  obtain ⟨o, es, ep, t, ho, hex, hd, el, hm, nd, sz, hb, hf, hr, hl⟩ := R
  have hb0 : es.size < scanBound := by omega
  unfold setAddHashed setAddHashedIn
  refine wpAny_holding (wpAny_bind (wpAny_setState_of ho hd hf ?_))
  dsimp only
  rw [byScan_of hsc hb0 el]
  simp only [↓reduceIte]
  unfold setAddByScan
  refine wpAny_bind (wpAny_bind (wpAny_rule (wpAny_bind (wpAny_setScan_of hk ho hd hf el ?_))))
  cases hi : List.findIdx? (fun e => (mixKind P w).is k e.2) es.toList with
  | some j =>
    dsimp only
    obtain ⟨hj, pj, _⟩ := List.findIdx?_eq_some_iff_getElem.mp hi
    have hin : k ∈ l := (hm k).2 ⟨es.toList[j], List.getElem_mem hj, pj⟩
    refine wpAny_pure (wpAny_pure ?_)
    refine hQ s.heap false (Heap.SameBut.refl a s.heap) ?_
    rw [show addK l k = l from if_pos hin]
    exact ⟨o, es, ep, t, ho, hex, hd, el, hm, nd, sz, hb, hf, hr, hl⟩
  | none =>
    dsimp only
    have hout : k ∉ l := fun z => by
      obtain ⟨e, he, q⟩ := (hm k).1 z
      have c := List.findIdx?_eq_none_iff.mp hi e he
      have q' : (mixKind P w).is k e.2 = true := q
      rw [q'] at c; cases c
    have x1 := layNew_perm t es ((mixKind P w).hash k) v
    have x2 := layNew_fits t es ((mixKind P w).hash k) v
    have x3 := layNew_ris t es ((mixKind P w).hash k) v hr
    have x4 := layNew_led t es ((mixKind P w).hash k) v
    generalize layNew t es ((mixKind P w).hash k) v = Z at x1 x2 x3 x4 ⊢
    obtain ⟨es1, t1, dm, gv⟩ := Z
    dsimp only at x1 x2 x3 x4 ⊢
    rw [Array.toList_push] at x1
    have pc : es1.toList.Perm (((mixKind P w).hash k, v) :: es.toList) := x1.trans (List.perm_append_singleton _ _)
    have el1 : ElemsOf (mixKind P w) es1.toList := fun e he => by
      rcases List.mem_cons.mp (pc.mem_iff.mp he) with z | z
      · rw [z]; exact ⟨⟨k, hk, rfl⟩, hsc⟩
      · exact el e z
    have hm1 : ∀ j, j ∈ addK l k ↔ ∃ e ∈ es1.toList, keyIs j e.2 = true := fun j => by
      rw [addK_mem, hm j]
      constructor
      · rintro (⟨e, he, q⟩ | rfl)
        · exact ⟨e, pc.mem_iff.mpr (List.mem_cons_of_mem _ he), q⟩
        · exact ⟨_, pc.mem_iff.mpr List.mem_cons_self, hk⟩
      · rintro ⟨e, he, q⟩
        rcases List.mem_cons.mp (pc.mem_iff.mp he) with z | z
        · rw [z] at q; exact .inr ((mixKind P w).inj v j k q hk)
        · exact .inl ⟨e, z, q⟩
    have nd1 : (addK l k).Nodup := by rw [show addK l k = k :: l from if_neg hout]; exact List.nodup_cons.mpr ⟨hout, nd⟩
    have sz1 : es1.size = (addK l k).length := by
      rw [show addK l k = k :: l from if_neg hout, ← Array.length_toList, pc.length_eq, List.length_cons, Array.length_toList, sz]; rfl
    have hb1 : (addK l k).length < scanBound := Nat.lt_of_le_of_lt (addK_len l k) room
    have hl1 : w.params.followText "set-order" = true ∨ t1.led = true := hl.imp id fun z => x4.trans z
    have hg : ∀ (b : Bool) (s₁ : Shared) (Q' : Unit → Shared → Prop), Q' () s₁ → wpAny (model P w) A (match b with | true => rule "set.scan.the-table-gave-way" | false => pure ()) Q' E s₁ :=
      fun b s₁ Q' q => by cases b <;> first | exact wpAny_pure q | exact wpAny_rule q
    refine wpAny_bind (hg _ _ _ ?_)
    split
    · refine wpAny_bind ?_
      rw [hashByValue_scannable 8 hsc]
      refine wpAny_pure ?_
      refine mx_tail ?_ ho hex hd el1 hm1 nd1 sz1 hb1 ?_ ?_ ?_ ?_
      · intro b s₁ Q' q; cases b <;> first | exact wpAny_pure q | exact wpAny_rule q
      · first | (split <;> first | exact x2 | exact SetTable.fits_plain_off x2) | exact x2
      · first | (split <;> exact x3) | exact x3
      · first | (split <;> exact hl1) | exact hl1
      · intro h' sb r; dsimp only; exact wpAny_pure (hQ h' true sb r)
    · refine wpAny_bind (wpAny_pure ?_)
      simp only [↓reduceIte]
      refine mx_tail ?_ ho hex hd el1 hm1 nd1 sz1 hb1 x2 x3 hl1 ?_
      · intro b s₁ Q' q; cases b <;> first | exact wpAny_pure q | exact wpAny_rule q
      · intro h' sb r; dsimp only; exact wpAny_pure (hQ h' true sb r)
/-- the keys, each once -/
def uniqK (ks : List Key) : List Key := ks.foldl addK []
theorem uniq_step (ks : List Key) (k : Key) : uniqK (ks ++ [k]) = addK (uniqK ks) k := by unfold uniqK; rw [List.foldl_append]; rfl
theorem uniq_len (ks : List Key) : (uniqK ks).length ≤ ks.length := by
  have z : ∀ (ks l : List Key), (ks.foldl addK l).length ≤ l.length + ks.length := by
    intro ks; induction ks with
    | nil => intro l; simp
    | cons k r ih => intro l; have a := ih (addK l k); have b := addK_len l k; simp only [List.foldl_cons, List.length_cons]; omega
  have a := z ks []; simpa [uniqK] using a
theorem uniq_mem {ks : List Key} {j : Key} : j ∈ uniqK ks ↔ j ∈ ks := by
  have z : ∀ (ks l : List Key), j ∈ ks.foldl addK l ↔ j ∈ l ∨ j ∈ ks := by
    intro ks; induction ks with
    | nil => intro l; simp
    | cons k r ih => intro l; rw [List.foldl_cons, ih, addK_mem, List.mem_cons, or_assoc]
  have a := z ks []; simpa [uniqK] using a
theorem loop_mx {I : Addr} {fp wr : List Addr} {G : Array GenState → Array GenState → Prop} {n : Nat} {Pv : Nat → Value → Prop} {St : Nat → Shared → Prop} {R : Result → Shared → Prop}
    (W : WalksS P w A.in1 I fp wr G n Pv St) (S : Addr) (hSf : S ∉ fp) (ks : List Key) (hn : n = ks.length) (hb : ks.length + 1 < scanBound) (hval : ∀ i v, Pv i v → ∃ k, ks[i]? = some k ∧ keyIs k v = true) :
    ∀ (m i : Nat) (s : Shared), n - i = m → i ≤ n → St i s → MxR P w s.heap S (uniqK (ks.take i)) →
      (∀ s', Moved (S :: wr) G s s' → MxR P w s'.heap S (uniqK ks) → R (.ok (.ret .none)) s') → codeAny (model P w) A (.builtin "set.update.loop" ⟨[.ref S, .ref I], []⟩) R s := by
  have hSw : S ∉ wr := fun h => hSf (W.sub _ h)
  have hsub : ∀ b ∈ wr, b ∈ S :: wr := fun b hb => List.mem_cons_of_mem _ hb
  intro m
  induction m with
  | zero =>
    intro i s hm hi hst hS hR
    have e : i = n := by omega
    subst e
    refine codeAny_builtin F.entry_set_update_loop ?_
    rw [Around.under_plainId F.plain_set_update_loop _]
    refine wpAny_bind (m := pyNext (.ref I)) (W.done s _ _ hst fun s' mv => ?_)
    rw [List.take_of_length_le (by omega)] at hS
    exact wpAny_pure (hR s' (mv.mono hsub) (hS.keep fun o e => mv.heap S o hSw e))
  | succ m ih =>
    intro i s hm hi hst hS hR
    have lt : i < n := by omega
    refine codeAny_builtin F.entry_set_update_loop ?_
    rw [Around.under_plainId F.plain_set_update_loop _]
    refine wpAny_bind (m := pyNext (.ref I)) (W.item i s _ _ lt hst fun v s' hP hst' mv => ?_)
    obtain ⟨k, hk, hkv⟩ := hval i v hP
    have hS' := hS.keep (h' := s'.heap) fun o e => mv.heap S o hSw e
    have hsc : v.scannable = true := by rcases keyIs_shape hkv with ⟨i, t, rfl, rfl⟩ | ⟨x, t, rfl, rfl⟩ <;> rfl
    have hlen : (uniqK (ks.take i)).length + 1 < scanBound := by
      have a := uniq_len (ks.take i)
      rw [List.length_take] at a; omega
    refine wpAny_bind (m := holding [v] (setAdd S v)) (wpAny_holding ?_)
    unfold setAdd
    refine wpAny_holding (wpAny_bind ((mixKind P w).pyHash (k := k) hkv ?_))
    refine mx_add (s := { s' with toks := s'.toks + 1 }) hkv hsc hS' hlen fun h' b sb hS2 => ?_
    have e1 : uniqK (ks.take (i + 1)) = addK (uniqK (ks.take i)) k := by rw [List.take_add_one, hk]; exact uniq_step _ _
    rw [← e1] at hS2
    refine wpAny_pure ⟨plainId_quiet F.plain_set_update_loop _, ih (i + 1) _ (by omega) lt (W.frame _ s' _ _ hst' (Nat.le_succ _) fun c hc o e => ?_) hS2 fun s2 mv2 r => ?_⟩
    · rw [sb.2 c (fun h : c = S => hSf (by rw [← h]; exact hc))]; exact e
    · refine hR s2 (Moved.trans W.gtrans ((mv.mono hsub).then_heap (Nat.le_succ _) fun c o hc e => ?_) mv2) r
      rw [sb.2 c (fun h : c = S => hc (by rw [h]; exact List.mem_cons_self))]; exact e
/-- a set just made -/
def setO0 (w : World) : Obj := { cls := .type "set", dict := none, data := .set #[] 0 (.fresh 0 0 (!w.params.followText "set-order")) }
theorem mx_new {h : Heap} {a : Addr} (ho : h.get? a = some (setO0 w)) : MxR P w h a [] := by
  refine ⟨_, #[], 0, _, ho, ⟨rfl, rfl, rfl⟩, rfl, fun e he => by simp at he, fun k => by simp, List.nodup_nil, rfl, by decide, rfl, List.Pairwise.nil, ?_⟩
  show _ ∨ (!w.params.followText "set-order") = true
  cases w.params.followText "set-order"
  · exact .inr rfl
  · exact .inl rfl
theorem call_mx_list {l : Addr} {items : Array Value} (ks : List Key) {Q : Value → Shared → Prop} (hh : A.handled = none) (hl : s.heap.IsList l items)
    (hv : ∀ (i : Nat) (v : Value), items[i]? = some v → ∃ k, ks[i]? = some k ∧ keyIs k v = true) (hn : items.size = ks.length) (hb : ks.length + 1 < scanBound)
    (h : ∀ (h' : Heap) (tk : Nat), MxR P w h' s.heap.objs.size (uniqK ks) → (∀ b o, s.heap.get? b = some o → h'.get? b = some o) → Q (.ref s.heap.objs.size) { s with heap := h', toks := tk }) :
    wpAny (model P w) A (call (.type "set") [.ref l]) Q E s := by
  obtain ⟨c, tl, hmro⟩ := F.called_set.mro
  have hmade := F.called_set.made
  have hsub := F.called_set.sub
  refine wpAny_call (codeAny_of_tree ?_)
  show wpAny _ _ (callAny (.type "set") _) _ _ _
  refine wpAny_pure ⟨Code.quiet_builtin _ (by decide +kernel), codeAny_builtin F.entry_type_call ?_⟩
  rw [Around.under_plain (weight_type_call_type "set" [.ref l] []) rfl]
  have h1 := F.called_set.notType
  have h2 := F.called_set.canCreate
  have hct := F.typeCall_set_1 (.ref l)
  repeat (any_goals (first | assumption | wp_step))
  refine codeAny_mono (code_set_led1 (.ref l) (E := E) (Q₁ := fun x s1 => x = .ref s.heap.objs.size ∧ s1 = { s with heap := s.heap.push (setO0 w) }) ⟨rfl, rfl⟩) fun r s1 hr => ?_
  rcases r with e | (_ | _ | x | _)
  all_goals first | exact hr | exact hr.elim | skip
  obtain ⟨rfl, rfl⟩ := hr
  have hS : (s.heap.push (setO0 w)).get? s.heap.objs.size = some (setO0 w) := Heap.get?_push_size _ rfl
  have hT : Shared.TypeIs { s with heap := s.heap.push (setO0 w) } (.ref s.heap.objs.size) "set" := ⟨_, hS, rfl⟩
  have hli := F.called_set.init.lookup
  have hbi := F.called_set.init.bind (.ref s.heap.objs.size)
  repeat (any_goals (first | assumption | wp_step))
  refine codeAny_mono (codeAny_call_builtin (R := wants (fun r s2 => r = .none ∧ ∃ h' tk, s2 = { s with heap := h', toks := tk } ∧ MxR P w h' s.heap.objs.size (uniqK ks) ∧
      (∀ b o, s.heap.get? b = some o → h'.get? b = some o)) E) F.called_set.init.plain F.entry_set_init (check_set_init_1 hT ?_)) fun r2 s2 hr2 => ?_
  · obtain ⟨⟨oc, od, odt, os⟩, hol, hcl, nl, hdl⟩ := hl
    simp only at hcl hdl
    subst hcl; subst hdl
    have hol' : (s.heap.push (setO0 w)).get? l = some { cls := .type "list", dict := od, data := .seq items nl, slots := os } := Heap.get?_push_of_some _ hol
    have x1 := F.sub_list_set
    have x2 := F.sub_list_frozenset
    have x3 : (Value.type "list" == Value.type "dict") = false := by decide
    have hl1 : (s.heap.push (setO0 w)).IsList l items := ⟨_, hol', rfl, nl, rfl⟩
    unfold Builtin.«set.__init__» noKeywords Builtin.Frozenset.updateFrom
    generalize hPI : pyIter = PI
    wp_walk
    subst hPI
    refine wpAny_pyIter_list hl1 (wpAny_bind (wpAny_runValue ?_))
    have hlS : l < s.heap.objs.size := Heap.lt_size hol
    have hh3 : A.in1.in1.in1.handled = none := by simp [hh]
    have hz : (s.heap.push (setO0 w)).objs.size = s.heap.objs.size + 1 := Heap.size_push ..
    have hne : l ≠ (s.heap.push (setO0 w)).objs.size := by rw [hz]; exact Nat.ne_of_lt (Nat.lt_succ_of_lt hlS)
    have hSf : s.heap.objs.size ∉ [(s.heap.push (setO0 w)).objs.size, l] := by
      rw [hz]; simp only [List.mem_cons, List.not_mem_nil, or_false, not_or]
      exact ⟨Nat.ne_of_lt (Nat.lt_succ_self _), Nat.ne_of_gt hlS⟩
    refine loop_mx ((Walks.list hh3 _ l hne items).toS) s.heap.objs.size hSf ks hn hb hv (items.size - 0) 0 _ (by omega) (Nat.zero_le _) ⟨⟨_, Heap.get?_push_size _ rfl, rfl, rfl⟩, (hl1.push _)⟩ ?hS0 ?hR
    case hS0 => exact mx_new (Heap.get?_push_of_some _ hS)
    case hR =>
      intro s' mv hS'
      obtain ⟨h', g2, d', tk', os'⟩ := s'
      have eg : g2 = s.gens := mv.gens
      have ed : d' = s.drawn := mv.drawn
      have eo : os' = s.os := mv.os
      subst eg; subst ed; subst eo
      show wpAny _ _ _ _ _ _
      refine wpAny_pure ?_
      show wpAny _ _ (PySem.ret Value.none) _ _ _
      refine wpAny_pure ⟨rfl, h', tk', rfl, hS', fun b o e => ?_⟩
      have b0 : b < s.heap.objs.size := Heap.lt_size e
      refine mv.heap b o (fun z => ?_) (Heap.get?_push_of_some _ (Heap.get?_push_of_some _ e))
      rcases List.mem_cons.mp z with z | z
      · exact absurd b0 (by rw [z]; exact Nat.lt_irrefl _)
      · have z := List.mem_singleton.mp z
        exact absurd b0 (by rw [z, hz]; exact Nat.not_lt_of_le (Nat.le_succ _))
  · rcases r2 with e | (_ | _ | x | _)
    all_goals first | exact hr2 | exact hr2.elim | skip
    obtain ⟨rfl, h', tk, rfl, hS', hk'⟩ := hr2
    repeat (any_goals (first | assumption | wp_step))
    exact h _ _ hS' hk'
theorem call_mx_tuple {l : Addr} {items : Array Value} (ks : List Key) {Q : Value → Shared → Prop} (hh : A.handled = none) (hl : s.heap.IsTuple l items)
    (hv : ∀ (i : Nat) (v : Value), items[i]? = some v → ∃ k, ks[i]? = some k ∧ keyIs k v = true) (hn : items.size = ks.length) (hb : ks.length + 1 < scanBound)
    (h : ∀ (h' : Heap) (tk : Nat), MxR P w h' s.heap.objs.size (uniqK ks) → (∀ b o, s.heap.get? b = some o → h'.get? b = some o) → Q (.ref s.heap.objs.size) { s with heap := h', toks := tk }) :
    wpAny (model P w) A (call (.type "set") [.ref l]) Q E s := by
  obtain ⟨c, tl, hmro⟩ := F.called_set.mro
  have hmade := F.called_set.made
  have hsub := F.called_set.sub
  refine wpAny_call (codeAny_of_tree ?_)
  show wpAny _ _ (callAny (.type "set") _) _ _ _
  refine wpAny_pure ⟨Code.quiet_builtin _ (by decide +kernel), codeAny_builtin F.entry_type_call ?_⟩
  rw [Around.under_plain (weight_type_call_type "set" [.ref l] []) rfl]
  have h1 := F.called_set.notType
  have h2 := F.called_set.canCreate
  have hct := F.typeCall_set_1 (.ref l)
  repeat (any_goals (first | assumption | wp_step))
  refine codeAny_mono (code_set_led1 (.ref l) (E := E) (Q₁ := fun x s1 => x = .ref s.heap.objs.size ∧ s1 = { s with heap := s.heap.push (setO0 w) }) ⟨rfl, rfl⟩) fun r s1 hr => ?_
  rcases r with e | (_ | _ | x | _)
  all_goals first | exact hr | exact hr.elim | skip
  obtain ⟨rfl, rfl⟩ := hr
  have hS : (s.heap.push (setO0 w)).get? s.heap.objs.size = some (setO0 w) := Heap.get?_push_size _ rfl
  have hT : Shared.TypeIs { s with heap := s.heap.push (setO0 w) } (.ref s.heap.objs.size) "set" := ⟨_, hS, rfl⟩
  have hli := F.called_set.init.lookup
  have hbi := F.called_set.init.bind (.ref s.heap.objs.size)
  repeat (any_goals (first | assumption | wp_step))
  refine codeAny_mono (codeAny_call_builtin (R := wants (fun r s2 => r = .none ∧ ∃ h' tk, s2 = { s with heap := h', toks := tk } ∧ MxR P w h' s.heap.objs.size (uniqK ks) ∧
      (∀ b o, s.heap.get? b = some o → h'.get? b = some o)) E) F.called_set.init.plain F.entry_set_init (check_set_init_1 hT ?_)) fun r2 s2 hr2 => ?_
  · obtain ⟨⟨oc, od, odt, os⟩, hol, hcl, nl, hdl⟩ := hl
    simp only at hcl hdl
    subst hcl; subst hdl
    have hol' : (s.heap.push (setO0 w)).get? l = some { cls := .type "tuple", dict := od, data := .seq items nl, slots := os } := Heap.get?_push_of_some _ hol
    have x1 := F.sub_tuple_set
    have x2 := F.sub_tuple_frozenset
    have x3 : (Value.type "tuple" == Value.type "dict") = false := by decide
    have hl1 : (s.heap.push (setO0 w)).IsTuple l items := ⟨_, hol', rfl, nl, rfl⟩
    unfold Builtin.«set.__init__» noKeywords Builtin.Frozenset.updateFrom
    generalize hPI : pyIter = PI
    wp_walk
    subst hPI
    refine wpAny_pyIter_tuple hl1 (wpAny_bind (wpAny_runValue ?_))
    have hlS : l < s.heap.objs.size := Heap.lt_size hol
    have hh3 : A.in1.in1.in1.handled = none := by simp [hh]
    have hz : (s.heap.push (setO0 w)).objs.size = s.heap.objs.size + 1 := Heap.size_push ..
    have hne : l ≠ (s.heap.push (setO0 w)).objs.size := by rw [hz]; exact Nat.ne_of_lt (Nat.lt_succ_of_lt hlS)
    have hSf : s.heap.objs.size ∉ [(s.heap.push (setO0 w)).objs.size, l] := by
      rw [hz]; simp only [List.mem_cons, List.not_mem_nil, or_false, not_or]
      exact ⟨Nat.ne_of_lt (Nat.lt_succ_self _), Nat.ne_of_gt hlS⟩
    refine loop_mx ((Walks.tuple hh3 _ l hne items).toS) s.heap.objs.size hSf ks hn hb hv (items.size - 0) 0 _ (by omega) (Nat.zero_le _) ⟨⟨_, Heap.get?_push_size _ rfl, rfl, rfl⟩, (hl1.push _)⟩ ?hS0 ?hR
    case hS0 => exact mx_new (Heap.get?_push_of_some _ hS)
    case hR =>
      intro s' mv hS'
      obtain ⟨h', g2, d', tk', os'⟩ := s'
      have eg : g2 = s.gens := mv.gens
      have ed : d' = s.drawn := mv.drawn
      have eo : os' = s.os := mv.os
      subst eg; subst ed; subst eo
      show wpAny _ _ _ _ _ _
      refine wpAny_pure ?_
      show wpAny _ _ (PySem.ret Value.none) _ _ _
      refine wpAny_pure ⟨rfl, h', tk', rfl, hS', fun b o e => ?_⟩
      have b0 : b < s.heap.objs.size := Heap.lt_size e
      refine mv.heap b o (fun z => ?_) (Heap.get?_push_of_some _ (Heap.get?_push_of_some _ e))
      rcases List.mem_cons.mp z with z | z
      · exact absurd b0 (by rw [z]; exact Nat.lt_irrefl _)
      · have z := List.mem_singleton.mp z
        exact absurd b0 (by rw [z, hz]; exact Nat.not_lt_of_le (Nat.le_succ _))
  · rcases r2 with e | (_ | _ | x | _)
    all_goals first | exact hr2 | exact hr2.elim | skip
    obtain ⟨rfl, h', tk, rfl, hS', hk'⟩ := hr2
    repeat (any_goals (first | assumption | wp_step))
    exact h _ _ hS' hk'
end
end MP
namespace MP
open PySem PySem.Spec PyProof.Rows L2
/-! ### the keys of a set's entries -/
def AllK : List Key → List Value → Prop
  | [], [] => True
  | k :: ks, v :: vs => keyIs k v = true ∧ AllK ks vs
  | _, _ => False
theorem AllK.len : ∀ {ks : List Key} {vs : List Value}, AllK ks vs → ks.length = vs.length
  | [], [], _ => rfl
  | _ :: _, _ :: _, h => congrArg (· + 1) (AllK.len h.2)
theorem allK_of : ∀ (vs : List Value), (∀ v ∈ vs, ∃ k, keyIs k v = true) → ∃ ks, AllK ks vs
  | [], _ => ⟨[], trivial⟩
  | v :: vs, h => by
    obtain ⟨k, hk⟩ := h v List.mem_cons_self
    obtain ⟨ks, r⟩ := allK_of vs fun u hu => h u (List.mem_cons_of_mem _ hu)
    exact ⟨k :: ks, hk, r⟩
theorem AllK.find : ∀ {ks : List Key} {vs : List Value}, AllK ks vs → ∀ v ∈ vs, ∃ k ∈ ks, keyIs k v = true
  | [], [], _, _, hu => nomatch hu
  | k :: ks, v :: vs, h, u, hu => by
    rcases List.mem_cons.mp hu with rfl | hu
    · exact ⟨k, List.mem_cons_self, h.1⟩
    · obtain ⟨j, hj, q⟩ := AllK.find h.2 u hu
      exact ⟨j, List.mem_cons_of_mem _ hj, q⟩
theorem AllK.perm {vs ws : List Value} (p : vs.Perm ws) : ∀ {ks : List Key}, AllK ks vs → ∃ js, AllK js ws ∧ js.Perm ks := by
  induction p with
  | nil => intro ks h; exact ⟨ks, h, .refl _⟩
  | cons v p ih =>
    intro ks h
    cases ks with
    | nil => exact h.elim
    | cons k ks =>
      obtain ⟨js, a, b⟩ := ih h.2
      exact ⟨k :: js, ⟨h.1, a⟩, b.cons k⟩
  | swap v w l =>
    intro ks h
    match ks, h with
    | k :: j :: ks, h => exact ⟨j :: k :: ks, ⟨h.2.1, h.1, h.2.2⟩, .swap ..⟩
    | [_], h => exact h.2.elim
    | [], h => exact h.elim
  | trans p q i1 i2 =>
    intro ks h
    obtain ⟨js, a, b⟩ := i1 h
    obtain ⟨is, c, d⟩ := i2 a
    exact ⟨is, c, d.trans b⟩
theorem perm_of_sub {α : Type} : ∀ {l ks : List α}, l.Nodup → (∀ x ∈ l, x ∈ ks) → ks.length ≤ l.length → ks.Perm l
  | [], ks, _, _, hl => by
    cases ks with
    | nil => exact .refl _
    | cons _ _ => simp at hl
  | x :: l, ks, nd, sub, hl => by
    obtain ⟨n1, n2⟩ := List.nodup_cons.mp nd
    obtain ⟨a, b, rfl⟩ := List.append_of_mem (sub x List.mem_cons_self)
    have q : (a ++ b).Perm l := perm_of_sub n2 (fun y hy => by
      have z := sub y (List.mem_cons_of_mem _ hy)
      have ne : y ≠ x := fun e => n1 (e ▸ hy)
      rcases List.mem_append.mp z with z | z
      · exact List.mem_append_left _ z
      · rcases List.mem_cons.mp z with z | z
        · exact absurd z ne
        · exact List.mem_append_right _ z) (by simp at hl ⊢; omega)
    exact List.perm_middle.trans (q.cons x)
section
variable {P : Program} {w : World} {A : Around} {E : Value → Shared → Prop} {s : Shared} {a : Addr} {l : List Key}
theorem mx_vals {es : Array (Int × Value)} (el : ElemsOf (mixKind P w) es.toList) (hm : ∀ k, k ∈ l ↔ ∃ e ∈ es.toList, keyIs k e.2 = true) (nd : l.Nodup) (sz : es.size = l.length) {vs : List Value} (p : vs.Perm (es.toList.map (·.2))) :
    ∃ ks, AllK ks vs ∧ ks.Perm l := by
  obtain ⟨ks, h⟩ := allK_of (es.toList.map (·.2)) fun v hv => by
    obtain ⟨e, he, rfl⟩ := List.mem_map.mp hv
    obtain ⟨⟨k, hk, _⟩, _⟩ := el e he
    exact ⟨k, hk⟩
  have hl : ks.length = l.length := by rw [h.len, List.length_map, Array.length_toList, sz]
  have q : ks.Perm l := perm_of_sub nd (fun k hk => by
    obtain ⟨e, he, z⟩ := (hm k).1 hk
    obtain ⟨j, hj, y⟩ := h.find e.2 (List.mem_map_of_mem he)
    rw [(mixKind P w).inj e.2 k j z y]; exact hj) (by omega)
  obtain ⟨js, x, y⟩ := h.perm p.symm
  exact ⟨js, x, y.trans q⟩
theorem allK_strs : ∀ {ks : List Key} {vs : List Value}, AllK ks vs → (∀ k ∈ ks, ∃ z, k = Sum.inr z) → ∃ zs : List Str, ks = zs.map Sum.inr ∧ StrsAre vs zs
  | [], [], _, _ => ⟨[], rfl, .nil⟩
  | k :: ks, v :: vs, h, hk => by
    obtain ⟨z, rfl⟩ := hk k List.mem_cons_self
    obtain ⟨zs, rfl, r⟩ := allK_strs h.2 fun j hj => hk j (List.mem_cons_of_mem _ hj)
    obtain ⟨t, rfl⟩ := Value.isStrOf_shape (x := z) (v := v) h.1
    exact ⟨z :: zs, rfl, .cons z t r⟩
theorem allK_ints : ∀ {ks : List Key} {vs : List Value}, AllK ks vs → (∀ k ∈ ks, ∃ z, k = Sum.inl z) → ∃ zs : List Int, ks = zs.map Sum.inl ∧ IntsAre vs zs
  | [], [], _, _ => ⟨[], rfl, .nil⟩
  | k :: ks, v :: vs, h, hk => by
    obtain ⟨z, rfl⟩ := hk k List.mem_cons_self
    obtain ⟨zs, rfl, r⟩ := allK_ints h.2 fun j hj => hk j (List.mem_cons_of_mem _ hj)
    rcases keyIs_shape h.1 with ⟨i, t, e, rfl⟩ | ⟨x, t, e, rfl⟩
    · cases e; exact ⟨z :: zs, rfl, .cons z t r⟩
    · cases e
/-! ### rows put in order -/
def leS (x y : Str) : Bool := !decide (y.cps.toList < x.cps.toList)
def sortS (zs : List Str) : List Str := zs.mergeSort leS
def sortI (zs : List Int) : List Int := zs.mergeSort fun x y => decide (x ≤ y)
theorem leS_trans (x y z : Str) (h1 : leS x y = true) (h2 : leS y z = true) : leS x z = true := by
  simp only [leS, Bool.not_eq_true', decide_eq_false_iff_not] at *
  exact fun h => h2 (Std.lt_of_lt_of_le h (Std.not_lt.mp h1))
theorem leS_total (x y : Str) : (leS x y || leS y x) = true := by
  simp only [leS, Bool.or_eq_true, Bool.not_eq_true', decide_eq_false_iff_not]
  by_cases h : y.cps.toList < x.cps.toList
  · exact .inr fun q => absurd (Std.lt_trans h q) Std.lt_irrefl
  · exact .inl h
theorem leS_anti {x y : Str} (h1 : leS x y = true) (h2 : leS y x = true) : x = y := by
  simp only [leS, Bool.not_eq_true', decide_eq_false_iff_not] at *
  have e : x.cps.toList = y.cps.toList := Std.le_antisymm (Std.not_lt.mp h1) (Std.not_lt.mp h2)
  obtain ⟨⟨x⟩⟩ := x; obtain ⟨⟨y⟩⟩ := y
  simp at e; rw [e]
theorem rising_pw : ∀ {zs : List Str} {p : Str}, risingS p zs = true → (p :: zs).Pairwise (fun x y => leS x y = true)
  | [], _, _ => List.pairwise_singleton _ _
  | x :: r, p, h => by
    have h' : (!ltCps x.cps.toList p.cps.toList && risingS x r) = true := h
    rw [Bool.and_eq_true, ltCps_eq] at h'
    have ih := rising_pw h'.2
    have px : leS p x = true := h'.1
    refine List.pairwise_cons.mpr ⟨fun y hy => ?_, ih⟩
    rcases List.mem_cons.mp hy with rfl | hy
    · exact px
    · exact leS_trans _ _ _ px ((List.pairwise_cons.mp ih).1 y hy)
theorem sortS_eq {ys zs : List Str} (p : ys.Perm zs) (h : sortedS ys = true) : ys = sortS zs := by
  have h1 : ys.Pairwise (fun x y => leS x y = true) := by
    cases ys with
    | nil => exact .nil
    | cons y r => exact rising_pw h
  exact List.Perm.eq_of_pairwise (le := fun x y => leS x y = true) (fun a b _ _ => leS_anti) h1 (List.pairwise_mergeSort leS_trans leS_total zs) (p.trans (List.mergeSort_perm zs leS).symm)
theorem sortI_eq {ys zs : List Int} (p : ys.Perm zs) (h : ys.Pairwise (· ≤ ·)) : ys = sortI zs :=
  List.Perm.eq_of_pairwise (le := fun x y => decide (x ≤ y) = true) (fun a b _ _ x y => by have := of_decide_eq_true x; have := of_decide_eq_true y; omega) (h.imp fun q => decide_eq_true q)
    (List.pairwise_mergeSort (fun a b c x y => by have := of_decide_eq_true x; have := of_decide_eq_true y; exact decide_eq_true (by omega)) (fun a b => by by_cases z : a ≤ b <;> simp [z]; omega) zs) (p.trans (List.mergeSort_perm zs _).symm)
end
end MP
namespace MP
open PySem PySem.Spec PyProof.Rows L2
def MxO (P : Program) (w : World) (a : Addr) (l : List Key) : HO := .ext fun h => MxR P w h a l
theorem mxO_new {P : Program} {w : World} {H : Hp} {h : Heap} {a : Addr} {l : List Key} (R : MxR P w h a l) : ObjOk P w H h a (MxO P w a l) := by
  have ⟨o, _, _, _, ho, _⟩ := R
  exact ⟨R, ⟨o, ho⟩, fun h1 h2 p k => p.keep k⟩
theorem relV_key {k : Key} {u : Value} (r : RelV (kV k) u) : keyIs k u = true := by
  cases k with
  | inl i => obtain ⟨t, rfl⟩ := r; show ((i == i) = true); simp
  | inr x => obtain ⟨t, rfl⟩ := r; show Value.isStrOf x (.str x t) = true; simp [Value.isStrOf]
theorem vals_keys : ∀ {ks : List Key} {us : List Value}, Vals (ks.map kV) us → ∀ (i : Nat) (v : Value), us[i]? = some v → ∃ k, ks[i]? = some k ∧ keyIs k v = true
  | [], _, .nil, i, v, h => by simp at h
  | k :: ks, _, .cons r t, 0, v, h => by simp at h; subst h; exact ⟨k, rfl, relV_key r⟩
  | k :: ks, _, .cons r t, i + 1, v, h => by
    obtain ⟨j, a, b⟩ := vals_keys t i v (by simpa using h)
    exact ⟨j, by simpa using a, b⟩
section
variable {X : Cx}
theorem mxO_get {pins : List (Addr × Obj)} {σ : L2.St} {H : Hp} {s : Shared} {a : Addr} {l : List Key} (I : Inv X pins σ H s) (ha : H a = some (MxO X.prog X.w a l)) : MxR X.prog X.w s.heap a l := (I.hok a _ ha).1
/-- set(xs), ints and texts -/
def rSetM (K : PySem.W.Frag) (P : Program) (w : World) : List V → Hp → VK → Prop := fun xs H Q => ∃ (l : Addr) (ks : List Key), xs = [V.ref l] ∧ (SqL K H l (ks.map kV) ∨ SqT K H l (ks.map kV)) ∧ ks.length < 4000 ∧
  ∀ a, H a = none → Q (.ref a) (upd H a (MxO P w a (uniqK ks)))
theorem cr_setM (hc : X.calm = true) : CallR X (.type "set") (rSetM X.K X.prog X.w) := by
  intro pins s σ H xs us Q I r h
  obtain ⟨l, ks, rfl, hl, hf, q⟩ := h
  rw [Vals.ref1 r]
  have hn : H s.heap.objs.size = none := I.hok.fresh (Nat.le_refl _)
  have hb : ks.length + 1 < scanBound := by unfold scanBound; omega
  have fin : ∀ (h' : Heap) (tk : Nat), MxR X.prog X.w h' s.heap.objs.size (uniqK ks) → (∀ b o, s.heap.get? b = some o → h'.get? b = some o) → ∃ (v : V) (H' : Hp), Inv X pins σ H' { s with heap := h', toks := tk } ∧ RelV v (.ref s.heap.objs.size) ∧ Q v H' := fun h' tk R k =>
    ⟨.ref s.heap.objs.size, upd H s.heap.objs.size (MxO X.prog X.w s.heap.objs.size (uniqK ks)), I.laid (t' := tk) k (Nat.le_refl _) (mxO_new R), rfl, q _ hn⟩
  rcases hl with hl | hl
  · obtain ⟨its, rv, pl, hz⟩ := I.list hl
    refine call_mx_list ks (I.ok.hd hc) pl.isList (fun i v e => vals_keys rv i v (by simpa using e)) ?_ hb fin
    have e := rv.length
    rw [List.length_map] at e
    simpa using e.symm
  · obtain ⟨its, rv, pl, hz⟩ := I.tuple hl
    refine call_mx_tuple ks (I.ok.hd hc) pl (fun i v e => vals_keys rv i v (by simpa using e)) ?_ hb fin
    have e := rv.length
    rw [List.length_map] at e
    simpa using e.symm
def rLenM (P : Program) (w : World) : List V → Hp → VK → Prop := fun xs H Q => ∃ (a : Addr) (l : List Key), xs = [V.ref a] ∧ H a = some (MxO P w a l) ∧ Q (.int l.length) H
theorem cr_lenM : CallR X (.builtin "len") (rLenM X.prog X.w) := by
  intro pins s σ H xs us Q I r h
  obtain ⟨a, l, rfl, ha, q⟩ := h
  rw [Vals.ref1 r]
  obtain ⟨o, es, ep, t, ho, hex, hd, el, hm, nd, sz, hb, hf, hr, hl⟩ := mxO_get I ha
  refine call_len_set ho hex hd hf ?_ ⟨.int l.length, H, I.tok _, ⟨_, by rw [sz]⟩, q⟩
  have : es.size < 4096 := by rw [sz]; exact hb
  omega
theorem ints_vals : ∀ {us : List Value} {zs : List Int}, IntsAre us zs → Vals (zs.map V.int) us
  | _, _, .nil => .nil
  | _, _, .cons n t r => .cons ⟨t, rfl⟩ (ints_vals r)
def rSortM (P : Program) (w : World) : List V → Hp → VK → Prop := fun xs H Q => ∃ (a : Addr) (l : List Key), xs = [V.ref a] ∧ H a = some (MxO P w a l) ∧ l.length < 64 ∧
  ((∃ zs : List Str, l = zs.map Sum.inr ∧ ∀ p, H p = none → Q (.ref p) (upd H p (.lst ((sortS zs).map V.str)))) ∨ (∃ zs : List Int, l = zs.map Sum.inl ∧ ∀ p, H p = none → Q (.ref p) (upd H p (.lst ((sortI zs).map V.int)))))
theorem perm_inr {ks : List Key} {zs : List Str} (p : ks.Perm (zs.map Sum.inr)) {ys : List Str} (e : ks = ys.map Sum.inr) : ys.Perm zs := by
  subst e
  have q := p.filterMap Sum.getRight?
  rw [List.filterMap_map, List.filterMap_map] at q
  have e : ∀ l : List Str, l.filterMap (Sum.getRight? ∘ (Sum.inr : Str → Key)) = l := fun l => by induction l with
    | nil => rfl
    | cons x l ih => show x :: _ = _; rw [ih]
  rwa [e, e] at q
theorem perm_inl {ks : List Key} {zs : List Int} (p : ks.Perm (zs.map Sum.inl)) {ys : List Int} (e : ks = ys.map Sum.inl) : ys.Perm zs := by
  subst e
  have q := p.filterMap Sum.getLeft?
  rw [List.filterMap_map, List.filterMap_map] at q
  have e : ∀ l : List Int, l.filterMap (Sum.getLeft? ∘ (Sum.inl : Int → Key)) = l := fun l => by induction l with
    | nil => rfl
    | cons x l ih => show x :: _ = _; rw [ih]
  rwa [e, e] at q
theorem cr_sortM (hc : X.calm = true) : CallR X (.builtin "sorted") (rSortM X.prog X.w) := by
  intro pins s σ H xs us Q I r h
  obtain ⟨a, l, rfl, ha, h64, q⟩ := h
  rw [Vals.ref1 r]
  obtain ⟨o, es, ep, t, ho, hex, hd, el, hm, nd, sz, hb, hf, hr, hl⟩ := mxO_get I ha
  refine Calls.call_function_entry kind_sorted plain_sorted entry_sorted (args_sorted1 _) ?_
  unfold Builtin.«sorted»
  refine wpAny_bind (m := checkCount "sorted" 1 1 _) (wpAny_pure ?_)
  refine wpAny_bind (collect_set (A := X.A.in1) (I.ok.hd hc) ⟨o, ho, hex.1, hd⟩ hf (by rw [sz]; exact hb) hr hl fun s1 vs k1 hz g1 o1 pm => ?_)
  obtain ⟨ks, hK, pK⟩ := mx_vals el hm nd sz pm
  have hvl : vs.length = l.length := by rw [← hK.len, pK.length_eq]
  refine wpAny_bind (wpAny_newList ?_ (by rw [hvl, sizeLine_eq]; omega))
  have hoL : (s1.heap.push (seqObj "list" vs.toArray 0)).get? s1.heap.objs.size = some (seqObj "list" vs.toArray 0) := Heap.get?_push_size _ rfl
  have old : ∀ (out : Array Value) b u, s.heap.get? b = some u → (sortedHeap (s1.heap.push (seqObj "list" vs.toArray 0)) s1.heap.objs.size vs out).get? b = some u := fun out b u e => by
    have q := k1 b u e
    have hlt := Heap.lt_size q
    rw [sortedHeap_old (Nat.ne_of_lt hlt) (by rw [size_push']; exact Nat.lt_succ_of_lt hlt)]
    exact Heap.get?_push_of_some _ q
  have hn : H s1.heap.objs.size = none := I.hok.fresh hz
  have fin : ∀ (ys : List V) (out : Array Value), ys.length = l.length → Vals ys out.toList → (∀ p, H p = none → Q (.ref p) (upd H p (.lst ys))) →
      ∃ (v : V) (H' : Hp), Inv X pins σ H' { s1 with heap := sortedHeap (s1.heap.push (seqObj "list" vs.toArray 0)) s1.heap.objs.size vs out } ∧ RelV v (.ref s1.heap.objs.size) ∧ Q v H' := fun ys out hy rv q => by
    obtain ⟨c, hc'⟩ := sortedHeap_at (vs := vs) (out := out) hoL
    have J : Inv X pins σ (upd H s1.heap.objs.size (.lst ys)) { s with heap := sortedHeap (s1.heap.push (seqObj "list" vs.toArray 0)) s1.heap.objs.size vs out, gens := s1.gens, drawn := s1.drawn, toks := s1.toks } :=
      I.call (ch := []) (Un.laid (old out) hz hn) (I.hok.laid (old out) hz ⟨by rw [hy, sizeLine_eq]; omega, out.toList, c, rv, hc'⟩) (by rw [g1]; exact I.bare) (fun _ z => nomatch z)
    have e : { s1 with heap := sortedHeap (s1.heap.push (seqObj "list" vs.toArray 0)) s1.heap.objs.size vs out } = { s with heap := sortedHeap (s1.heap.push (seqObj "list" vs.toArray 0)) s1.heap.objs.size vs out, gens := s1.gens, drawn := s1.drawn, toks := s1.toks } := by
      cases s1
      cases s
      cases o1
      rfl
    rw [e]
    exact ⟨.ref s1.heap.objs.size, _, J, rfl, q _ hn⟩
  rcases q with ⟨zs, rfl, q⟩ | ⟨zs, rfl, q⟩
  · obtain ⟨ys, e, hS⟩ := allK_strs hK fun k hk => by obtain ⟨z, _, e⟩ := List.mem_map.mp (pK.mem_iff.mp hk); exact ⟨z, e.symm⟩
    refine wpAny_bind (wpAny_holding (wpAny_call_entry slot_list_sort ⟨_, hoL, rfl⟩ entry_list_sort
      (list_sort_treeK strKind_oneLt (s := { s1 with heap := s1.heap.push (seqObj "list" vs.toArray 0) }) hoL hS.keysOf (fun v₁ v₂ rest e => keyKind_strs (by rw [← e]; exact hS)) (by rw [hvl]; exact h64) fun st' hp hs => ⟨_, rfl, ?_⟩) (args_list_sort _)))
    obtain ⟨us, g2, g3, g4⟩ := sorted_out_str hS hp hs
    have e2 : us = sortS zs := sortS_eq (g3.trans (perm_inr pK e)) g4
    subst e2
    exact wpAny_pure ⟨_, rfl, fin _ _ (by rw [List.length_map, List.length_map]; exact (List.mergeSort_perm zs leS).length_eq) (vals_of_strs g2) q⟩
  · obtain ⟨ys, e, hS⟩ := allK_ints hK fun k hk => by obtain ⟨z, _, e⟩ := List.mem_map.mp (pK.mem_iff.mp hk); exact ⟨z, e.symm⟩
    refine wpAny_bind (wpAny_holding (wpAny_call_entry slot_list_sort ⟨_, hoL, rfl⟩ entry_list_sort
      (list_sort_tree (s := { s1 with heap := s1.heap.push (seqObj "list" vs.toArray 0) }) hoL hS (by rw [hvl]; exact h64) fun out ns' a1 a2 a3 => ⟨_, rfl, ?_⟩) (args_list_sort _)))
    have e2 : ns' = sortI zs := sortI_eq (a2.trans (perm_inl pK e)) a3
    subst e2
    exact wpAny_pure ⟨_, rfl, fin _ _ (by rw [List.length_map, List.length_map]; exact (List.mergeSort_perm zs _).length_eq) (ints_vals a1) q⟩
end
/-! ### len(set(xs)), sorted(set(xs)) -/
def keysD : List D → Option (List Key)
  | [] => some []
  | .int i :: ds => (keysD ds).map (Sum.inl i :: ·)
  | .str x :: ds => (keysD ds).map (Sum.inr x :: ·)
  | _ => none
def itemsKO (d : D) : Option (List Key) := ((itemsOf d).bind keysD).bind fun ks => if ks.length < 4000 then some ks else none
theorem keys_reps {K : PySem.W.Frag} {B : Hp} : ∀ {ds : List D} {vs : List V} {ks : List Key}, Reps K B vs ds → keysD ds = some ks → vs = ks.map kV
  | [], _, _, .nil, h => by cases h; rfl
  | .int i :: ds, _, ks, .cons r rs, h => by
    obtain ⟨js, e, rfl⟩ := Option.map_eq_some_iff.mp (show (keysD ds).map (Sum.inl i :: ·) = some ks from h)
    cases r; rw [keys_reps rs e]; rfl
  | .str i :: ds, _, ks, .cons r rs, h => by
    obtain ⟨js, e, rfl⟩ := Option.map_eq_some_iff.mp (show (keysD ds).map (Sum.inr i :: ·) = some ks from h)
    cases r; rw [keys_reps rs e]; rfl
  | .non :: _, _, _, _, h => by cases h
  | .bl _ :: _, _, _, _, h => by cases h
  | .tup _ :: _, _, _, _, h => by cases h
  | .lst _ :: _, _, _, _, h => by cases h
  | .dct _ :: _, _, _, _, h => by cases h
  | .ins _ _ :: _, _, _, _, h => by cases h
def lenSetD (d : D) : Option D := (itemsKO d).map fun ks => .int (uniqK ks).length
/-- the texts, or the ints, of a row of keys -/
def strsK : List Key → Option (List Str)
  | [] => some []
  | .inr x :: ks => (strsK ks).map (x :: ·)
  | .inl _ :: _ => none
def intsK : List Key → Option (List Int)
  | [] => some []
  | .inl x :: ks => (intsK ks).map (x :: ·)
  | .inr _ :: _ => none
theorem strsK_eq : ∀ {ks : List Key} {zs : List Str}, strsK ks = some zs → ks = zs.map Sum.inr
  | [], _, h => by cases h; rfl
  | .inr x :: ks, _, h => by
    obtain ⟨js, e, rfl⟩ := Option.map_eq_some_iff.mp (show (strsK ks).map (x :: ·) = some _ from h)
    rw [strsK_eq e]; rfl
  | .inl _ :: _, _, h => by cases h
theorem intsK_eq : ∀ {ks : List Key} {zs : List Int}, intsK ks = some zs → ks = zs.map Sum.inl
  | [], _, h => by cases h; rfl
  | .inl x :: ks, _, h => by
    obtain ⟨js, e, rfl⟩ := Option.map_eq_some_iff.mp (show (intsK ks).map (x :: ·) = some _ from h)
    rw [intsK_eq e]; rfl
  | .inr _ :: _, _, h => by cases h
def sortKD (l : List Key) : Option (List D) := if l.length < 64 then (match strsK l with
  | some zs => some ((sortS zs).map .str)
  | none => match intsK l with
    | some zs => some ((sortI zs).map .int)
    | none => none) else none
def sortSetD (d : D) : Option (List D) := (itemsKO d).bind fun ks => sortKD (uniqK ks)
section
variable {F : CF} {K : PySem.W.Frag} {mg : Str → Option Value} {Z : XC} {own : List Stt} {N : List Str} {vis lv : List Bool} {gl : List Str} {k : Nat} {a : Expr} {pos : Pos} {g : M D}
theorem pe_cl {X : Cx} {e : Expr} {t : TE} (h : PE X e t) : PE X e (fun σ H Q => ∃ k : VK, t σ H k ∧ ∀ v H', k v H' → Q v H') :=
  ⟨fun pins s σ H Q I ⟨k, a, b⟩ => thn (h.run pins s σ H k I a) fun _ _ ⟨x, H', J, r, q⟩ => ⟨x, H', J, r, b _ _ q⟩⟩
theorem keys_ok {B : Hp} : ∀ {ds : List D} {vs : List V} {ks : List Key}, Reps K B vs ds → keysD ds = some ks → ∀ x, Sum.inr x ∈ ks → PyData.strOk x = true
  | [], _, _, .nil, h, x, hx => by cases h; cases hx
  | .int i :: ds, _, ks, .cons r rs, h, x, hx => by
    obtain ⟨js, e, rfl⟩ := Option.map_eq_some_iff.mp (show (keysD ds).map (Sum.inl i :: ·) = some ks from h)
    rcases List.mem_cons.mp hx with z | z
    · cases z
    · exact keys_ok rs e x z
  | .str i :: ds, _, ks, .cons r rs, h, x, hx => by
    obtain ⟨js, e, rfl⟩ := Option.map_eq_some_iff.mp (show (keysD ds).map (Sum.inr i :: ·) = some ks from h)
    rcases List.mem_cons.mp hx with z | z
    · cases z; cases r; assumption
    · exact keys_ok rs e x z
  | .non :: _, _, _, _, h, _, _ => by cases h
  | .bl _ :: _, _, _, _, h, _, _ => by cases h
  | .tup _ :: _, _, _, _, h, _, _ => by cases h
  | .lst _ :: _, _, _, _, h, _, _ => by cases h
  | .dct _ :: _, _, _, _, h, _, _ => by cases h
  | .ins _ _ :: _, _, _, _, h, _, _ => by cases h
theorem rps_strs {B : Hp} : ∀ {zs : List Str}, (∀ z ∈ zs, PyData.strOk z = true) → Reps K B (zs.map V.str) (zs.map D.str)
  | [], _ => .nil
  | z :: zs, h => .cons (.str z (h z List.mem_cons_self)) (rps_strs fun y hy => h y (List.mem_cons_of_mem _ hy))
theorem rps_ints {B : Hp} : ∀ {zs : List Int}, Reps K B (zs.map V.int) (zs.map D.int)
  | [] => .nil
  | z :: zs => .cons (.int z) rps_ints
theorem items_ks {H B : Hp} {d : D} {ks : List Key} {v : V} (bh : Ex B H) (l : RV K H B v d) (h : itemsKO d = some ks) : ∃ p, v = .ref p ∧ (SqL K H p (ks.map kV) ∨ SqT K H p (ks.map kV)) ∧ ks.length < 4000 ∧ ∀ x, Sum.inr x ∈ ks → PyData.strOk x = true := by
  obtain ⟨ks', e, h⟩ := Option.bind_eq_some_iff.mp h
  obtain ⟨ds, e1, e2⟩ := Option.bind_eq_some_iff.mp e
  split at h
  · rename_i hl
    cases h
    obtain ⟨p, vs, rfl, hq, rs, hz⟩ := rep_items l e1
    have ok := keys_ok rs e2
    have ev := keys_reps rs e2
    subst ev
    exact ⟨p, rfl, hq.elim (fun z => .inr (seqT bh z)) (fun z => .inl (bh.seq z)), hl, ok⟩
  · cases h
theorem ex_lenSet (S : Sx F K mg N vis gl k) (i j : Nat) {p p2 pos2 : Pos} (hm : mg "len" = none) (hm2 : mg "set" = none) (ha : EX F K Z own a g) (hg : gl[i]? = some ("len" : Str) := by rfl) (hg2 : gl[j]? = some ("set" : Str) := by rfl)
    (hs : ∀ X, F X → starEach [a] X.env = (false, eval a X.env) :: starEach [] X.env := by intro _ _; rfl)
    (hs2 : ∀ X, F X → starEach [Expr.Call (.Name "set" p2) [a] [] pos2] X.env = (false, eval (Expr.Call (.Name "set" p2) [a] [] pos2) X.env) :: starEach [] X.env := by intro _ _; rfl) :
    EX F K Z own (.Call (.Name "len" p) [.Call (.Name "set" p2) [a] [] pos2] [] pos) (op1 lenSetD g) := by
  obtain ⟨ta, pa, ha⟩ := ha
  refine ⟨fun σ H Q => ta σ H fun x H1 => ∀ P w, rSetM K P w [x] H1 fun y H2 => rLenM P w [y] H2 Q, fun X hX => ?_, fun G ρ σ H B R => ?_⟩
  · obtain ⟨g1, g2, g3⟩ := S.gl X hX i _ hg
    obtain ⟨h1, h2, h3⟩ := S.gl X hX j _ hg2
    have q := pe_callB (p := p) (pos := pos) cr_lenM g1 (by rw [S.hmg X hX]; exact hm) PySem.boot_len (pa_cons (pe_callTy (cr_setM (S.calm X hX)) h1 (by rw [S.hmg X hX]; exact hm2) PyProof.Rows.boot_set (pa_cons (pe_cl (pa X hX)) pa_nil (hs X hX)) h3 h2 (hs X hX) rfl) pa_nil (hs2 X hX)) g3 g2 (hs2 X hX) rfl
    refine ⟨fun pins s σ H Q I h => q.run pins s σ H Q I ⟨_, h, fun v H' z => ?_⟩⟩
    have z' := z X.prog X.w
    rw [← S.hK X hX] at z'
    exact z'
  · refine Run.thn (p2 := fun x H1 Q => ∀ P w, rSetM K P w [x] H1 fun y H2 => rLenM P w [y] H2 Q) (ha G ρ σ H B R) fun d ρ1 v H1 B1 _ e R1 l => Run.prim R1 ?_
    cases hd : itemsKO d with
    | none => unfold lenSetD; rw [hd]; trivial
    | some ks =>
      unfold lenSetD; rw [hd]
      obtain ⟨p, rfl, hq, hl, ok⟩ := items_ks R1.keep.bh l hd
      exact fun Q q P w => ⟨p, ks, rfl, hq, hl, fun a ha => ⟨a, uniqK ks, rfl, upd_same, q _ _ B1 (New.heap (K := K) R1.keep.bh ha) (.int _)⟩⟩
theorem el_sortedSet (S : Sx F K mg N vis gl k) (i j : Nat) {p p2 pos2 : Pos} (hm : mg "sorted" = none) (hm2 : mg "set" = none) (ha : EX F K Z own a g) (hg : gl[i]? = some ("sorted" : Str) := by rfl) (hg2 : gl[j]? = some ("set" : Str) := by rfl)
    (hs : ∀ X, F X → starEach [a] X.env = (false, eval a X.env) :: starEach [] X.env := by intro _ _; rfl)
    (hs2 : ∀ X, F X → starEach [Expr.Call (.Name "set" p2) [a] [] pos2] X.env = (false, eval (Expr.Call (.Name "set" p2) [a] [] pos2) X.env) :: starEach [] X.env := by intro _ _; rfl) :
    EL F K Z own (.Call (.Name "sorted" p) [.Call (.Name "set" p2) [a] [] pos2] [] pos) (bnd g fun d => ofO (sortSetD d)) := by
  obtain ⟨ta, pa, ha⟩ := ha
  refine ⟨fun σ H Q => ta σ H fun x H1 => ∀ P w, rSetM K P w [x] H1 fun y H2 => rSortM P w [y] H2 Q, fun X hX => ?_, fun G ρ σ H B R => ?_⟩
  · obtain ⟨g1, g2, g3⟩ := S.gl X hX i _ hg
    obtain ⟨h1, h2, h3⟩ := S.gl X hX j _ hg2
    have q := pe_callB (p := p) (pos := pos) (cr_sortM (S.calm X hX)) g1 (by rw [S.hmg X hX]; exact hm) PyProof.Rows.boot_sorted (pa_cons (pe_callTy (cr_setM (S.calm X hX)) h1 (by rw [S.hmg X hX]; exact hm2) PyProof.Rows.boot_set (pa_cons (pe_cl (pa X hX)) pa_nil (hs X hX)) h3 h2 (hs X hX) rfl) pa_nil (hs2 X hX)) g3 g2 (hs2 X hX) rfl
    refine ⟨fun pins s σ H Q I h => q.run pins s σ H Q I ⟨_, h, fun v H' z => ?_⟩⟩
    have z' := z X.prog X.w
    rw [← S.hK X hX] at z'
    exact z'
  · refine Run.thn (p2 := fun x H1 Q => ∀ P w, rSetM K P w [x] H1 fun y H2 => rSortM P w [y] H2 Q) (ha G ρ σ H B R) fun d ρ1 v H1 B1 _ e R1 l => ?_
    cases hd : sortSetD d with
    | none => simp only [ofO]; trivial
    | some ds =>
      obtain ⟨ks, hk, hs⟩ := Option.bind_eq_some_iff.mp hd
      obtain ⟨p, rfl, hq, hl, ok⟩ := items_ks R1.keep.bh l hk
      intro Q q P w
      refine ⟨p, ks, rfl, hq, hl, fun a ha => ?_⟩
      have n1 : New K B1 H1 B1 (upd H1 a (MxO P w a (uniqK ks))) := New.heap (K := K) R1.keep.bh ha
      have R2 := R1.new n1
      unfold sortKD at hs
      split at hs
      · rename_i h64
        refine ⟨a, uniqK ks, rfl, upd_same, h64, ?_⟩
        split at hs
        · rename_i zs ez
          cases hs
          refine .inl ⟨zs, strsK_eq ez, fun l hl => ?_⟩
          have e := strsK_eq ez
          have hn : ((sortS zs).map D.str).length ≤ sizeLine := by
            have x : (sortS zs).length = zs.length := (List.mergeSort_perm zs leS).length_eq
            rw [e, List.length_map] at h64
            rw [List.length_map, x, sizeLine_eq]; omega
          obtain ⟨R3, f3⟩ := R2.fresh hl (rps_strs (zs := sortS zs) fun z hz => ok z (uniq_mem.mp (by rw [e]; exact List.mem_map_of_mem ((List.mergeSort_perm zs leS).mem_iff.mp hz)))) hn
          exact q _ _ B1 Ex.rfl R3 f3
        · split at hs
          · rename_i zs ez
            cases hs
            refine .inr ⟨zs, intsK_eq ez, fun l hl => ?_⟩
            have e := intsK_eq ez
            have hn : ((sortI zs).map D.int).length ≤ sizeLine := by
              have x : (sortI zs).length = zs.length := (List.mergeSort_perm zs _).length_eq
              rw [e, List.length_map] at h64
              rw [List.length_map, x, sizeLine_eq]; omega
            obtain ⟨R3, f3⟩ := R2.fresh hl rps_ints hn
            exact q _ _ B1 Ex.rfl R3 f3
          · cases hs
      · cases hs
end
end MP
namespace MP
open PySem L2
open PySem.AutoSeq1 (wpAny_loadPart')
/-! ### enumerate(t), t a tuple -/
def tupIt (l : Addr) : Obj := { cls := .type "tuple_iterator", data := .fields #[.ref l, .int 0 0] }
def enumO (it : Addr) : Obj := { cls := .type "enumerate", data := .fields #[.none, .bool false, .ref it, rawInt 0, .none, .none] }
theorem meets_enumT (l : Addr) (items : Array Value) (n : Nat) (dct : Option Addr) (sl : Array (Option Value)) :
    Meets (Builtin.«enumerate.__new__» ⟨[.type "enumerate", .ref l], []⟩) (fun _ R s => s.heap.get? l = some { cls := .type "tuple", dict := dct, data := .seq items n, slots := sl } ∧
      R (.ok (.ret (.ref (s.heap.push (tupIt l)).objs.size))) { s with heap := (s.heap.push (tupIt l)).push (enumO s.heap.objs.size) }) :=
  .of_wp fun prog w A R s h => by
    obtain ⟨hp, g, d, tk, os⟩ := s; obtain ⟨hl, h⟩ := h
    have hsub := sub_enumerate
    have hL : Heap.IsTuple (Shared.heap ⟨hp, g, d, tk, os⟩) l items := ⟨_, hl, rfl, n, rfl⟩
    wp_walk using wpAny_loadPart' hl
    refine wpAny_stack_any fun st => wpAny_pure ?_
    split
    · rename_i c _ _ _ _ _
      cases (c == Value.type "enumerate")
      · wp_walk using wpAny_loadPart' hl, wpAny_pyIter_tuple hL
        exact ⟨_, rfl, h⟩
      · wp_walk using wpAny_loadPart' hl, wpAny_pyIter_tuple hL
        exact ⟨_, rfl, h⟩
    · wp_walk using wpAny_loadPart' hl, wpAny_pyIter_tuple hL
      exact ⟨_, rfl, h⟩
section
variable {prog : Program} {w : World} {A : Around} {E : Value → Shared → Prop} {s : Shared}
theorem call_enumT {l : Addr} {items : Array Value} {Q : Value → Shared → Prop} (hL : s.heap.IsTuple l items)
    (h : ∀ h', IsEnum h' (s.heap.objs.size + 1) s.heap.objs.size 0 .none → h'.IsTupleIter s.heap.objs.size l 0 → (∀ b o, s.heap.get? b = some o → h'.get? b = some o) → Q (.ref (s.heap.objs.size + 1)) { s with heap := h' }) :
    wpAny (model prog w) A (call (.type "enumerate") [.ref l]) Q E s := by
  obtain ⟨⟨c, dct, dt, sl⟩, hl, hc, n, hd⟩ := hL
  replace hc : c = .type "tuple" := hc
  replace hd : dt = .seq items n := hd
  subst hc hd
  refine callType_new F.called_enumerate (by decide) (F.typeCall_enumerate_1 _) (F.newCall_enumerate_1 _) (fun obj => F.args_object_init_2 obj _) F.entry_enumerate_new (meets_enumT l items n dct sl) ⟨hl, ?_⟩
  have hz : (s.heap.push (tupIt l)).objs.size = s.heap.objs.size + 1 := Heap.size_push ..
  show _ ∧ _
  have he : IsEnum ((s.heap.push (tupIt l)).push (enumO s.heap.objs.size)) (s.heap.objs.size + 1) s.heap.objs.size 0 .none := by
    have q := Heap.get?_push_size (s.heap.push (tupIt l)) (o := enumO s.heap.objs.size) rfl
    rw [hz] at q; exact q
  rw [hz]
  exact ⟨⟨_, he, rfl⟩, h _ he ⟨_, Heap.get?_push_of_some _ (Heap.get?_push_size _ rfl), rfl, rfl⟩ fun b o x => Heap.get?_push_of_some _ (Heap.get?_push_of_some _ x)⟩
theorem enumT_end {e it l : Addr} {i : Nat} {c : Int} {items : Array Value} {old : Value} {Q : Option Value → Shared → Prop} (hh : A.handled = none) (he : IsEnum s.heap e it c old) (hit : s.heap.IsTupleIter it l i) (hl : s.heap.IsTuple l items) (hx : items[i]? = none)
    (hQ : ∀ h', Heap.ExtBut it s.heap h' → Q none { s with heap := h' }) : wpAny (model prog w) A (pyNext (.ref e)) Q E s := by
  have hT : s.TypeIs (.ref e) "enumerate" := ⟨_, he, rfl⟩
  unfold pyNext
  refine wpAny_bind (wpAny_attempt (wpAny_callSpecial?_slot (name := Str.ofString "__next__") hT F.slot_enumerate_next (wpAny_call_entry F.slot_enumerate_next hT F.entry_enumerate_next ?_ (F.args_enumerate_next_1 _))))
  show wpAny _ _ (field (.ref e) 2 >>= _) _ _ _
  refine wpAny_bind (wpAny_field he rfl (x := .ref it) rfl (wpAny_bind (wpAny_nextOf_tuple_end (A := A.in1) hh hit hl hx fun h' x he' hx' => ?_)))
  obtain ⟨o, ho, hc⟩ := hx'
  exact wpAny_bind (wpAny_isInstance (T := "StopIteration") (b := true) ⟨o, ho, hc⟩ isSubtype_stop (wpAny_pure (hQ _ he')))
end
def IteT (K : PySem.W.Frag) (a : Addr) : It :=
  ⟨fun i H => ∃ (xs : List V) (x : V), SqT K H a xs ∧ xs[i]? = some x, fun i H v H' => ∃ T x, v = .ref T ∧ H T = none ∧ H' = upd H T (.tup [.int (i : Nat), x]) ∧ ∀ xs, SqT K H a xs → xs[i]? = some x,
    fun i H => ∃ xs : List V, SqT K H a xs ∧ xs.length ≤ i⟩
theorem turn_enumT {P : Program} {w : World} {K : PySem.W.Frag} {elts : List Expr} {kk : Nat} {tpos : Pos} (a e it : Addr) :
    Turn P w K (.Tuple elts kk tpos) (IteT K a) [e, it] e (fun i h => (∃ old, IsEnum h e it ((i : Nat) : Int) old) ∧ h.IsTupleIter it a i ∧ e ≠ it ∧ e ≠ a ∧ a ≠ it) where
  mem := by simp
  obj := fun i h st b hb => by
    obtain ⟨⟨old, he⟩, ⟨o, ho, hc, hd⟩, _⟩ := st
    rcases (show b = e ∨ b = it by simpa using hb) with z | z
    · rw [z]; exact ⟨_, he, fun v q => nomatch q⟩
    · rw [z]; exact ⟨o, ho, fun v q => by rw [hd] at q; cases q⟩
  keep := fun i h h' st k => let ⟨⟨old, he⟩, hi, hne⟩ := st; ⟨⟨old, k e (by simp) _ he⟩, hi.at fun o q => k it (by simp) o q, hne⟩
  item := by
    intro X hP hw hK hc i pins s σ H E I hf st hg
    subst hP hw hK
    obtain ⟨⟨old, he⟩, hit, hne, hea, hai⟩ := st
    obtain ⟨xs, x, hq, hx⟩ := hg
    obtain ⟨its, rv, p, hz⟩ := I.tuple hq
    obtain ⟨u, hu, ru⟩ := rv.get hx
    have hel : e < s.heap.objs.size := Heap.lt_size he
    have hil : it < s.heap.objs.size := by obtain ⟨_, q, _⟩ := hit; exact Heap.lt_size q
    have hi : i < its.toArray.size := by simpa using (List.getElem?_eq_some_iff.mp hu).1
    refine wpAny_pyNext_enum_itemD (Draws.tuple (A := X.A.in1) (I.ok.hd hc) it a hai its.toArray) he ⟨hit, p⟩ hi hne (by simp [hne, hea]) fun v h' tk hv ho hst hT hsz hk => ?_
    obtain rfl : v = u := by
      have q : its.toArray[i]? = some v := hv
      rw [show its.toArray[i]? = some u by simpa using hu] at q
      exact (Option.some.inj q).symm
    refine ⟨_, rfl, wpAny_letOwnedTupleGo_enum (s := { s with heap := h', toks := tk + 1 }) ho fun h'' he' sb => ?_⟩
    have hT2 : h''.get? s.heap.objs.size = some { cls := .type "tuple", data := .seq #[.int i tk, v] } := (sb.2 _ (Nat.ne_of_gt hel)).trans hT
    have new : ObjOk X.prog X.w (upd H s.heap.objs.size (.tup [.int (i : Nat), x])) h'' s.heap.objs.size (.tup [.int (i : Nat), x]) :=
      ⟨by show 2 ≤ sizeLine; decide, [.int i tk, v], .cons ⟨_, rfl⟩ (.cons ru .nil), ⟨_, hT2, rfl, _, rfl⟩⟩
    have I1 : Inv X pins σ (upd H s.heap.objs.size (.tup [.int (i : Nat), x])) { s with heap := h'', toks := tk + 1 } :=
      I.turnedNew (ch := [e, it]) (fun b ob hb q => (sb.2 b (fun z => hb (by simp [z]))).trans (hk b ob (fun z => hb (by simp [z])) (fun z => hb (by simp [z])) q)) hf (Nat.le_refl _) new
    refine ⟨.ref s.heap.objs.size, _, I1, rfl, ⟨_, x, rfl, I.hok.fresh (Nat.le_refl _), rfl, fun ys hy => by rw [I.tuple_inj hy hq]; exact hx⟩, ⟨⟨v, ?_⟩, hst.1.at fun o q => (sb.2 it (Ne.symm hne)).trans q, hne, hea, hai⟩, fun b hb => ?_⟩
    · have e1 : ((i + 1 : Nat) : Int) = (i : Int) + 1 := by omega
      rw [e1]; exact he'
    · have hb' : b < s.heap.objs.size := by
        rcases (show b = e ∨ b = it by simpa using hb) with z | z
        · rw [z]; exact hel
        · rw [z]; exact hil
      rw [upd_ne (Nat.ne_of_lt hb')]
      exact (hf b hb).1
  done := by
    intro X hP hw hK hc i pins s σ H E I hf st hg
    subst hP hw hK
    obtain ⟨⟨old, he⟩, hit, hne, hea, hai⟩ := st
    obtain ⟨xs, hq, hx⟩ := hg
    obtain ⟨its, rv, p, hz⟩ := I.tuple hq
    obtain ⟨f0, f1, f2, f3, f4, f5⟩ := hf it (by simp)
    have hl := rv.length
    exact enumT_end (I.ok.hd hc) he hit p (by simp; omega) fun h' eb => ⟨rfl, I.turned (t' := s.toks) (fun b o hb q => eb b o hb q) f0 f1 f3 f4 f5⟩
  self := fun A i s Q E st h => let ⟨⟨_, he⟩, _⟩ := st; wpAny_pyIter_enum he h
def iEnumA (K : PySem.W.Frag) (ta : TA) : TI := fun σ H R => ta σ H fun vs H1 => ∃ a xs, vs = [.ref a] ∧ ((SqL K H1 a xs ∧ R (Ite K a) H1) ∨ (SqT K H1 a xs ∧ R (IteT K a) H1))
theorem pi_enumA {X : Cx} {e : Expr} {ta : TA} {p pos tpos : Pos} {elts : List Expr} {kk : Nat} (hg : Gl X "enumerate") (hm : X.mg "enumerate" = none) (ha : PA X [e] ta) (hs : starEach [e] X.env = [(false, eval e X.env)] := by rfl) :
    PI X (.Tuple elts kk tpos) (.Call (.Name "enumerate" p) [e] [] pos) (iEnumA X.K ta) := by
  refine ⟨fun pins s σ H R I h => ?_⟩
  refine PyProof.Rows.Call_ (ld_blt I hg hm PyProof.Rows.boot_enumerate (PyProof.Rows.callWith_type1 (thn (ha.run pos pins s σ H _ I h) fun us s1 ⟨vs, H1, I1, r1, q1⟩ => ?_) hs rfl))
  obtain ⟨a, xs, ex, hq⟩ := q1
  subst ex
  rw [Vals.ref1 r1]
  have fp : ∀ b ∈ [s1.heap.objs.size + 1, s1.heap.objs.size], s1.heap.objs.size ≤ b := fun b hb => by
    rcases (show b = s1.heap.objs.size + 1 ∨ b = s1.heap.objs.size by simpa using hb) with z | z
    · rw [z]; exact Nat.le_add_right _ _
    · rw [z]; exact Nat.le_refl _
  rcases hq with ⟨hq, q⟩ | ⟨hq, q⟩
  · obtain ⟨its, rv, p', hz⟩ := I1.list hq
    refine call_enumerate_list p'.isList fun h' he hit hsz hk => wpAny_pyIter_enum he ?_
    exact ⟨s1.heap.objs.size + 1, [s1.heap.objs.size + 1, s1.heap.objs.size], _, _, H1, rfl, I1.kept (t' := s1.toks) hk, turn_enum a (s1.heap.objs.size + 1) s1.heap.objs.size, ⟨⟨.none, he⟩, hit, Nat.succ_ne_self _⟩, fun b hb => I1.fpOk (fp b hb) (I1.hok.fresh (fp b hb)), q⟩
  · obtain ⟨its, rv, p', hz⟩ := I1.tuple hq
    have lt : a < s1.heap.objs.size := by obtain ⟨o, ho, _⟩ := p'; exact Heap.lt_size ho
    refine call_enumT p' fun h' he hit hk => wpAny_pyIter_enum he ?_
    exact ⟨s1.heap.objs.size + 1, [s1.heap.objs.size + 1, s1.heap.objs.size], _, _, H1, rfl, I1.kept (t' := s1.toks) hk, turn_enumT a (s1.heap.objs.size + 1) s1.heap.objs.size,
      ⟨⟨.none, he⟩, hit, Nat.succ_ne_self _, Nat.ne_of_gt (Nat.lt_succ_of_lt lt), Nat.ne_of_lt lt⟩, fun b hb => I1.fpOk (fp b hb) (I1.hok.fresh (fp b hb)), q⟩
/-! ### the rule -/
def enumL : Nat → List D → List D
  | _, [] => []
  | i, d :: ds => .tup [.int i, d] :: enumL (i + 1) ds
theorem enumL_len : ∀ (i : Nat) (ds : List D), (enumL i ds).length = ds.length
  | _, [] => rfl
  | i, _ :: ds => congrArg (· + 1) (enumL_len (i + 1) ds)
theorem enumL_at : ∀ {j : Nat} {ds : List D} {i : Nat} {d : D}, ds[i]? = some d → (enumL j ds)[i]? = some (.tup [.int (j + i : Nat), d])
  | _, [], _, _, h => by simp at h
  | j, x :: ds, 0, d, h => by simp at h; subst h; rfl
  | j, x :: ds, i + 1, d, h => by
    have q := enumL_at (j := j + 1) (ds := ds) (i := i) (d := d) (by simpa using h)
    rw [show j + (i + 1) = j + 1 + i by omega]
    simpa [enumL] using q
def enumD (g : M D) : M (List D) := bnd g fun d => ofO ((itemsOf d).map (enumL 0))
section
variable {F : CF} {K : PySem.W.Frag} {mg : Str → Option Value} {Z : XC} {own : List Stt} {N : List Str} {vis lv : List Bool} {gl : List Str} {k : Nat} {a : Expr} {pos : Pos} {g : M D}
theorem ite_ok {B : Hp} {a : Addr} {us : List V} {ds : List D} (h1 : SqL K B a us) (r1 : Reps K B us ds) (hz : ds.length ≤ sizeLine) : ItOk K B (Ite K a) (enumL 0 ds) where
  sz := by rw [enumL_len]; exact hz
  go := fun i H e hi => by
    rw [enumL_len] at hi
    obtain ⟨v, hv, _⟩ := r1.get (List.getElem?_eq_getElem hi)
    exact ⟨us, v, e.seq h1, hv⟩
  yld := fun i H B1 x H' e e1 hi y => by
    obtain ⟨T, p, rfl, hT, rfl, h⟩ := y
    obtain ⟨d, hd, rd⟩ := r1.getV (h us ((e.trans e1).seq h1))
    have q := enumL_at (j := 0) hd
    rw [Nat.zero_add] at q
    exact ⟨_, _, q, New.alloc e1 hT, .tup (.inl (.inl upd_same)) (.cons (.int _) (.cons (rd.mono (e.trans (New.alloc (K := K) e1 hT).b)) .nil)) (by show 2 ≤ sizeLine; decide)⟩
  stop := fun i H e hi => ⟨us, e.seq h1, by rw [enumL_len] at hi; rw [r1.len]; exact hi⟩
theorem iteT_ok {B : Hp} {a : Addr} {us : List V} {ds : List D} (h1 : SqT K B a us) (r1 : Reps K B us ds) (hz : ds.length ≤ sizeLine) : ItOk K B (IteT K a) (enumL 0 ds) where
  sz := by rw [enumL_len]; exact hz
  go := fun i H e hi => by
    rw [enumL_len] at hi
    obtain ⟨v, hv, _⟩ := r1.get (List.getElem?_eq_getElem hi)
    exact ⟨us, v, seqT e h1, hv⟩
  yld := fun i H B1 x H' e e1 hi y => by
    obtain ⟨T, p, rfl, hT, rfl, h⟩ := y
    obtain ⟨d, hd, rd⟩ := r1.getV (h us (seqT (e.trans e1) h1))
    have q := enumL_at (j := 0) hd
    rw [Nat.zero_add] at q
    exact ⟨_, _, q, New.alloc e1 hT, .tup (.inl (.inl upd_same)) (.cons (.int _) (.cons (rd.mono (e.trans (New.alloc (K := K) e1 hT).b)) .nil)) (by show 2 ≤ sizeLine; decide)⟩
  stop := fun i H e hi => ⟨us, seqT e h1, by rw [enumL_len] at hi; rw [r1.len]; exact hi⟩
theorem it_enum (S : Sx F K mg N vis gl k) (i : Nat) {p tpos : Pos} {elts : List Expr} {kk : Nat} (hm : mg "enumerate" = none) (ha : EX F K Z own a g) (hg : gl[i]? = some ("enumerate" : Str) := by rfl) (hs : ∀ X, F X → starEach [a] X.env = (false, eval a X.env) :: starEach [] X.env := by intro _ _; rfl) :
    IT F K Z own (.Tuple elts kk tpos) (.Call (.Name "enumerate" p) [a] [] pos) (enumD g) := by
  obtain ⟨t, pa, ha⟩ := ha
  refine ⟨iEnumA K (tCons t tNil), fun X hX => atK (S.hK X hX) (fun K => PI X _ _ (iEnumA K (tCons t tNil))) (pi_enumA (S.gl X hX i _ hg).1 (by rw [S.hmg X hX]; exact hm) (pa_cons (pa X hX) pa_nil (hs X hX)) (hs X hX)), fun G ρ σ H B R => ?_⟩
  refine Run.thn (p2 := fun x H1 Q => ∃ a xs, [x] = [.ref a] ∧ ((SqL K H1 a xs ∧ Q (Ite K a) H1) ∨ (SqT K H1 a xs ∧ Q (IteT K a) H1))) (ha G ρ σ H B R) fun d ρ1 v H1 B1 _ e R1 l => ?_
  cases hd : itemsOf d with
  | none => simp only [Option.map_none, ofO]; trivial
  | some ds =>
    obtain ⟨p, vs, rfl, hq, rs, hz⟩ := rep_items l hd
    intro Q q
    refine ⟨p, vs, rfl, ?_⟩
    rcases hq with hq | hq
    · exact .inr ⟨seqT R1.keep.bh hq, q _ _ B1 Ex.rfl R1 (iteT_ok hq rs hz)⟩
    · exact .inl ⟨R1.keep.bh.seq hq, q _ _ B1 Ex.rfl R1 (ite_ok hq rs hz)⟩
end
end MP
namespace MP
open PySem PySem.Spec PyProof.Rows L2
/-! ### a lambda of one parameter, without captured names: its call -/
/-! ### .. and its making -/
section
variable {X : Cx} {pins : List (Addr × Obj)} {σ : L2.St} {H : Hp} {s : Shared}
/-- the code object at c bears the name q -/
def CodAt (H : Hp) (c : Addr) (q : Str) : Prop := ∃ (oc : Obj) (vs : Array Value) (t : Tok), H c = some (.frz oc (.own 0)) ∧ oc.data = .fields vs ∧ vs[1]? = some (.str q t)
end
end MP
namespace MP
open PySem PySem.Spec PyProof.Rows L2 PySem.W
/-! ### sorting by a key: the calls keep J -/
end MP
namespace MP
open PySem PySem.Spec PyProof.Rows L2
section
variable {F : CF} {K : PySem.W.Frag} {mg : Str → Option Value} {Z : XC} {own own' : List Stt} {N : List Str} {vis : List Bool} {gl : List Str} {k : Nat} {a b c : Expr} {g h : M D} {pos : Pos} {lv : List Bool}
/-! ### xs.extend(a new list) -/
def extS (j : Nat) (g : M (List D)) : SM := sbd g fun ds ρ => match look ρ j with
  | .lst rs => if rs.length + ds.length < 16000000 then .nx (ρ.set j (.lst (rs ++ ds))) else .bad
  | _ => .bad
end
/-! ### a, b, c = e1, e2, e3 -/
section
variable {X : Cx} {pos : Pos}
def tPar3 (i j k : Nat) (ta : TA) : TS := fun D σ H => ta σ H fun vs H1 => ∃ v w z, vs = [v, w, z] ∧ D.nx (((σ.set i (some v)).set j (some w)).set k (some z)) H1
theorem vals3 {v w z : V} {us : List Value} (r : Vals [v, w, z] us) : ∃ u1 u2 u3, us = [u1, u2, u3] ∧ RelV v u1 ∧ RelV w u2 ∧ RelV z u3 := by
  rcases r with _ | ⟨r1, r⟩
  rcases r with _ | ⟨r2, r⟩
  rcases r with _ | ⟨r3, r⟩
  rcases r with _ | _
  exact ⟨_, _, _, rfl, r1, r2, r3⟩
theorem ps_par3 {i j k : Nat} {x y z : Str} {a b c : Expr} {ta : TA} {px py pz pt : Pos} {kt k2 pt2} (hc : X.calm = true) (hN : X.N.Nodup) (hi : X.N[i]? = some x) (hj : X.N[j]? = some y) (hk : X.N[k]? = some z) (hij : i ≠ j) (hik : i ≠ k) (hjk : j ≠ k)
    (hx : X.env.scope.names.lookup x = some .local) (hy : X.env.scope.names.lookup y = some .local) (hz : X.env.scope.names.lookup z = some .local) (ha : PA X [a, b, c] ta)
    (hw : swappedStores [.Tuple [.Name x px, .Name y py, .Name z pz] kt pt] (.Tuple [a, b, c] k2 pt2) X.env = pure (some [x, y, z]))
    (hs : swapsWithSole [.Tuple [.Name x px, .Name y py, .Name z pz] kt pt] (.Tuple [a, b, c] k2 pt2) pos.line X.env = pure false) :
    PS X (.Assign [.Tuple [.Name x px, .Name y py, .Name z pz] kt pt] (.Tuple [a, b, c] k2 pt2) pos) (tPar3 i j k ta) := by
  refine ⟨fun pins s σ H D I h => ?_⟩
  rw [exec_Assign_arm]
  refine wpAny_bind (wpAny_standAt ?_)
  rw [hs]
  refine wpAny_bind (wpAny_pure ?_)
  rw [if_neg (by decide)]
  refine wpAny_bind (Tuple_ (thn (ha.run _ pins s σ H _ I h) fun us s1 ⟨vs, H1, I1, r1, q1⟩ => ?_))
  obtain ⟨v, w, t, rfl, q1⟩ := q1
  obtain ⟨u1, u2, u3, rfl, g1, g2, g3⟩ := vals3 r1
  refine wpAny_newObj_type ?_ (by show 3 ≤ sizeLine; decide)
  have I2 : Inv X pins σ H1 { s1 with heap := s1.heap.push { cls := .type "tuple", data := .seq [u1, u2, u3].toArray } } := I1.kept (t' := s1.toks) fun _ _ q => Heap.get?_push_of_some _ q
  rw [hw]
  refine wpAny_bind (wpAny_pure ?_)
  show wpAny (model X.prog X.w) X.A (do rule "assign.swapped-stores"; let its ← unpackItems (.ref s1.heap.objs.size) 3 none; assignInOrder [fun v => bindName X.env z v, fun v => bindName X.env y v, fun v => bindName X.env x v] its.reverse; pure Flow.next) _ _ _
  refine wpAny_bind (wpAny_rule (wpAny_bind (unpackItems_tuple (items := #[u1, u2, u3]) (I.ok.hd hc) (IsTup.new s1.heap _) fun h' keep => ?_)))
  have I3 := I2.kept (h' := h') (t' := s1.toks) fun q o z => keep q o (Nat.ne_of_lt (Heap.lt_size z)) z
  show wpAny _ _ (assignInOrder [fun v => bindName X.env z v, fun v => bindName X.env y v, fun v => bindName X.env x v] [u3, u2, u1] >>= fun _ => pure Flow.next) _ _ _
  refine wpAny_bind (assignInOrder_cons (wpAny_bindName (store_ok I3 hN hk (.inl hz) g3 (fun s2 I4 => ?_) (.inr hz))))
  refine assignInOrder_cons (wpAny_bindName (store_ok I4 hN hj (.inl hy) g2 (fun s3 I5 => ?_) (.inr hy)))
  refine assignInOrder_cons (wpAny_bindName (store_ok I5 hN hi (.inl hx) g1 (fun s4 I6 => assignInOrder_nil (wpAny_pure ?_)) (.inr hx)))
  have e : ((σ.set k (some t)).set j (some w)).set i (some v) = ((σ.set i (some v)).set j (some w)).set k (some t) := by
    rw [List.set_comm _ _ (Ne.symm hjk), List.set_comm _ _ (Ne.symm hik), List.set_comm (i := j) (j := i) _ _ (Ne.symm hij)]
  rw [e] at I6
  exact ⟨_, H1, I6, q1⟩
end
section
variable {F : CF} {K : PySem.W.Frag} {mg : Str → Option Value} {Z : XC} {own own' : List Stt} {N : List Str} {vis : List Bool} {gl : List Str} {k : Nat} {a b c : Expr} {pos : Pos} {lv : List Bool}
def setPar3 (i j k : Nat) (gs : M (List D)) : SM := sbd gs fun ds ρ => match ds with
  | [x, y, z] => .nx (((ρ.set i x).set j y).set k z)
  | _ => .bad
def setPar3L (i j k : Nat) (g hs : M (List D)) : SM := sbd g fun xs => sbd hs fun ys ρ => match ys with
  | [y, z] => .nx (((ρ.set i (.lst xs)).set j y).set k z)
  | _ => .bad
theorem reps2 {B : Hp} {vs : List V} {x y : D} (r : Reps K B vs [x, y]) : ∃ v w, vs = [v, w] ∧ Rep K B v x ∧ Rep K B w y := by
  cases r with
  | cons r1 r => cases r with
    | cons r2 r => cases r; exact ⟨_, _, rfl, r1, r2⟩
theorem st_par3L {C : Ctl} {g hs : M (List D)} (S : Sx F K mg N vis gl k) (L : Lx F N lv) (i j l : Nat) {x y z : Str} {px py pz pt pt2 : Pos} {kt k2 : Nat} (h0 : EL F K C.Z own a g) (ha : EXs F K C.Z own [b, c] hs) (hx : ∀ X, F X → X.env.scope.names.lookup x = some .local) (hy : ∀ X, F X → X.env.scope.names.lookup y = some .local) (hz : ∀ X, F X → X.env.scope.names.lookup z = some .local)
    (hNi : N[i]? = some x := by rfl) (hNj : N[j]? = some y := by rfl) (hNl : N[l]? = some z := by rfl) (hij : i ≠ j := by decide) (hil : i ≠ l := by decide) (hjl : j ≠ l := by decide) (ho : ((own.set i .L).set j .V).set l .V = own' := by rfl)
    (hs1 : ∀ X, F X → starEach [a, b, c] X.env = (false, eval a X.env) :: starEach [b, c] X.env := by intro _ _; rfl)
    (hw : ∀ X, F X → swappedStores [.Tuple [.Name x px, .Name y py, .Name z pz] kt pt] (.Tuple [a, b, c] k2 pt2) X.env = pure (some [x, y, z]) := by intro _ _; rfl) (hw2 : ∀ X, F X → swapsWithSole [.Tuple [.Name x px, .Name y py, .Name z pz] kt pt] (.Tuple [a, b, c] k2 pt2) pos.line X.env = pure false := by intro _ _; rfl) :
    ST F K C own (.Assign [.Tuple [.Name x px, .Name y py, .Name z pz] kt pt] (.Tuple [a, b, c] k2 pt2) pos) (setPar3L i j l g hs) own' := by
  obtain ⟨t0, p0, h0⟩ := h0
  obtain ⟨ta, pa, ha⟩ := ha
  subst ho
  refine ⟨_, fun X hX => ps_par3 (i := i) (j := j) (k := l) (S.calm X hX) (by rw [S.hN X hX]; exact L.nd) (by rw [S.hN X hX]; exact hNi) (by rw [S.hN X hX]; exact hNj) (by rw [S.hN X hX]; exact hNl) hij hil hjl (hx X hX) (hy X hX) (hz X hX) (pa_cons (p0 X hX) (pa X hX) (hs1 X hX)) (hw X hX) (hw2 X hX), fun G ρ σ H B R => ?_⟩
  refine SRun.ofE (p2 := fun v H1 E => ta σ H1 fun us H2 => ∃ v' w u, v :: us = [v', w, u] ∧ E.nx (((σ.set i (some v')).set j (some w)).set l (some u)) H2) (h0 G ρ σ H B R) fun d ρ1 v H1 B1 _ e R1 f E hE => ?_
  obtain ⟨p, us, rfl, g1, g2, ru, hz, R2⟩ := R1.lockF f
  have hb2 := ha _ ρ1 σ H1 B1 R2
  unfold sbd at hE
  cases hh : hs ρ1 with
  | bad => rw [hh] at hE; exact hE.elim
  | ex c fs ρ2 =>
    rw [hh] at hE hb2
    exact hb2 (fun Cv dd H' B' e' R' x' => hE Cv dd σ H' B' e' (R'.unlock g1).1 x') _
  | ok ys ρ2 =>
    rw [hh] at hE hb2
    refine hb2 _ fun vs H3 B3 e3 R3 r3 => ?_
    obtain ⟨R4, f4⟩ := R3.unlockF g1 g2 (ru.mono e3) hz
    match ys, hE, r3 with
    | [y, z], hE, r3 =>
      obtain ⟨w, u, rfl, q1, q2⟩ := reps2 r3
      exact ⟨_, w, u, rfl, hE _ H3 B3 e3 (((R4.setL f4).setV q1).setV q2)⟩
    | [], hE, _ => exact hE.elim
    | [_], hE, _ => exact hE.elim
    | _ :: _ :: _ :: _, hE, _ => exact hE.elim
end
end MP
namespace MP
open PySem PySem.Spec PyProof.Rows L2 PySem.SeqAt PySem.W
/-! ### min(xs), data that are alike -/
mutual
theorem py_inj : ∀ (a b : D), a.plain = true → b.plain = true → a.py = b.py → a = b
  | .non, b, _, h2, h => by cases b <;> simp [D.py, D.plain] at h h2 ⊢
  | .bl x, b, _, h2, h => by cases b <;> simp_all [D.py, D.plain]
  | .int x, b, _, h2, h => by cases b <;> simp_all [D.py, D.plain]
  | .str x, b, _, h2, h => by cases b <;> simp_all [D.py, D.plain]
  | .tup xs, b, h1, h2, h => by
    cases b with
    | tup ys => simp [D.py, D.plain] at h h1 h2; rw [pys_inj xs ys h1 h2 h]
    | _ => simp [D.py, D.plain] at h h2
  | .lst xs, b, h1, h2, h => by
    cases b with
    | lst ys => simp [D.py, D.plain] at h h1 h2; rw [pys_inj xs ys h1 h2 h]
    | _ => simp [D.py, D.plain] at h h2
  | .dct _, _, h1, _, _ => by simp [D.plain] at h1
  | .ins _ _, _, h1, _, _ => by simp [D.plain] at h1
theorem pys_inj : ∀ (a b : List D), plains a = true → plains b = true → pys a = pys b → a = b
  | [], [], _, _, _ => rfl
  | [], _ :: _, _, _, h => by simp [pys] at h
  | _ :: _, [], _, _, h => by simp [pys] at h
  | x :: xs, y :: ys, h1, h2, h => by
    simp [plains, pys] at h1 h2 h
    rw [py_inj x y h1.1 h2.1 h.1, pys_inj xs ys h1.2 h2.2 h.2]
end
def minDD (d : D) (ds : List D) : D := ds.foldl (fun a y => if dataLt y.py a.py then y else a) d
theorem minDD_py : ∀ (d : D) (ds : List D), (minDD d ds).py = minD d.py (pys ds)
  | d, [] => rfl
  | d, y :: ds => by
    have e1 : minDD d (y :: ds) = minDD (if dataLt y.py d.py then y else d) ds := rfl
    have e2 : minD d.py (pys (y :: ds)) = minD (if dataLt y.py d.py then y.py else d.py) (pys ds) := by rw [pys]; rfl
    rw [e1, e2, minDD_py]
    congr 1
    split <;> rfl
theorem minDD_plain : ∀ (d : D) (ds : List D), d.plain = true → plains ds = true → (minDD d ds).plain = true
  | d, [], h, _ => h
  | d, y :: ds, h, h2 => by
    simp [plains] at h2
    have e1 : minDD d (y :: ds) = minDD (if dataLt y.py d.py then y else d) ds := rfl
    rw [e1]
    exact minDD_plain _ ds (by split <;> simp [*]) h2.2
def alikeB (xs : List PyData) : Bool := (xs.all fun x => xs.all fun y => alike x y) && xs.all fun x => match x with
  | .none => false
  | _ => true
theorem alikeB_ok {xs : List PyData} (h : alikeB xs = true) : AlikeAll xs := by
  unfold alikeB at h
  simp only [Bool.and_eq_true, List.all_eq_true] at h
  exact ⟨fun x hx y hy => h.1 x hx y hy, fun x hx z => by have := h.2 x hx; rw [z] at this; cases this⟩
def minO : D → Option D
  | .lst (d :: ds) => if plains (d :: ds) && decide (PyData.depthAll (pys (d :: ds)) ≤ 64) && alikeB (pys (d :: ds)) then some (minDD d ds) else none
  | _ => none
def rMin (K : PySem.W.Frag) : List V → Hp → VK → Prop := fun xs H Q => ∃ (a : Addr) (vs : List V) (x : PyData) (ds : List PyData), xs = [.ref a] ∧ SqL K H a vs ∧ DpAll K H vs (x :: ds) ∧ AlikeAll (x :: ds) ∧ (∀ d ∈ x :: ds, d.plain = true) ∧ PyData.depthAll (x :: ds) ≤ 64 ∧
  ∀ (i : Nat) (v : V), vs[i]? = some v → (x :: ds)[i]? = some (minD x ds) → Q v H
theorem vals_back : ∀ {vs : List V} {us : List Value} {i : Nat} {u : Value}, Vals vs us → us[i]? = some u → ∃ v, vs[i]? = some v ∧ RelV v u
  | _, _, _, _, .nil, e => by simp at e
  | _, _, 0, _, .cons r _, e => by simp at e; subst e; exact ⟨_, rfl, r⟩
  | _, _, i + 1, _, .cons _ t, e => by
    obtain ⟨v, h1, h2⟩ := vals_back (i := i) t (by simpa using e)
    exact ⟨v, by simpa using h1, h2⟩
theorem cr_min {X : Cx} (hc : X.calm = true) (hu : X.A.units + 65 < cLine) : CallR X (.builtin "min") (rMin X.K) := by
  intro pins s σ H xs us Q I r h
  obtain ⟨a, vs, x, ds, rfl, hl, hd, al, pl, hdep, q⟩ := h
  rw [Vals.ref1 r]
  obtain ⟨its, rv, li, hz⟩ := I.list hl
  obtain ⟨as, hr⟩ := Dp.readsAll I _ _ _ hd rv
  have hr' : ReadsAll s.heap its.toArray.toList (x :: ds) as := by simpa using hr
  refine min_list_data (I.ok.hd hc) li.isList hr' al (by omega) fun i v h' tk bs hv hm kp => ?_
  have hv' : its[i]? = some v := by simpa using hv
  obtain ⟨v0, e0, r0⟩ := vals_back rv hv'
  obtain ⟨bs2, hr2, hlt, hmem, _⟩ := readsAll_at hr i v hv'
  have e1 : (x :: ds).getD i .none = minD x ds := plain_unique _ _ v _ _ (pl _ hmem) (reads_keeps kp hr2) hm
  refine ⟨v0, H, I.kept (t' := tk) kp, r0, q i v0 e0 ?_⟩
  rw [List.getD_eq_getElem?_getD, List.getElem?_eq_getElem hlt] at e1
  rw [List.getElem?_eq_getElem hlt]
  exact congrArg some e1
theorem pys_get : ∀ {ds : List D} {i : Nat} {x : PyData}, (pys ds)[i]? = some x → ∃ d, ds[i]? = some d ∧ d.py = x
  | [], _, _, h => by simp [pys] at h
  | d :: ds, 0, x, h => by simp [pys] at h; exact ⟨d, rfl, h⟩
  | d :: ds, i + 1, x, h => by
    simp [pys] at h
    obtain ⟨e, h1, h2⟩ := pys_get h
    exact ⟨e, by simpa using h1, h2⟩
theorem plains_mem : ∀ {ds : List D} {d : D}, plains ds = true → d ∈ ds → d.plain = true
  | [], _, _, h => by cases h
  | x :: ds, d, h, hm => by
    simp [plains] at h
    rcases List.mem_cons.mp hm with rfl | hm
    · exact h.1
    · exact plains_mem h.2 hm
theorem pys_mem : ∀ {ds : List D} {x : PyData}, x ∈ pys ds → ∃ d ∈ ds, d.py = x
  | [], _, h => by simp [pys] at h
  | d :: ds, x, h => by
    simp [pys] at h
    rcases h with rfl | h
    · exact ⟨d, by simp, rfl⟩
    · obtain ⟨e, h1, h2⟩ := pys_mem h
      exact ⟨e, by simp [h1], h2⟩
theorem cd_min {K : PySem.W.Frag} : CallD K (rMin K) (fun xs => match xs with
    | [d] => minO d
    | _ => none) := fun vs ds H B bh r => by
  match ds, r with
  | [d], .cons rd .nil =>
    show Prim K (RV K) (minO d) H B _
    cases rd with
    | lst hs rs hz =>
      rename_i a us es
      cases es with
      | nil => trivial
      | cons e es =>
        show Prim K (RV K) (if plains (e :: es) && decide (PyData.depthAll (pys (e :: es)) ≤ 64) && alikeB (pys (e :: es)) then some (minDD e es) else none) H B _
        split
        · rename_i hc
          simp only [Bool.and_eq_true, decide_eq_true_eq] at hc
          obtain ⟨⟨h1, h2⟩, h3⟩ := hc
          obtain ⟨dp, lay⟩ := rs.dp bh h1
          intro Q q
          refine ⟨a, us, e.py, pys es, rfl, bh.seq hs, by rw [pys] at dp; exact dp, by rw [pys] at h3; exact alikeB_ok h3, fun d hd => ?_, by rw [pys] at h2; exact h2, fun i v hv hm => ?_⟩
          · have : d ∈ pys (e :: es) := by rw [pys]; exact hd
            obtain ⟨d0, hd0, rfl⟩ := pys_mem this
            obtain ⟨i, hi⟩ := List.getElem?_of_mem hd0
            obtain ⟨v0, _, rp⟩ := rs.get hi
            exact PyData.plain_of_canLay0 _ (rp.dp bh (plains_mem h1 hd0)).2
          · have hm' : (pys (e :: es))[i]? = some (minD e.py (pys es)) := by rw [pys]; exact hm
            obtain ⟨d0, hd0, ed⟩ := pys_get hm'
            obtain ⟨v1, hv1, rp⟩ := rs.get hd0
            rw [hv] at hv1
            cases hv1
            rw [← minDD_py] at ed
            simp [plains] at h1
            have hp0 : d0.plain = true := plains_mem (ds := e :: es) (by simp [plains, h1]) (List.mem_of_getElem? hd0)
            have := py_inj d0 _ hp0 (minDD_plain e es h1.1 h1.2) ed
            subst this
            exact q v H B (New.refl bh) rp
        · trivial
    | _ => trivial
  | [], .nil => trivial
  | _ :: _ :: _, .cons _ (.cons _ _) => trivial
section
variable {F : CF} {K : PySem.W.Frag} {mg : Str → Option Value} {Z : XC} {own own' : List Stt} {N : List Str} {vis : List Bool} {gl : List Str} {k : Nat} {a : Expr} {g : M D} {pos : Pos}
def minM (g : M D) : M D := bnd g fun d => ofO (minO d)
theorem ex_min (S : Sx F K mg N vis gl k) (i : Nat) {p : Pos} (hm : mg "min" = none) (ha : EX F K Z own a g) (hg : gl[i]? = some ("min" : Str) := by rfl) (hs : ∀ X, F X → starEach [a] X.env = (false, eval a X.env) :: starEach [] X.env := by intro _ _; rfl) :
    EX F K Z own (.Call (.Name "min" p) [a] [] pos) (callD (fun xs => match xs with
    | [d] => minO d
    | _ => none) (consD g nilD)) :=
  ex_callB S i (fun X hX => atK (S.hK X hX) (fun K => CallR X _ (rMin K)) (cr_min (S.calm X hX) (by have := (S.room X hX).un; omega))) cd_min hm (by decide +kernel) (es_cons ha es_nil hs) hg hs
end
end MP
namespace MP
open PySem PySem.Spec PyProof.Rows L2 PySem.SeqAt PySem.W
/-! ### max(xs), data that are alike -/
end MP
namespace MP
open PySem PySem.Spec PyProof.Rows L2
/-! ### what the head tells: defs, methods, getters of properties, classes with slots -/
/-- a property's getter: the class, the property, its name's place, parameters, body, scope -/
structure PrD where
  c : Str
  m : Str
  name : Str
  qual : Str
  params : Arguments
  body : List Stmt
  scope : Scope
def pOb (K : PySem.W.Frag) (c m : Str) : Addr := He.ma K (He.ga K c) m
def pAd (K : PySem.W.Frag) (c m : Str) : Addr := match PySem.W.recIn K (pOb K c m) "property" with
  | some (.ref f :: _) => f
  | _ => 0
def fnA (K : PySem.W.Frag) (a : Addr) : He.FnW := match K.lookup a with
  | some ⟨_, _, .func r, _⟩ => some (r.name, r.qualname, r.params, r.body, r.scope, r.globals, r.closure, r.builtins)
  | _ => none
def PrD.val (d : PrD) : He.FnW := some (d.name, d.qual, d.params, .stmts d.body, d.scope, mainGlobals, [], builtinsNs)
def cdB (K : PySem.W.Frag) (a : Addr) (q : Str) : Bool := match K.lookup a with
  | some ⟨_, _, .func r, _⟩ => PySem.W.codeIn K r.code q && He.dflB K r.defaults []
  | _ => false
def rcB (K : PySem.W.Frag) (p f : Addr) : Bool := match PySem.W.recIn K p "property" with
  | some (.ref a :: _) => decide (a = f)
  | _ => false
def PrD.ok (K : PySem.W.Frag) (d : PrD) : Bool :=
  PySem.W.keepIn K (.ref (pAd K d.c d.m)) && cdB K (pAd K d.c d.m) d.qual && He.eqO (PySem.W.findIn K (.ref (He.ga K d.c)) d.m) (some (some (.ref (pOb K d.c d.m)))) &&
  He.eqO (PySem.W.specialIn K (.ref (pOb K d.c d.m)) "__get__") (some (some (.builtin "property.__get__"))) && decide (PySem.W.takesIn K (.ref (pOb K d.c d.m)) = some true) && rcB K (pOb K d.c d.m) (pAd K d.c d.m)
/-- what is known of a property -/
structure PrF (K : PySem.W.Frag) (d : PrD) : Prop where
  fn : ∃ fd, FunD K d.name d.qual d.params d.body d.scope [] [] (pAd K d.c d.m) fd
  at_ : PySem.W.findIn K (.ref (He.ga K d.c)) d.m = some (some (.ref (pOb K d.c d.m)))
  get : PySem.W.specialIn K (.ref (pOb K d.c d.m)) "__get__" = some (some (.builtin "property.__get__"))
  tk : PySem.W.takesIn K (.ref (pOb K d.c d.m)) = some true
  rc : ∃ rest, PySem.W.recIn K (pOb K d.c d.m) "property" = some (.ref (pAd K d.c d.m) :: rest)
theorem PrD.funD {K : PySem.W.Frag} {d : PrD} (e : fnA K (pAd K d.c d.m) = d.val) (c : d.ok K = true) : PrF K d := by
  unfold PrD.ok at c
  simp only [Bool.and_eq_true, decide_eq_true_eq] at c
  obtain ⟨⟨⟨⟨⟨c1, c2⟩, c3⟩, c4⟩, c5⟩, c6⟩ := c
  refine ⟨?_, He.eqO_ok c3, He.eqO_ok c4, c5, ?_⟩
  · unfold fnA at e
    unfold cdB at c2
    cases q : K.lookup (pAd K d.c d.m) with
    | none => rw [q] at c2; cases c2
    | some o =>
      obtain ⟨oc, od, dt, sl⟩ := o
      rw [q] at c2 e
      cases dt with
      | func r =>
        obtain ⟨n1, n2, n3, n4, n5, n6, n7, n8, n9, n10, n11, n12, n13, n14, n15⟩ := r
        have e' : (some (n1, n2, n3, n4, n5, n6, n7, n15) : He.FnW) = d.val := e
        unfold PrD.val at e'
        simp only [Option.some.injEq, Prod.mk.injEq] at e'
        obtain ⟨g1, g2, g3, g4, g5, g6, g7, g8⟩ := e'
        subst g1 g2 g3 g4 g5 g6 g7 g8
        have c2' : (PySem.W.codeIn K n13 d.qual && He.dflB K n8 []) = true := c2
        rw [Bool.and_eq_true] at c2'
        exact ⟨_, ⟨oc, od, n8, n9, n10, n11, n12, n13, n14, sl, rfl, q, c2'.1, He.dflB_ok c2'.2, .inl rfl⟩, c1⟩
      | _ => cases c2
  · unfold rcB at c6
    split at c6
    · rename_i a rest h
      have : a = pAd K d.c d.m := of_decide_eq_true c6
      rw [← this]
      exact ⟨rest, h⟩
    · cases c6
/-- a class with slots -/
def slB (K : PySem.W.Frag) (C : Addr) : Nat → List Str → Bool
  | _, [] => true
  | i, f :: r => He.eqO (PySem.W.findIn K (.ref C) f) (some (some (.ref (He.ma K C f)))) && He.eqO (PySem.W.specialIn K (.ref (He.ma K C f)) "__get__") (some (some (.builtin "member_descriptor.__get__"))) &&
    decide (PySem.W.takesIn K (.ref (He.ma K C f)) = some true) && decide (PySem.W.typeIn K (.ref (He.ma K C f)) = some (.type "member_descriptor")) && decide (PySem.W.slotIn K (He.ma K C f) C = some i) && decide (i < 1000) && slB K C (i + 1) r
def clB (K : PySem.W.Frag) (c : Str) (sl : List Str) : Bool := PySem.W.plainGet K (He.ga K c) Str.empty && PySem.W.isClsIn K (He.ga K c) && PySem.W.plainOver K (He.ga K c) &&
  He.eqO (PySem.W.findIn K (.ref (He.ga K c)) "__setattr__") (some (some (.builtin "object.__setattr__"))) && (slB K (He.ga K c) 0 sl && (flds c).isEmpty)
theorem slB_at {K : PySem.W.Frag} {C : Addr} : ∀ {sl : List Str} {j i : Nat} {f : Str}, slB K C j sl = true → sl[i]? = some f → ∃ p, SlX.Slot1 K C f p (j + i)
  | [], _, _, _, _, h => by simp at h
  | g :: r, j, 0, f, h, e => by
    simp at e; subst e
    unfold slB at h
    simp only [Bool.and_eq_true, decide_eq_true_eq] at h
    exact ⟨_, He.eqO_ok h.1.1.1.1.1.1, He.eqO_ok h.1.1.1.1.1.2, h.1.1.1.1.2, h.1.1.1.2, h.1.1.2, h.1.2⟩
  | g :: r, j, i + 1, f, h, e => by
    unfold slB at h
    simp only [Bool.and_eq_true, decide_eq_true_eq] at h
    have := slB_at (i := i) h.2 (by simpa using e)
    rw [show j + (i + 1) = j + 1 + i by omega]
    exact this
theorem clB_ok {K : PySem.W.Frag} {c : Str} {sl : List Str} (h : clB K c sl = true) : Cl K c sl := by
  unfold clB at h
  simp only [Bool.and_eq_true] at h
  refine ⟨⟨h.1.1.1.1, h.1.1.1.2, h.1.1.2, He.eqO_ok h.1.2⟩, fun i f e => ?_, h.2.2⟩
  obtain ⟨p, q⟩ := slB_at h.2.1 e
  exact ⟨p, by rw [Nat.zero_add] at q; exact q⟩
/-- a tuple of texts of the module -/
theorem strsRep {K : PySem.W.Frag} {x : Str} {zs : List Str} (h : He.tupB K x (zs.map He.Dv.str) = true) (hz : (zs.all fun z => PyData.strOk z) = true) (hl : zs.length ≤ 1000) (B : Hp) : Rep K B (.ref (He.ga K x)) (.tup (zs.map D.str)) := by
  have e : (zs.map He.Dv.str).map (He.Dv.v K) = zs.map V.str := by rw [List.map_map]; rfl
  have q := He.tupB_ok h B
  rw [e] at q
  exact .tup q (.ofStrs zs fun n hn => List.all_eq_true.mp hz n hn) (by rw [List.length_map, sizeLine_eq]; omega)
/-! ### the hook -/
abbrev AlY : Type := He.AlX × List He.FnW
def exY (prs : List PrD) (ex : PySem.W.Frag → Bool) : PySem.W.Frag → Bool := fun K => ex K && prs.all fun d => d.ok K
def obsY (n : Nat) (fa : List He.Fa) (fn : List He.DefD) (prs : List PrD) (tf : List He.Defn) (ex : PySem.W.Frag → Bool) (g : Addr → Option Obj) : AlY :=
  (He.obsX n fa fn [] tf (exY prs ex) g, prs.map fun d => fnA (He.frT g (He.asD g n)) (pAd (He.frT g (He.asD g n)) d.c d.m))
structure SaysY (fa : List He.Fa) (fn : List He.DefD) (prs : List PrD) (tf : List He.Defn) (ex : PySem.W.Frag → Bool) (w : World) (h : Heap) (K : PySem.W.Frag) : Prop where
  x : He.SaysX fa fn [] tf (exY prs ex) w h K
  p : (prs.map fun d => fnA K (pAd K d.c d.m)) = prs.map PrD.val
def hookY (n : Nat) (fa : List He.Fa) (fn : List He.DefD) (prs : List PrD) (tf : List He.Defn) (ex : PySem.W.Frag → Bool) : PySem.W.Hook where
  α := AlY
  obs := fun s => obsY n fa fn prs tf ex s.heap.get?
  val := fun w => (He.valX fn [] w, prs.map PrD.val)
  says := fun w h => ∃ K : PySem.W.Frag, K.In h ∧ SaysY fa fn prs tf ex w h K
  of := fun _ _ e => ⟨_, He.frT_in, He.saysX_of (congrArg (fun z : AlY => z.1) e), congrArg (fun z : AlY => z.2) e⟩
  keeps := fun _ _ _ ⟨K, hK, c⟩ k => ⟨K, PySem.W.Frag.In.keeps hK k, ⟨c.x.t, c.x.more, c.x.hd, c.x.out, fun p hp => k _ _ (c.x.empty p hp)⟩, c.p⟩
theorem obsY_eq {n : Nat} {fa : List He.Fa} {fn : List He.DefD} {prs : List PrD} {tf : List He.Defn} {ex : PySem.W.Frag → Bool} {g : Addr → Option Obj} {s : Shared} (h : ∀ a, g a = s.heap.get? a) : obsY n fa fn prs tf ex g = (hookY n fa fn prs tf ex).obs s := by
  have e : g = s.heap.get? := funext h
  subst e
  rfl
section
variable {fa : List He.Fa} {fn : List He.DefD} {prs : List PrD} {tf : List He.Defn} {ex : PySem.W.Frag → Bool} {w : World} {h : Heap} {K : PySem.W.Frag}
theorem SaysY.more (c : SaysY fa fn prs tf ex w h K) : ex K = true := (Bool.and_eq_true_iff.mp c.x.more).1
theorem SaysY.fact (c : SaysY fa fn prs tf ex w h K) (i : Nat) {f : He.Fa} (hf : fa[i]? = some f := by rfl) : f.ok K = true := c.x.t.d.fact i hf
theorem SaysY.def_ (c : SaysY fa fn prs tf ex w h K) (i : Nat) {d : He.DefD} (hf : fn[i]? = some d := by rfl) : ∃ fd, FunD K d.name d.qual d.params d.body d.scope (d.dvs K) (d.kws K) (He.fAd K d.at_) fd := c.x.t.d.def_ i hf
theorem SaysY.prop (c : SaysY fa fn prs tf ex w h K) (i : Nat) {d : PrD} (hf : prs[i]? = some d := by rfl) : PrF K d := by
  have h1 : (prs.map fun d => fnA K (pAd K d.c d.m))[i]? = (prs.map PrD.val)[i]? := by rw [c.p]
  rw [List.getElem?_map, List.getElem?_map, hf] at h1
  have h2 := List.all_eq_true.mp (Bool.and_eq_true_iff.mp c.x.more).2 d (List.mem_of_getElem? hf)
  exact PrD.funD (Option.some.inj h1) h2
end
/-! ### a class called with one value and three keywords -/
section
variable {F : CF} {K : PySem.W.Frag} {mg : Str → Option Value} {Z : XC} {own own1 own' : List Stt} {N : List Str} {vis : List Bool} {gl : List Str} {k : Nat} {a : Expr} {g : M D} {pos : Pos} {P : Program} {w : World} {base : Heap} {ps : List Str} {f : Addr} {fd : FuncData}
def ek3 (g1 g2 g3 : M D) : M (List D) := consD g1 (consD g2 (consD g3 nilD))
theorem ret_ok {α : Type} {x y : α} {ρ ρ' : Env} (h : ret x ρ = .ok y ρ') : y = x := by unfold ret at h; cases h; rfl
theorem cons_len {g : M D} {h : M (List D)} {n : Nat} (hh : ∀ ρ ds ρ', h ρ = .ok ds ρ' → ds.length = n) : ∀ ρ ds ρ', consD g h ρ = .ok ds ρ' → ds.length = n + 1 := by
  intro ρ ds ρ' e
  unfold consD bnd Res.bnd at e
  cases hg : g ρ with
  | ok d ρ1 =>
    rw [hg] at e
    simp only at e
    cases h2 : h ρ1 with
    | ok es ρ2 =>
      rw [h2] at e
      simp only at e
      rw [ret_ok e, List.length_cons, hh _ _ _ h2]
    | ex c fs ρ2 => rw [h2] at e; cases e
    | bad => rw [h2] at e; cases e
  | ex c fs ρ1 => rw [hg] at e; cases e
  | bad => rw [hg] at e; cases e
theorem nil_len : ∀ ρ ds ρ', nilD ρ = .ok ds ρ' → ds.length = 0 := fun ρ ds ρ' e => by rw [show ds = [] from ret_ok e]; rfl
theorem ex_make13 (A : Fam F P w base) (S : Sx F K mg N vis gl k) (i : Nat) {j : Nat} {fi : FI} {c k1 k2 k3 : Str} {p pos p1 p2 p3 : Pos} {b1 b2 b3 : Expr} {g1 g2 g3 : M D} {gU : List Value → List Value → List Value} (G : ClI P w K mg base c f fd ps j fi) (hb : KBn K fd ps 2 [k1, k2, k3] gU (fun vs zs => vs ++ zs))
    (ha : EX F K Z own a g) (h1 : EX F K Z own b1 g1) (h2 : EX F K Z own b2 g2) (h3 : EX F K Z own b3 g3) (hj : j + 1 ≤ k := by decide) (hg : gl[i]? = some c := by rfl)
    (q1 : ∀ X, F X → (backToKw pos (keywordEach [⟨some k1, b1, p1⟩, ⟨some k2, b2, p2⟩, ⟨some k3, b3, p3⟩] X.env)).all (·.1.isSome) = true := by intro _ _; rfl)
    (q2 : ∀ X, F X → (backToKw pos (keywordEach [⟨some k1, b1, p1⟩, ⟨some k2, b2, p2⟩, ⟨some k3, b3, p3⟩] X.env)).filterMap (·.1) = [k1, k2, k3] := by intro _ _; rfl)
    (q3 : ∀ X, F X → starEach [a] X.env = (false, eval a X.env) :: starEach [] X.env := by intro _ _; rfl)
    (q4 : ∀ X, F X → ((backTo pos (starEach [a] X.env)).any (·.1) || (backToKw pos (keywordEach [⟨some k1, b1, p1⟩, ⟨some k2, b2, p2⟩, ⟨some k3, b3, p3⟩] X.env)).any (·.1.isNone)) = false := by intro _ _; rfl) :
    EX F K Z own (.Call (.Name c p) [a] [⟨some k1, b1, p1⟩, ⟨some k2, b2, p2⟩, ⟨some k3, b3, p3⟩] pos) (makeK c fi (fun x y => x ++ y) (consD g nilD) (ek3 g1 g2 g3)) := by
  refine ex_makeK A S i (n := 1) (gV := fun vs zs => vs ++ zs) (gD := fun x y => x ++ y) G hb (fun x vs zs _ _ => ⟨vs ++ zs, rfl, fun B ds es r1 r2 => r1.append r2⟩) (es_cons ha es_nil q3) (ek_cons h1 (ek_cons h2 (ek_cons h3 ek_nil)))
    (cons_len nil_len) (cons_len (cons_len (cons_len nil_len))) fun X hX t tk pa pk => ?_
  obtain ⟨e1, e2, e3⟩ := S.gl X hX i c hg
  exact pe_makeN (by rw [S.hK X hX]; exact G.mkr) (fnAt A S hX G.ok) ((S.room X hX).mono hj) e1 (by rw [S.hmg X hX]; exact G.mg) (by rw [S.hK X hX]; exact hb) (pass0 (X := X)) pa pk (q1 X hX) (q2 X hX) e2 (q3 X hX) (q4 X hX)
end
end MP
namespace MP
open PySem L2
/-! ### __init__ leaves something in the slots -/
def NeI (g : SM) : Prop := ∀ ρ fs, endI (g ρ) = some fs → fs ≠ []
theorem ne_seq {g h : SM} (H : NeI h) : NeI (seqS g h) := by
  intro ρ fs e
  unfold seqS at e
  cases hg : g ρ with
  | nx ρ1 => rw [hg] at e; exact H ρ1 fs e
  | rt d ρ1 => rw [hg] at e; cases e
  | bk ρ1 => rw [hg] at e; cases e
  | ct ρ1 => rw [hg] at e; cases e
  | ex c fs ρ1 => rw [hg] at e; cases e
  | bad => rw [hg] at e; cases e
theorem ne_slot {c : Str} {i : Nat} {g : M D} : NeI (seqS (slotS c i g) nxS) := by
  intro ρ fs e
  unfold seqS slotS sbd at e
  cases hg : g ρ with
  | bad => rw [hg] at e; cases e
  | ex c' fs' ρ1 => rw [hg] at e; cases e
  | ok d ρ1 =>
    rw [hg] at e
    simp only [Res.sb] at e
    cases hl : look ρ1 0 with
    | ins c' gs =>
      rw [hl] at e
      simp only at e
      by_cases hc : c' = c ∧ gs.length = i
      · rw [if_pos hc] at e
        simp only [nxS, endI] at e
        have hρ : 0 < ρ1.length := by
          cases ρ1 with
          | nil => cases hl
          | cons _ _ => simp
        rw [look_set hρ, if_pos rfl] at e
        simp only [Option.some.injEq] at e
        rw [← e]
        simp
      · rw [if_neg hc] at e; cases e
    | _ => rw [hl] at e; cases e
theorem ne_run {c : Str} {n m : Nat} {g : SM} (H : NeI g) {ds fs : List D} (h : runI c n m g ds = some fs) : fs ≠ [] := by
  unfold runI at h
  split at h
  · exact H _ _ h
  · cases h
end MP
namespace MP
open PySem PySem.Spec PyProof.Rows L2 PySem.W
/-! ### sorted(xs, key=lambda v: ..) -/
section
variable {X : Cx} {pins : List (Addr × Obj)} {σ : L2.St}
/-- between two key calls: a, kS the sort's own lists, f the lambda -/
structure KJ (X : Cx) (pins : List (Addr × Obj)) (σ : L2.St) (Rh : Hp → Prop) (fo : Obj) (f c : Addr) (q : Str) (a kS : Addr) (s : Shared) (H : Hp) : Prop where
  inv : L2.Inv X pins σ H s
  rh : Rh H
  fa : FpOk X pins H a
  fk : FpOk X pins H kS
  fo : s.heap.get? f = some fo
  fn : H f = none
  ff : f ∉ frs X.stack
  cd : CodAt H c q
  ne : f ≠ a ∧ f ≠ kS
  ea : ∃ o, s.heap.get? a = some o
  ek : ∃ o, s.heap.get? kS = some o
  na : a ∉ frs X.stack ∧ kS ∉ frs X.stack
theorem KJ.turned {Rh : Hp → Prop} {fo : Obj} {f c : Addr} {q : Str} {a kS : Addr} {s : Shared} {H : Hp} (j : KJ X pins σ Rh fo f c q a kS s H) {h' : Heap} {tk : Nat} (k : ∀ c o, c ≠ a → c ≠ kS → s.heap.get? c = some o → h'.get? c = some o) : L2.Inv X pins σ H { s with heap := h', toks := tk } :=
  j.inv.turnedL (ch := [a, kS]) (fun b o hb e => k b o (fun z => hb (by simp [z])) (fun z => hb (by simp [z])) e) fun b hb => by
    rcases (show b = a ∨ b = kS by simpa using hb) with z | z
    · rw [z]; exact j.fa
    · rw [z]; exact j.fk
end
/-! ### the denotation: the keys are texts -/
end MP
namespace MP
open PySem PySem.Spec PyProof.Rows L2
/-! ### the end of a law with lambdas -/
section
variable {P : Program} {w : World} {K : PySem.W.Frag} {mg : Str → Option Value} {base : Heap} {N : List Str} {qual : Str} {sc : Scope} {k : Nat}
/-- the tables of the defs that make lambdas, in base -/
def TbB (K : PySem.W.Frag) (mg : Str → Option Value) (base : Heap) (tf : List He.Defn) : Prop := ∀ p ∈ tf, p ∈ LAMS ∧ lamOn K p = true ∧ LamX.TabB base mg (He.cT K p).1 (He.cT K p).2
end
/-- the defs that make lambdas are those of tf -/
def tfB (tf : List He.Defn) (K : PySem.W.Frag) : Bool := LAMS.all fun p => !lamOn K p || tf.contains p
def noT (H : Hp) : Hp := fun a => match H a with
  | some (.tbl _) => none
  | o => o
theorem noT_ex (H : Hp) : Ex (noT H) H := fun a o e => by
  unfold noT at e
  split at e
  · cases e
  · exact e
theorem noT_nb (H : Hp) (a : Addr) (ps : Array Value) : noT H a ≠ some (.tbl ps) := fun e => by
  unfold noT at e
  split at e
  · cases e
  · rename_i h
    exact h _ e
theorem noT_at {H : Hp} {a : Addr} {o : HO} (e : H a = some o) (n : isTb o = false) : noT H a = some o := by
  unfold noT
  rw [e]
  cases o <;> first | rfl | cases n
theorem tabK1 {tf : List He.Defn} {K : PySem.W.Frag} {H : Hp} (h : tfB tf K = true) (hT : ∀ p ∈ tf.map (He.cT K), H p.2 = some (.tbl #[])) : TabK K H (noT H) := by
  have key : ∀ P ∈ lamT K, H P = some (.tbl #[]) := fun P hP => by
    unfold lamT at hP
    obtain ⟨p, hp, rfl⟩ := List.mem_map.mp hP
    obtain ⟨h1, h2⟩ := List.mem_filter.mp hp
    have := List.all_eq_true.mp h p h1
    rw [h2] at this
    have hm : p ∈ tf := by simpa using this
    exact hT _ (List.mem_map.mpr ⟨p, hm, rfl⟩)
  refine ⟨fun P hP ps e => ?_, fun P hP => ⟨_, key P hP⟩, noT_nb H⟩
  rw [key P hP] at e
  cases e
  exact ⟨by simp [TriplesOk], fun pos cv hc => by simp [codeAmong] at hc⟩
/-- the law's own promise, where it answers True -/
theorem law_spT {K : PySem.W.Frag} {H : Hp} {a : Addr} {ns : List Int} {F : FV} {tf : List He.Defn} (hn : tfB tf K = true) (hT : ∀ p ∈ tf.map (He.cT K), H p.2 = some (.tbl #[])) (hS : SqL K H a (ns.map V.int)) (hl : ns.length ≤ 63) (hF : F [.lst (ns.map D.int)] = some (.bl true)) : spV K 1 F [.ref a] H (fun v _ => v = .bl true) fun _ _ _ => False := by
  have hS' : SqL K (noT H) a (ns.map V.int) := by
    rcases hS with (h | ⟨o, h⟩) | h
    · exact .inl (.inl (noT_at h rfl))
    · exact .inl (.inr ⟨o, noT_at h rfl⟩)
    · exact .inr h
  refine ⟨noT H, [.lst (ns.map D.int)], .bl true, rfl, ⟨noT_ex H, tabK1 hn hT⟩, .one (.lst hS' (.ofInts ns) (by rw [List.length_map, sizeLine_eq]; omega)), hF, fun v H' B' _ r => ?_⟩
  cases r
  rfl
end MP
namespace MP
open PySem PySem.Spec PyProof.Rows L2 PySem.SeqAt PySem.W
open AutoSeq1 (wpAny_loadPart')
open MeetsSeq MeetsSeq2 MeetsSeq3 SeqRoads2
/-! ### == by an own __eq__, both answers -/
end MP
namespace MP
open PySem PySem.Spec PyProof.Rows L2 PySem.SeqAt PySem.W
/-! ### isinstance(x, C), x of the class C itself -/
end MP
namespace MP
open PySem PySem.Spec PyProof.Rows L2 PySem.SeqAt PySem.W
/-! ### sorted(xs), xs a list of data that are alike -/
def allB (xs : List PyData) : Bool := xs.all fun x => xs.all fun y => alike x y
def tup1 : PyData → Bool
  | .tuple (_ :: _) => true
  | _ => false
def noTup : PyData → Bool
  | .none => false
  | .tuple _ => false
  | _ => true
def srtB (xs : List PyData) : Bool := xs.all tup1 || xs.all noTup
def sortO : D → Option (List D)
  | .lst ds => if plains ds && decide (PyData.depthAll (pys ds) ≤ 64) && allB (pys ds) && srtB (pys ds) then some (ds.mergeSort (dataLe false D.py)) else none
  | _ => none
def sortM (g : M D) : M (List D) := bnd g fun d => ofO (sortO d)
end MP
namespace MP
open PySem PySem.Spec PyProof.Rows L2 PySem.SeqAt PySem.W
/-! ### len(x), x[i] by the class's own __len__, __getitem__ -/
end MP
namespace MP
open PySem PySem.Spec PyProof.Rows L2 PySem.SeqAt PySem.W
end MP
namespace MP
open PySem PySem.Spec PyProof.Rows L2 PySem.SeqAt PySem.W
/-! ### x in d, d a dict whose keys are None or ints -/
end MP
namespace MP
open PySem PySem.Spec PyProof.Rows L2
/-! ### {k: v for ..}, the keys None or ints -/
end MP
namespace MP
open PySem L2
/-! ### {k: v for ..} over the slots; no instance is being made -/
section
variable {K : PySem.W.Frag} {Z : XC} {own own1 own' : List Stt} {G : Gam} {ρ : Env} {σ : L2.St} {H B : Hp}
theorem Rel.putP (R : Rel K G own ρ σ H B) {p : Addr} {o o' : HO} (hp : H p = some o) (po : plainO o) (hb : B p = none) (hg : G.pr p = none) (ho' : isTb o' = false) (h0 : G.H p = none) (hn : NoRt own σ H p) (hI : noI own) : Rel K G own ρ σ (upd H p o') B := by
  have kp : ∀ (i : Nat) (si : Stt), own[i]? = some si → si.own = true → ∀ x o, (σ[i]?).join = some (.ref x) → H x = some o → plainO o → upd H p o' x = some o := fun i si hi oi x o ex e _ => by
    rw [upd_ne (fun z => hn i si hi oi ⟨x, ex, .inl z.symm⟩)]; exact e
  refine ⟨⟨fun a u e => ?_, fun a u e => ?_, R.keep.prb, R.keep.b0, fun a u e na nt => ?_, fun a u e => ?_, R.keep.old, R.keep.prn, R.keep.tk.trans (TabsK.put hp po), R.keep.tab.put hp po ho'⟩, R.lr, R.ls, fun j st hj => ?_, fun i j si sj a hi hj oi oj ei ej => R.sep i j si sj a hi hj oi oj (R.back hi oi (kp i si hi oi) ei) (R.back hj oj (kp j sj hj oj) ej)⟩
  · rw [upd_ne (ne_of_none e hb)]; exact R.keep.bh a u e
  · rw [upd_ne (ne_of_none e hg)]; exact R.keep.pr a u e
  · rw [upd_ne (ne_of_none e h0)]; exact R.keep.fr a u e na nt
  · rw [upd_ne (ne_of_none e h0)]; exact R.keep.dom a u e
  · have := R.slot j st hj
    have own1 : st.own = true → SlotOk K G (upd H p o') B st (σ[j]?).join (look ρ j) := fun os => by
      obtain ⟨a, e, m, _⟩ := this.mok os
      have k : ∀ b o, Root H a b → H b = some o → upd H p o' b = some o := fun b o rt q => by
        rw [upd_ne (fun z => hn j st hj os ⟨a, e, by rw [← z]; exact rt⟩)]; exact q
      exact SlotOk.keep this os e (m.stay k Ex.rfl fun b rt => (m.has rt).2) id id (fun b q => .inl ((m.same (k a · .self)).mp q)) fun _ _ q => q
    cases st with
    | U => trivial
    | V => exact this
    | L => exact own1 rfl
    | R => exact own1 rfl
    | O => exact own1 rfl
    | M => exact own1 rfl
    | K => exact own1 rfl
    | T => exact own1 rfl
    | I => exact absurd hj (hI j)
/-- the dict that was made is a plain value from now on -/
theorem Rel.layB (R : Rel K G own ρ σ H B) {p : Addr} {o : HO} (hp : H p = some o) (ht : isTb o = false) (hb : B p = none) (hg : G.pr p = none) (h0 : G.H p = none) (hn : NoRt own σ H p) (hI : noI own) : Ex B (upd B p o) ∧ Rel K G own ρ σ H (upd B p o) := by
  have eB : Ex B (upd B p o) := Ex.new hb
  refine ⟨eB, ⟨fun a u e => ?_, R.keep.pr, fun a u e => ?_, R.keep.b0.trans eB, R.keep.fr, R.keep.dom, fun a u e => ?_, R.keep.prn, R.keep.tk, R.keep.tab.grow ht⟩, R.lr, R.ls, fun j st hj => ?_, R.sep⟩
  · by_cases z : a = p
    · subst z; rw [upd_same] at e; rw [← e]; exact hp
    · rw [upd_ne z] at e; exact R.keep.bh a u e
  · rw [upd_ne (ne_of_none e hg)]; exact R.keep.prb a u e
  · rw [upd_ne (ne_of_none e h0)]; exact R.keep.old a u e
  · have := R.slot j st hj
    have own1 : st.own = true → SlotOk K G H (upd B p o) st (σ[j]?).join (look ρ j) := fun os => by
      obtain ⟨a, e, m, _⟩ := this.mok os
      refine SlotOk.keep this os e (m.stay (fun _ _ _ q => q) eB fun b rt => ?_) id id (fun b q => .inl q) fun _ _ q => q
      rw [upd_ne (fun z => hn j st hj os ⟨a, e, by rw [← z]; exact rt⟩)]; exact (m.has rt).2
    cases st with
    | U => trivial
    | V => obtain ⟨x, q1, q2⟩ := this; exact ⟨x, q1, q2.mono eB⟩
    | L => exact own1 rfl
    | R => exact own1 rfl
    | O => exact own1 rfl
    | M => exact own1 rfl
    | K => exact own1 rfl
    | T => exact own1 rfl
    | I => exact absurd hj (hI j)
end
end MP
namespace MP
open PySem L2
/-! ### instances with a dict -/
/-- what of the text such a class has -/
structure DCl (K : PySem.W.Frag) (c : Str) : Prop where
  cls : Cls K (He.ga K c)
  no : ∀ f ∈ flds c, NoAttr K (He.ga K c) f
  ne : (flds c).isEmpty = false
  nd : (flds c).Nodup
theorem zip_lookup : ∀ {ns : List Str} {us : List V} {i : Nat} {f : Str} {v : V}, ns.Nodup → ns[i]? = some f → us[i]? = some v → (ns.zip us).lookup f = some v
  | [], _, _, _, _, _, h, _ => by simp at h
  | _ :: _, [], _, _, _, _, _, h => by simp at h
  | n :: ns, u :: us, 0, f, v, _, h1, h2 => by simp at h1 h2; subst h1 h2; simp
  | n :: ns, u :: us, i + 1, f, v, nd, h1, h2 => by
    have hf : f ∈ ns := List.mem_of_getElem? (show ns[i]? = some f by simpa using h1)
    have ne : (f == n) = false := beq_eq_false_iff_ne.mpr fun z => (List.nodup_cons.mp nd).1 (z ▸ hf)
    rw [List.zip_cons_cons, List.lookup_cons, ne]
    exact zip_lookup (List.nodup_cons.mp nd).2 (by simpa using h1) (by simpa using h2)
theorem zip_none : ∀ {ns : List Str} {us : List V} {f : Str}, f ∉ ns → (ns.zip us).lookup f = none
  | [], _, _, _ => by simp
  | _ :: _, [], _, _ => by simp
  | n :: ns, u :: us, f, h => by
    have ne : (f == n) = false := beq_eq_false_iff_ne.mpr fun z => h (by simp [z])
    rw [List.zip_cons_cons, List.lookup_cons, ne]
    exact zip_none fun z => h (by simp [z])
theorem put_set : ∀ {ns : List Str} {us : List V} {i : Nat} {f : Str} {v : V}, ns.Nodup → ns[i]? = some f → i < us.length → putF f v (ns.zip us) = ns.zip (us.set i v)
  | [], _, _, _, _, _, h, _ => by simp at h
  | _ :: _, [], _, _, _, _, _, h => by simp at h
  | n :: ns, u :: us, 0, f, v, _, h1, _ => by simp at h1; subst h1; simp [putF]
  | n :: ns, u :: us, i + 1, f, v, nd, h1, h2 => by
    have hf : f ∈ ns := List.mem_of_getElem? (show ns[i]? = some f by simpa using h1)
    have ne : ¬ n = f := fun z => (List.nodup_cons.mp nd).1 (z ▸ hf)
    rw [List.zip_cons_cons, putF, if_neg ne, List.set_cons_succ, List.zip_cons_cons, put_set (List.nodup_cons.mp nd).2 (by simpa using h1) (by simpa using h2)]
theorem put_new : ∀ {ns : List Str} {us : List V} {f : Str} {v : V}, ns.Nodup → ns[us.length]? = some f → putF f v (ns.zip us) = ns.zip (us ++ [v])
  | [], _, _, _, _, h => by simp at h
  | n :: ns, [], f, v, _, h => by simp at h; subst h; simp [putF]
  | n :: ns, u :: us, f, v, nd, h => by
    have hf : f ∈ ns := List.mem_of_getElem? (show ns[us.length]? = some f by simpa using h)
    have ne : ¬ n = f := fun z => (List.nodup_cons.mp nd).1 (z ▸ hf)
    rw [List.zip_cons_cons, putF, if_neg ne, List.cons_append, List.zip_cons_cons, put_new (List.nodup_cons.mp nd).2 (by simpa using h)]
def putI {α : Type} (i : Nat) (d : α) (fs : List α) : List α := if i < fs.length then fs.set i d else fs ++ [d]
theorem put_I {ns : List Str} {us : List V} {i : Nat} {f : Str} {v : V} (nd : ns.Nodup) (h : ns[i]? = some f) (hi : i ≤ us.length) : putF f v (ns.zip us) = ns.zip (putI i v us) := by
  unfold putI
  split
  · rename_i q; exact put_set nd h q
  · rename_i q
    have : i = us.length := by omega
    subst this
    exact put_new nd h
theorem putI_get {α : Type} {i j : Nat} {d : α} {fs : List α} (h : i ≤ fs.length) : (putI i d fs)[j]? = if j = i then some d else fs[j]? := by
  unfold putI
  split
  · rename_i q
    by_cases e : j = i
    · subst e; rw [List.getElem?_set_self q, if_pos rfl]
    · rw [if_neg e, List.getElem?_set_ne (fun z => e z.symm)]
  · rename_i q
    have : i = fs.length := by omega
    subst this
    by_cases e : j = fs.length
    · subst e; simp
    · rw [if_neg e]
      by_cases l : j < fs.length
      · rw [List.getElem?_append_left l]
      · rw [List.getElem?_eq_none (by simp; omega), List.getElem?_eq_none (by omega)]
/-- one field -/
def F1 (K : PySem.W.Frag) (H B : Hp) (n : Str) (v : V) (d : D) : Prop := if boxF n = true then ∃ a, v = .ref a ∧ CellOk K H B a d ∧ boxK n d = true else Rep K B v d
theorem FOk.iff {K : PySem.W.Frag} {H B : Hp} : ∀ {ns : List Str} {us : List V} {fs : List D}, FOk K H B ns us fs ↔ (us.length = fs.length ∧ fs.length ≤ ns.length) ∧ ∀ (i : Nat) (n : Str) (v : V) (d : D), ns[i]? = some n → us[i]? = some v → fs[i]? = some d → F1 K H B n v d
  | _, [], [] => by
    refine ⟨fun _ => ⟨⟨rfl, by simp⟩, fun i n v d _ h => by simp at h⟩, fun _ => by unfold FOk; trivial⟩
  | n :: ns, u :: us, d :: ds => by
    have ih := FOk.iff (K := K) (H := H) (B := B) (ns := ns) (us := us) (fs := ds)
    constructor
    · rintro ⟨h1, h2⟩
      obtain ⟨⟨a, b⟩, c⟩ := ih.mp h2
      refine ⟨⟨by simp [a], by simp [b]⟩, fun i m v e q1 q2 q3 => ?_⟩
      cases i with
      | zero => simp at q1 q2 q3; subst q1 q2 q3; exact h1
      | succ i => exact c i m v e (by simpa using q1) (by simpa using q2) (by simpa using q3)
    · rintro ⟨⟨a, b⟩, c⟩
      exact ⟨c 0 n u d rfl rfl rfl, ih.mpr ⟨⟨by simpa using a, by simpa using b⟩, fun i m v e q1 q2 q3 => c (i + 1) m v e (by simpa using q1) (by simpa using q2) (by simpa using q3)⟩⟩
  | _ :: _, _ :: _, [] => ⟨fun h => h.elim, fun ⟨⟨a, _⟩, _⟩ => by simp at a⟩
  | [], _ :: _, [] => ⟨fun h => h.elim, fun ⟨⟨a, _⟩, _⟩ => by simp at a⟩
  | [], _ :: _, _ :: _ => ⟨fun h => h.elim, fun ⟨⟨_, a⟩, _⟩ => by simp at a⟩
  | [], [], _ :: _ => ⟨fun h => h.elim, fun ⟨⟨a, _⟩, _⟩ => by simp at a⟩
  | _ :: _, [], _ :: _ => ⟨fun h => h.elim, fun ⟨⟨a, _⟩, _⟩ => by simp at a⟩
section
variable {F : CF} {K : PySem.W.Frag} {mg : Str → Option Value} {Z : XC} {own own1 own' : List Stt} {N : List Str} {vis : List Bool} {gl : List Str} {k : Nat} {a b : Expr} {g h : M D} {pos : Pos} {P : Program} {w : World} {base : Heap} {ps : List Str} {f : Addr} {fd : FuncData}
theorem InOk.at {H B : Hp} {x dx : Addr} {c : Str} {us : List V} {fs : List D} (o : InOk K H B x dx c us fs) {i : Nat} {n : Str} {d : D} (h1 : (flds c)[i]? = some n) (h2 : fs[i]? = some d) : ∃ v, us[i]? = some v ∧ F1 K H B n v d := by
  obtain ⟨⟨a, b⟩, q⟩ := FOk.iff.mp o.fo
  have hl : i < fs.length := (List.getElem?_eq_some_iff.mp h2).1
  have e : us[i]? = some us[i] := List.getElem?_eq_getElem (by omega)
  exact ⟨_, e, q i n _ d h1 e h2⟩
/-- the instance of slot j -/
theorem Rel.insAt {G : Gam} {ρ : Env} {σ : L2.St} {H B : Hp} (R : Rel K G own ρ σ H B) {j : Nat} {st : Stt} (hj : own[j]? = some st) (hs : st.isO = true) : ∃ x dx c us fs, (σ[j]?).join = some (.ref x) ∧ look ρ j = .ins c fs ∧ InOk K H B x dx c us fs := by
  obtain ⟨a, e, m, _⟩ := (R.slot j st hj).mok (Stt.isO_own hs)
  obtain ⟨c, fs, er⟩ : ∃ c fs, look ρ j = .ins c fs := by
    have := (R.slot j st hj).knd (Stt.isO_own hs)
    cases st with
    | O => exact this
    | M => exact this
    | _ => cases hs
  rw [er] at m
  obtain ⟨dx, us, o⟩ := m
  exact ⟨a, dx, c, us, fs, e, er, o⟩
theorem kind_ins {st : Stt} (h : st.isO = true) (c : Str) (fs : List D) : st.kind (.ins c fs) := by
  cases st with
  | O => exact ⟨c, fs, rfl⟩
  | M => exact ⟨c, fs, rfl⟩
  | _ => cases h
/-- x.f, x an instance of the frame's own, f a field with a value -/
def fldO (c : Str) (i j : Nat) : M D := fun ρ => ofO (fldD c i (look ρ j)) ρ
theorem ex_fldO (S : Sx F K mg N vis gl k) {c : Str} (C : DCl K c) (i j : Nat) {st : Stt} {x n : Str} {px : Pos} (hi : (flds c)[i]? = some n := by decide +kernel) (hn : boxF n = false := by decide +kernel) (hN : N[j]? = some x := by rfl) (hv : vis[j]? = some true := by rfl) (ho : own[j]? = some st := by rfl) (hst : st.isO = true := by rfl)
    (hb : ∀ X, F X → attributeBase (.Name x px) n X.env (eval (.Name x px) X.env) = eval (.Name x px) X.env := by intro _ _; rfl) : EX F K Z own (.Attribute (.Name x px) n pos) (fldO c i j) := by
  refine ⟨tFld K (tVar j) n, fun X hX => let ⟨v1, v2, v3⟩ := S.vis X hX j x hv hN; atK (S.hK X hX) (fun K => PE X _ (tFld K (tVar j) n)) (pe_fld (pe_var (by rw [S.hN X hX]; exact hN) v1 v2 v3) (hb X hX)), fun G ρ σ H B R => ?_⟩
  obtain ⟨a, dx, c', us, fs, ea, er, o⟩ := R.insAt ho hst
  refine Run.imp (p := fun Q => ∃ v, us[i]? = some v ∧ c' = c ∧ Q v H) (Run.prim R ?_) fun Q ⟨v, hv, hc, q⟩ => ?_
  · rw [er]
    show Prim K (RV K) (if c' = c then fs[i]? else none) H B _
    split
    · rename_i hc
      subst hc
      cases hd : fs[i]? with
      | none => trivial
      | some d =>
        obtain ⟨v, e1, e2⟩ := o.at hi hd
        unfold F1 at e2
        rw [if_neg (by rw [hn]; decide)] at e2
        exact Prim.now R.keep.bh e2 fun Q q => ⟨v, e1, rfl, q⟩
    · trivial
  · subst hc
    exact ⟨.ref a, join_some ea, a, _, dx, _, v, rfl, o.hx, C.cls, C.no n (List.mem_of_getElem? hi), zip_lookup C.nd hi hv, q⟩
/-- a.f, a a plain instance with a dict -/
theorem ex_fldV (S : Sx F K mg N vis gl k) {c : Str} (C : DCl K c) (i : Nat) {n : Str} (ha : EX F K Z own a g) (hi : (flds c)[i]? = some n := by decide +kernel) (hb : ∀ X, F X → attributeBase a n X.env (eval a X.env) = eval a X.env := by intro _ _; rfl) : EX F K Z own (.Attribute a n pos) (op1 (fldD c i) g) := by
  obtain ⟨ta, pa, ha⟩ := ha
  refine ⟨tFld K ta n, fun X hX => atK (S.hK X hX) (fun K => PE X _ (tFld K ta n)) (pe_fld (pa X hX) (hb X hX)), fun G ρ σ H B R => ?_⟩
  refine Run.thn (p2 := fun y H1 Q => ∃ a C dx fs v, y = .ref a ∧ H1 a = some (.ins C dx fs) ∧ Cls K C ∧ NoAttr K C n ∧ fs.lookup n = some v ∧ Q v H1) (ha G ρ σ H B R) fun d ρ1 v H1 B1 _ e R1 l => Run.prim R1 ?_
  cases d with
  | ins c' ds =>
    show Prim K _ (if c' = c then ds[i]? else none) H1 B1 _
    split
    · rename_i ec
      subst ec
      cases hd : ds[i]? with
      | none => trivial
      | some d =>
        cases l with
        | sl n _ _ => rw [C.ne] at n; cases n
        | di _ _ h1 h2 rs =>
          obtain ⟨v, hv, r⟩ := rs.get hd
          exact Prim.now R1.keep.bh r fun Q q => ⟨_, _, _, _, v, rfl, R1.keep.bh _ _ h1, C.cls, C.no n (List.mem_of_getElem? hi), zip_lookup C.nd hi hv, q⟩
    · trivial
  | _ => trivial
/-! ### a field is set -/
theorem mem_get {α : Type} {l : List α} {x : α} (h : x ∈ l) : ∃ i : Nat, l[i]? = some x := by
  obtain ⟨i, hi, e⟩ := List.mem_iff_getElem.mp h
  exact ⟨i, by rw [List.getElem?_eq_getElem hi, e]⟩
theorem zip_get {ns : List Str} {us : List V} {i : Nat} {f : Str} {v : V} : (ns.zip us)[i]? = some (f, v) ↔ ns[i]? = some f ∧ us[i]? = some v := by
  rw [List.getElem?_zip_eq_some]
/-- the object with one field set: the value v, told as d -/
theorem InOk.put {H B : Hp} {x dx : Addr} {c : Str} {us : List V} {fs : List D} (o : InOk K H B x dx c us fs) (C : DCl K c) {i : Nat} {n : Str} {v : V} {d : D} (hi : (flds c)[i]? = some n) (hl : i ≤ fs.length) (hv : F1 K H B n v d) (hne : ∀ a, v = .ref a → boxF n = true → a ≠ x ∧ a ≠ dx ∧ ∀ (m : Str), boxF m = true → (m, V.ref a) ∉ (flds c).zip us) :
    InOk K (upd H x (.ins (He.ga K c) dx ((flds c).zip (putI i v us)))) B x dx c (putI i v us) (putI i d fs) := by
  obtain ⟨⟨l1, l2⟩, q⟩ := FOk.iff.mp o.fo
  have hne0 : dx ≠ x := fun z => by have := o.hd; rw [z, o.hx] at this; cases this
  have hil : i < (flds c).length := (List.getElem?_eq_some_iff.mp hi).1
  have stay : ∀ {m : Str} {u : V} {e : D}, F1 K H B m u e → F1 K (upd H x (.ins (He.ga K c) dx ((flds c).zip (putI i v us)))) B m u e := fun {m u e} h => by
    unfold F1 at h ⊢
    split at h
    · rename_i hb
      rw [if_pos hb]
      obtain ⟨p, rfl, cl, kd⟩ := h
      refine ⟨p, rfl, cl.stay (fun o' e' => ?_) Ex.rfl cl.has.2, kd⟩
      have : p ≠ x := fun z => by
        obtain ⟨⟨o2, e2, _, n2⟩, _⟩ := cl.has
        rw [z, o.hx] at e2; cases e2; exact n2 _ _ _ rfl
      rw [upd_ne this]; exact e'
    · rename_i hb
      rw [if_neg hb]; exact h
  have lp : ∀ {α : Type} {d : α} {l : List α}, i ≤ l.length → (putI i d l).length = max l.length (i + 1) := fun {α d l} h => by
    unfold putI
    split
    · simp; omega
    · simp; omega
  refine ⟨upd_same, by rw [upd_ne hne0]; exact o.hd, FOk.iff.mpr ⟨⟨by rw [lp (by omega), lp hl, l1], by rw [lp hl]; omega⟩, fun j m u e h1 h2 h3 => ?_⟩, o.bx, o.bd, o.ne, fun j j' m m' p bm bm' h1 h2 => ?_⟩
  · rw [putI_get (by omega)] at h2
    rw [putI_get hl] at h3
    by_cases z : j = i
    · subst z
      rw [if_pos rfl] at h2 h3
      rw [hi] at h1
      cases h1; cases h2; cases h3
      exact stay hv
    · rw [if_neg z] at h2 h3
      exact stay (q j m u e h1 h2 h3)
  · obtain ⟨a1, a2⟩ := zip_get.mp h1
    obtain ⟨b1, b2⟩ := zip_get.mp h2
    rw [putI_get (by omega)] at a2 b2
    by_cases z : j = i
    · by_cases z' : j' = i
      · exact z.trans z'.symm
      · rw [if_pos z] at a2
        rw [if_neg z'] at b2
        cases a2
        rw [z, hi] at a1
        cases a1
        exact ((hne p rfl bm).2.2 m' bm' (List.mem_of_getElem? (zip_get.mpr ⟨b1, b2⟩))).elim
    · rw [if_neg z] at a2
      by_cases z' : j' = i
      · rw [if_pos z'] at b2
        cases b2
        rw [z', hi] at b1
        cases b1
        exact ((hne p rfl bm').2.2 m bm (List.mem_of_getElem? (zip_get.mpr ⟨a1, a2⟩))).elim
      · rw [if_neg z'] at b2
        exact o.un j j' m m' p bm bm' (zip_get.mpr ⟨a1, a2⟩) (zip_get.mpr ⟨b1, b2⟩)
/-- the slots behind it -/
theorem Rel.putFld {G : Gam} {ρ : Env} {σ : L2.St} {H B : Hp} (R : Rel K G own ρ σ H B) {j : Nat} {st : Stt} (hj : own[j]? = some st) (hs : st.isO = true) {x dx : Addr} {c : Str} {us : List V} {fs : List D} (ex : (σ[j]?).join = some (.ref x)) (el : look ρ j = .ins c fs) (o : InOk K H B x dx c us fs) (C : DCl K c) {i : Nat} {n : Str} {v : V} {d : D} (hi : (flds c)[i]? = some n) (hl : i ≤ fs.length) (hv : F1 K H B n v d)
    (hf : ∀ a, v = .ref a → boxF n = true → ((G.pr a = none ∧ G.H a = none) ∧ NoRt own σ H a)) (nI : noI own) :
    putF n v ((flds c).zip us) = (flds c).zip (putI i v us) ∧ Rel K G own (ρ.set j (.ins c (putI i d fs))) σ (upd H x (.ins (He.ga K c) dx ((flds c).zip (putI i v us)))) B := by
  obtain ⟨⟨l1, l2⟩, _⟩ := FOk.iff.mp o.fo
  have hil : i < (flds c).length := (List.getElem?_eq_some_iff.mp hi).1
  have rx : ∀ p, Root H x p → p = x ∨ p = dx ∨ ∃ f, boxF f = true ∧ (f, V.ref p) ∈ (flds c).zip us := fun p r => by
    rcases r with r | ⟨_, _, _, e, r⟩
    · exact .inl r
    · rw [o.hx] at e; cases e; exact .inr r
  have o2 := o.put C hi hl hv fun p ep bp => by
    obtain ⟨_, nr⟩ := hf p ep bp
    have no : ∀ p', Root H x p' → p' = p → False := fun p' r z => nr j st hj (Stt.isO_own hs) ⟨x, ex, by rw [← z]; exact r⟩
    exact ⟨fun z => no x .self z.symm, fun z => no dx (.inr ⟨_, _, _, o.hx, .inl rfl⟩) z.symm, fun m bm z => no p (.inr ⟨_, _, _, o.hx, .inr ⟨m, bm, z⟩⟩) rfl⟩
  refine ⟨put_I C.nd hi (by omega), ?_⟩
  refine R.changedG hj (Stt.isO_own hs) ex Ex.rfl (fun p u e => ?_) (fun p u e nr _ => ?_) (fun p u e => ?_) (TabsK.put o.hx ⟨rfl, rfl⟩) (fun p r => ?_) (R.keep.tab.put o.hx ⟨rfl, rfl⟩ rfl) (fun _ _ _ => rfl) ⟨dx, _, o2⟩ (fun hfs => ?_) (kind_ins hs _ _) (.inr nI)
  · rw [upd_ne (ne_of_none e o.bx)]; exact R.keep.bh p u e
  · rw [upd_ne (fun z => nr (.inl z))]; exact e
  · by_cases z : p = x
    · subst z; exact ⟨_, upd_same⟩
    · exact ⟨u, by rw [upd_ne z]; exact e⟩
  · rcases r with r | ⟨_, _, _, e, r⟩
    · exact .inl (.inl r)
    · rw [upd_same] at e
      cases e
      rcases r with r | ⟨m, bm, r⟩
      · exact .inl (.inr ⟨_, _, _, o.hx, .inl r⟩)
      · obtain ⟨q, hq⟩ := mem_get r
        obtain ⟨q1, q2⟩ := zip_get.mp hq
        rw [putI_get (by omega)] at q2
        by_cases z : q = i
        · rw [if_pos z] at q2
          cases q2
          rw [z, hi] at q1
          cases q1
          exact .inr (hf p rfl bm)
        · rw [if_neg z] at q2
          exact .inl (.inr ⟨_, _, _, o.hx, .inr ⟨m, bm, List.mem_of_getElem? (zip_get.mpr ⟨q1, q2⟩)⟩⟩)
  · have x0 := ((SlotOk.split (Stt.isO_own hs)).mp (R.slot j st hj)).1
    rw [if_pos hfs] at x0
    obtain ⟨_, _, ⟨_, fu⟩, _⟩ := x0
    rw [el] at fu
    have fu : fs.length = (flds c).length := fu
    show (putI i d fs).length = _
    unfold putI
    rw [if_pos (by omega), List.length_set, fu]
def setF (c : Str) (i j : Nat) (g : M D) : SM := sbd g fun d ρ => match look ρ j with
  | .ins c' fs => if c' = c ∧ i ≤ fs.length then .nx (ρ.set j (.ins c' (putI i d fs))) else .bad
  | _ => .bad
theorem st_setF {C : Ctl} (S : Sx F K mg N vis gl k) {c : Str} (Cc : DCl K c) (i j : Nat) {st : Stt} {x n : Str} {e : Expr} {px pn pos' : Pos} (h : EX F K C.Z own e g) (hi : (flds c)[i]? = some n := by decide +kernel) (hn : boxF n = false := by decide +kernel) (hN : N[j]? = some x := by rfl) (hv : vis[j]? = some true := by rfl) (ho : own[j]? = some st := by rfl) (hst : st.isO = true := by rfl) (hI : noIB own = true := by rfl) (hfl : (flds c).length ≤ 900 := by decide +kernel)
    (hs : ∀ X, F X → swapsWith e (some (.Attribute (.Name x px) n pn)) pos'.line X.env = pure false := by intro _ _; rfl) : ST F K C own (.Assign [.Attribute (.Name x px) n pn] e pos') (setF c i j g) own := by
  obtain ⟨t, p, h⟩ := h
  refine ⟨sFld K (tVar j) t n, fun X hX => let ⟨v1, v2, v3⟩ := S.vis X hX j x hv hN; atK (S.hK X hX) (fun K => PS X _ (sFld K (tVar j) t n)) (ps_fld (pe_var (by rw [S.hN X hX]; exact hN) v1 v2 v3) (p X hX) (hs X hX)), fun G ρ σ H B R => ?_⟩
  refine SRun.ofE (p2 := fun v H1 E => ∃ z, σ[j]? = some (some z) ∧ ∃ a C dx fs, z = .ref a ∧ H1 a = some (.ins C dx fs) ∧ Cls K C ∧ NoAttr K C n ∧ fs.length < 1000 ∧ E.nx σ (upd H1 a (.ins C dx (putF n v fs)))) (h G ρ σ H B R) fun d ρ1 v H1 B1 _ e R1 l E hE => ?_
  obtain ⟨a, dx, c', us, fs, ea, er, o⟩ := R1.insAt ho hst
  rw [er] at hE
  change SPost K C G own (if c' = c ∧ i ≤ fs.length then .nx (ρ1.set j (.ins c' (putI i d fs))) else .bad) B1 E at hE
  by_cases hc : c' = c ∧ i ≤ fs.length
  · rw [if_pos hc] at hE
    obtain ⟨rfl, hlen⟩ := hc
    have f1 : F1 K H1 B1 n v d := by unfold F1; rw [if_neg (by rw [hn]; decide)]; exact l
    obtain ⟨e1, R2⟩ := R1.putFld ho hst ea er o Cc hi hlen f1 (fun _ _ z => by rw [hn] at z; cases z) (noI_of hI)
    refine ⟨_, join_some ea, a, _, dx, _, rfl, o.hx, Cc.cls, Cc.no n (List.mem_of_getElem? hi), ?_, ?_⟩
    · rw [List.length_zip]; omega
    · rw [e1]; exact hE σ _ B1 Ex.rfl R2
  · rw [if_neg hc] at hE; exact hE.elim
/-- x.f = a new list -/
def setFL (c : Str) (i j : Nat) (g : M (List D)) : SM := sbd g fun ds ρ => match look ρ j with
  | .ins c' fs => if c' = c ∧ i ≤ fs.length then .nx (ρ.set j (.ins c' (putI i (.lst ds) fs))) else .bad
  | _ => .bad
theorem st_setFL {C : Ctl} (S : Sx F K mg N vis gl k) {c : Str} (Cc : DCl K c) (i j : Nat) {st : Stt} {x n : Str} {e : Expr} {g : M (List D)} {px pn pos' : Pos} (h : EL F K C.Z own e g) (hi : (flds c)[i]? = some n := by decide +kernel) (hn : LBOX.elem n = true := by decide +kernel) (hN : N[j]? = some x := by rfl) (hv : vis[j]? = some true := by rfl) (ho : own[j]? = some st := by rfl) (hst : st.isO = true := by rfl) (hI : noIB own = true := by rfl) (hfl : (flds c).length ≤ 900 := by decide +kernel)
    (hs : ∀ X, F X → swapsWith e (some (.Attribute (.Name x px) n pn)) pos'.line X.env = pure false := by intro _ _; rfl) : ST F K C own (.Assign [.Attribute (.Name x px) n pn] e pos') (setFL c i j g) own := by
  obtain ⟨t, p, h⟩ := h
  refine ⟨sFld K (tVar j) t n, fun X hX => let ⟨v1, v2, v3⟩ := S.vis X hX j x hv hN; atK (S.hK X hX) (fun K => PS X _ (sFld K (tVar j) t n)) (ps_fld (pe_var (by rw [S.hN X hX]; exact hN) v1 v2 v3) (p X hX) (hs X hX)), fun G ρ σ H B R => ?_⟩
  refine SRun.ofE (p2 := fun v H1 E => ∃ z, σ[j]? = some (some z) ∧ ∃ a C dx fs, z = .ref a ∧ H1 a = some (.ins C dx fs) ∧ Cls K C ∧ NoAttr K C n ∧ fs.length < 1000 ∧ E.nx σ (upd H1 a (.ins C dx (putF n v fs)))) (h G ρ σ H B R) fun ds ρ1 v H1 B1 _ e R1 l E hE => ?_
  obtain ⟨a, dx, c', us, fs, ea, er, o⟩ := R1.insAt ho hst
  rw [er] at hE
  change SPost K C G own (if c' = c ∧ i ≤ fs.length then .nx (ρ1.set j (.ins c' (putI i (.lst ds) fs))) else .bad) B1 E at hE
  by_cases hc : c' = c ∧ i ≤ fs.length
  · rw [if_pos hc] at hE
    obtain ⟨rfl, hlen⟩ := hc
    obtain ⟨p, rfl, lp, gp, np⟩ := l
    have hb : boxF n = true := by unfold boxF; rw [hn]; rfl
    have f1 : F1 K H1 B1 n (.ref p) (.lst ds) := by unfold F1; rw [if_pos hb]; exact ⟨p, rfl, lp, hn⟩
    obtain ⟨e1, R2⟩ := R1.putFld ho hst ea er o Cc hi hlen f1 (fun q z _ => by cases z; exact ⟨gp, np⟩) (noI_of hI)
    refine ⟨_, join_some ea, a, _, dx, _, rfl, o.hx, Cc.cls, Cc.no n (List.mem_of_getElem? hi), ?_, ?_⟩
    · rw [List.length_zip]; omega
    · rw [e1]; exact hE σ _ B1 Ex.rfl R2
  · rw [if_neg hc] at hE; exact hE.elim
end
end MP
namespace MP
open PySem L2
/-! ### lists of an instance's own, where they are read at once -/
/-- e is a list of the frame's own: l tells its items -/
def OL (F : CF) (K : PySem.W.Frag) (own : List Stt) (e : Expr) (l : Env → Option (List D)) : Prop :=
  ∃ t : TE, (∀ X, F X → PE X e t) ∧ ∀ G ρ σ H B, Rel K G own ρ σ H B → ∀ rs, l ρ = some rs → ∃ a us, (H a = some (.lst us) ∧ Reps K B us rs ∧ rs.length ≤ sizeLine ∧ B a = none) ∧ ∀ Q : VK, Q (.ref a) H → t σ H Q
/-- e is pure: nothing but growth -/
def PX (F : CF) (K : PySem.W.Frag) (own : List Stt) (e : Expr) (g : Env → Option D) : Prop :=
  ∃ t : TE, (∀ X, F X → PE X e t) ∧ ∀ G ρ σ H B, Rel K G own ρ σ H B → Prim K (RV K) (g ρ) H B (t σ H)
def lstO : Option D → Option (List D)
  | some (.lst rs) => some rs
  | _ => none
theorem lstO_some {o : Option D} {rs : List D} (h : lstO o = some rs) : o = some (.lst rs) := by
  unfold lstO at h
  split at h
  · cases h; rfl
  · cases h
def boxL (c : Str) (i j : Nat) : Env → Option (List D) := fun ρ => lstO (fldD c i (look ρ j))
section
variable {F : CF} {K : PySem.W.Frag} {mg : Str → Option Value} {Z : XC} {own own1 own' : List Stt} {N : List Str} {vis : List Bool} {gl : List Str} {k : Nat} {a b : Expr} {g h : M D} {pos : Pos} {P : Program} {w : World} {base : Heap} {ps : List Str} {f : Addr} {fd : FuncData}
theorem px_var (S : Sx F K mg N vis gl k) (i : Nat) {x : Str} {pos : Pos} (hN : N[i]? = some x := by rfl) (hv : vis[i]? = some true := by rfl) (ho : own[i]? = some .V := by rfl) : PX F K own (.Name x pos) (fun ρ => some (look ρ i)) := by
  refine ⟨_, fun X hX => let ⟨v1, v2, v3⟩ := S.vis X hX i x hv hN; pe_var (by rw [S.hN X hX]; exact hN) v1 v2 v3, fun G ρ σ H B R => ?_⟩
  obtain ⟨v, e, r⟩ := R.slot i .V ho
  exact Prim.now R.keep.bh r fun Q q => ⟨v, join_some e, q⟩
theorem fld_lst {H B : Hp} {x dx : Addr} {c : Str} {us : List V} {fs : List D} (o : InOk K H B x dx c us fs) {i : Nat} {n : Str} {rs : List D} (hi : (flds c)[i]? = some n) (hn : LBOX.elem n = true) (hd : fs[i]? = some (.lst rs)) : ∃ p, us[i]? = some (.ref p) ∧ LstOk K H B p rs := by
  obtain ⟨v, e1, e2⟩ := o.at hi hd
  have hb : boxF n = true := by unfold boxF; rw [hn]; rfl
  unfold F1 at e2
  rw [if_pos hb] at e2
  obtain ⟨p, rfl, cl, _⟩ := e2
  exact ⟨p, e1, cl⟩
theorem boxL_inv {c : Str} {i j : Nat} {ρ : Env} {c' : Str} {fs rs : List D} (hl : look ρ j = .ins c' fs) (h : boxL c i j ρ = some rs) : c' = c ∧ fs[i]? = some (.lst rs) := by
  unfold boxL at h
  have := lstO_some h
  rw [hl] at this
  have this : (if c' = c then fs[i]? else none) = some (.lst rs) := this
  split at this
  · exact ⟨‹_›, this⟩
  · cases this
theorem ol_fld (S : Sx F K mg N vis gl k) {c : Str} (C : DCl K c) (i j : Nat) {st : Stt} {x n : Str} {px : Pos} (hi : (flds c)[i]? = some n := by decide +kernel) (hn : LBOX.elem n = true := by decide +kernel) (hN : N[j]? = some x := by rfl) (hv : vis[j]? = some true := by rfl) (ho : own[j]? = some st := by rfl) (hst : st.isO = true := by rfl)
    (hb : ∀ X, F X → attributeBase (.Name x px) n X.env (eval (.Name x px) X.env) = eval (.Name x px) X.env := by intro _ _; rfl) : OL F K own (.Attribute (.Name x px) n pos) (boxL c i j) := by
  refine ⟨tFld K (tVar j) n, fun X hX => let ⟨v1, v2, v3⟩ := S.vis X hX j x hv hN; atK (S.hK X hX) (fun K => PE X _ (tFld K (tVar j) n)) (pe_fld (pe_var (by rw [S.hN X hX]; exact hN) v1 v2 v3) (hb X hX)), fun G ρ σ H B R rs hrs => ?_⟩
  obtain ⟨a, dx, c', us, fs, ea, er, o⟩ := R.insAt ho hst
  obtain ⟨rfl, hd⟩ := boxL_inv er hrs
  obtain ⟨p, e1, us', hu, ru, hz, hb⟩ := fld_lst o hi hn hd
  exact ⟨p, us', ⟨hu, ru, hz, hb⟩, fun Q q => ⟨.ref a, join_some ea, a, _, dx, _, .ref p, rfl, o.hx, C.cls, C.no n (List.mem_of_getElem? hi), zip_lookup C.nd hi e1, q⟩⟩
/-- an operation that tells something flat of a value and a list of the frame's own -/
theorem opd_own {r : R2} {ff : D → D → Option D} (hf : OpD K r ff) {H B : Hp} (bh : Ex B H) {x : V} {d : D} {p : Addr} {us : List V} {rs : List D} (rx : Rep K B x d) (hp : H p = some (.lst us)) (ru : Reps K B us rs) (hz : rs.length ≤ sizeLine) (hb : B p = none) {e : Bool} (he : ff d (.lst rs) = some (.bl e)) : Prim K (RV K) (some (.bl e)) H B (r x (.ref p) H) := by
  have eB : Ex B (upd B p (.lst us)) := Ex.new hb
  have bh2 : Ex (upd B p (.lst us)) H := fun a o q => by
    by_cases z : a = p
    · subst z; rw [upd_same] at q; rw [← q]; exact hp
    · rw [upd_ne z] at q; exact bh a o q
  have := hf x (.ref p) d (.lst rs) H _ bh2 (rx.mono eB) (.lst (.inl (.inl upd_same)) (ru.mono eB) hz)
  rw [he] at this
  intro Q q
  refine this Q fun v H' B' n l => ?_
  cases l
  exact q _ H' B ⟨Ex.rfl, n.h, n.dm, (eB.trans n.b).trans n.bh, fun _ _ _ => rfl, n.tk, n.th, id⟩ (.bl e)
def blO : Option D → Option D
  | some (.bl b) => some (.bl b)
  | _ => none
/-- x in l -/
def inOL (neg : Bool) (g : M D) (l : Env → Option (List D)) : M D := bnd g fun x ρ => ofO (blO ((l ρ).bind fun rs => inD neg x (.lst rs))) ρ
theorem run_inOL {neg : Bool} {l : Env → Option (List D)} {ta tb : TE} (ha : ∀ G ρ σ H B, Rel K G own ρ σ H B → Run K Z G own (RV K) (g ρ) σ B (ta σ H))
    (hb : ∀ G ρ σ H B, Rel K G own ρ σ H B → ∀ rs, l ρ = some rs → ∃ a us, (H a = some (.lst us) ∧ Reps K B us rs ∧ rs.length ≤ sizeLine ∧ B a = none) ∧ ∀ Q : VK, Q (.ref a) H → tb σ H Q) {G : Gam} {ρ : Env} {σ : L2.St} {H B : Hp} (R : Rel K G own ρ σ H B) : Run K Z G own (RV K) (inOL neg g l ρ) σ B (tOp (rIn2 K neg) ta tb σ H) := by
  refine Run.thn (p2 := fun x H1 Q => tb σ H1 fun y H2 => rIn2 K neg x y H2 Q) (ha G ρ σ H B R) fun d ρ1 v H1 B1 _ e R1 rx => ?_
  show Run K Z G own (RV K) (ofO (blO ((l ρ1).bind fun rs => inD neg d (.lst rs))) ρ1) σ B1 _
  cases hl : l ρ1 with
  | none => trivial
  | some rs =>
    show Run K Z G own (RV K) (ofO (blO (inD neg d (.lst rs))) ρ1) σ B1 _
    cases hi : inD neg d (.lst rs) with
    | none => trivial
    | some q =>
      cases q with
      | bl bb =>
        obtain ⟨p, us, ⟨hp, ru, hz, hbp⟩, hq⟩ := hb G ρ1 σ H1 B1 R1 rs hl
        exact Run.prim R1 fun Q q => hq _ (opd_own (od_in neg) R1.keep.bh rx hp ru hz hbp hi Q q)
      | _ => trivial
theorem et_inOL (S : Sx F K mg N vis gl k) {l : Env → Option (List D)} (ha : EX F K Z own a g) (hb : OL F K own b l) (hm : behindInMarks .In b = false := by rfl) : ET F K Z own (.Compare a [.In] [b] pos) (asB (inOL false g l)) := by
  obtain ⟨ta, pa, ha⟩ := ha
  obtain ⟨tb, pb, hb⟩ := hb
  exact ⟨_, fun X hX => pt_cmpR (rl_in S X hX) (pa X hX) (pb X hX) hm, fun G ρ σ H B R => Run.asB (g := inOL false g l) (run_inOL ha hb R)⟩
/-- l[i] -/
def ixOL (l : Env → Option (List D)) (p : Env → Option D) : M D := fun ρ => ofO ((l ρ).bind fun rs => (p ρ).bind fun i => ixD (.lst rs) i) ρ
/-- len(l) -/
def lenOL (l : Env → Option (List D)) : M D := fun ρ => ofO ((l ρ).map fun rs => .int rs.length) ρ
/-- *l in a display -/
def starOL (l : Env → Option (List D)) (h : M (List D)) : M (List D) := fun ρ => (ofO (l ρ) ρ).bnd fun as => bnd h fun xs => ret (as ++ xs)
/-- l == [], l != [] -/
def nilOL (ne : Bool) (l : Env → Option (List D)) : M D := fun ρ => ofO ((l ρ).bind fun rs => if okD (.lst rs) then some (.bl (xor ne rs.isEmpty)) else none) ρ
end
end MP
namespace MP
open PySem L2
section
variable {F : CF} {K : PySem.W.Frag} {mg : Str → Option Value} {Z : XC} {own own1 own' : List Stt} {N : List Str} {vis : List Bool} {gl : List Str} {k : Nat} {a b : Expr} {g h : M D} {pos : Pos} {P : Program} {w : World} {base : Heap} {ps : List Str} {f : Addr} {fd : FuncData}
/-! ### a list in a field is changed -/
/-- a cell of the instance takes another form -/
theorem InOk.cell {H B : Hp} {x dx : Addr} {c : Str} {us : List V} {fs : List D} (o : InOk K H B x dx c us fs) {i : Nat} {n : Str} {p : Addr} {u : HO} {d d' : D} (hi : (flds c)[i]? = some n) (hn : boxF n = true) (hu : us[i]? = some (.ref p)) (hp : CellOk K H B p d) (hd : CellOk K (upd H p u) B p d') (hk : boxK n d' = true) : InOk K (upd H p u) B x dx c us (fs.set i d') := by
  obtain ⟨⟨l1, l2⟩, q⟩ := FOk.iff.mp o.fo
  obtain ⟨⟨o0, e0, _, n0⟩, b0⟩ := hp.has
  have hx : x ≠ p := fun z => by have := o.hx; rw [z, e0] at this; cases this; exact n0 _ _ _ rfl
  have hdx : dx ≠ p := fun z => by
    have := o.hd
    rw [z] at this
    cases d with
    | lst ds => obtain ⟨_, e, _⟩ := hp; rw [e] at this; cases this
    | dk lk ks ds => obtain ⟨_, _, e, _⟩ := hp; rw [e] at this; cases this
    | dt lk ks ds => obtain ⟨_, _, e, _⟩ := hp; rw [e] at this; cases this
    | _ => exact hp
  refine ⟨by rw [upd_ne hx]; exact o.hx, by rw [upd_ne hdx]; exact o.hd, FOk.iff.mpr ⟨⟨by simpa using l1, by simpa using l2⟩, fun j m v e h1 h2 h3 => ?_⟩, o.bx, o.bd, o.ne, o.un⟩
  by_cases z : j = i
  · subst z
    have hl : j < fs.length := by rw [← l1]; exact (List.getElem?_eq_some_iff.mp h2).1
    rw [List.getElem?_set_self hl] at h3
    rw [hi] at h1
    rw [hu] at h2
    cases h1; cases h2; cases h3
    unfold F1
    rw [if_pos hn]
    exact ⟨p, rfl, hd, hk⟩
  · rw [List.getElem?_set_ne (fun w => z w.symm)] at h3
    have := q j m v e h1 h2 h3
    unfold F1 at this ⊢
    split at this
    · rename_i hm
      rw [if_pos hm]
      obtain ⟨p', rfl, cl, kd⟩ := this
      refine ⟨p', rfl, cl.stay (fun o' e' => ?_) Ex.rfl cl.has.2, kd⟩
      have : p' ≠ p := fun w => z (o.un j i m n p hm hn (zip_get.mpr ⟨h1, by rw [← w]; exact h2⟩) (zip_get.mpr ⟨hi, hu⟩))
      rw [upd_ne this]; exact e'
    · rename_i hm
      rw [if_neg hm]; exact this
theorem Rel.putCell {G : Gam} {ρ : Env} {σ : L2.St} {H B : Hp} (R : Rel K G own ρ σ H B) {j : Nat} {st : Stt} (hj : own[j]? = some st) (hs : st.isO = true) {x dx : Addr} {c : Str} {us : List V} {fs : List D} (ex : (σ[j]?).join = some (.ref x)) (el : look ρ j = .ins c fs) (o : InOk K H B x dx c us fs) {i : Nat} {n : Str} {p : Addr} {u : HO} {d d' : D} (hi : (flds c)[i]? = some n) (hn : boxF n = true) (hu : us[i]? = some (.ref p)) (hp : CellOk K H B p d) (hd : CellOk K (upd H p u) B p d') (hk : boxK n d' = true) (nI : noI own) :
    Rel K G own (ρ.set j (.ins c (fs.set i d'))) σ (upd H p u) B := by
  obtain ⟨⟨o0, e0, po, n0⟩, b0⟩ := hp.has
  obtain ⟨⟨u0, eu, pu, _⟩, _⟩ := hd.has
  rw [upd_same] at eu
  cases eu
  have hx : x ≠ p := fun z => by have := o.hx; rw [z, e0] at this; cases this; exact n0 _ _ _ rfl
  have rp : Root H x p := .inr ⟨_, _, _, o.hx, .inr ⟨n, hn, List.mem_of_getElem? (zip_get.mpr ⟨hi, hu⟩)⟩⟩
  refine R.changedG hj (Stt.isO_own hs) ex Ex.rfl (fun b q e => ?_) (fun b q e nr _ => ?_) (fun b q e => ?_) (TabsK.put e0 po) (fun b r => ?_) (R.keep.tab.put e0 po pu.1) (fun _ _ _ => rfl) ⟨dx, us, o.cell hi hn hu hp hd hk⟩ (fun hfs => ?_) (kind_ins hs _ _) (.inr nI)
  · rw [upd_ne (ne_of_none e b0)]; exact R.keep.bh b q e
  · rw [upd_ne (fun z => nr (by rw [z]; exact rp))]; exact e
  · by_cases z : b = p
    · subst z; exact ⟨_, upd_same⟩
    · exact ⟨q, by rw [upd_ne z]; exact e⟩
  · exact .inl ((Root.congr (upd_ne hx)).mp r)
  · have x0 := ((SlotOk.split (Stt.isO_own hs)).mp (R.slot j st hj)).1
    rw [if_pos hfs] at x0
    obtain ⟨_, _, ⟨_, fu⟩, _⟩ := x0
    rw [el] at fu
    have fu : fs.length = (flds c).length := fu
    show (fs.set i d').length = _
    rw [List.length_set, fu]
theorem InOk.stay2 {H B H' B' : Hp} {x dx : Addr} {c : Str} {us : List V} {fs : List D} (o : InOk K H B x dx c us fs) (n : New K B H B' H') : InOk K H' B' x dx c us fs := by
  have m : MOk K H B x (.ins c fs) := ⟨dx, us, o⟩
  have k : ∀ b o', Root H x b → H b = some o' → H' b = some o' := fun b o' r e => by
    obtain ⟨⟨o2, e2, p⟩, _⟩ := m.has r
    rw [e] at e2; cases e2
    exact n.h b o' e p.1
  have bb : ∀ b, Root H x b → B' b = none := fun b r => by
    obtain ⟨⟨o', e', _⟩, q⟩ := m.has r
    exact (n.old b o' e').trans q
  have rx : Root H x x := .inl rfl
  have rd : Root H x dx := .inr ⟨_, _, _, o.hx, .inl rfl⟩
  exact ⟨k _ _ rx o.hx, k _ _ rd o.hd, o.fo.stay n.b fun f a hf m => ⟨fun q => k a q (.inr ⟨_, _, _, o.hx, .inr ⟨f, hf, m⟩⟩), bb a (.inr ⟨_, _, _, o.hx, .inr ⟨f, hf, m⟩⟩)⟩, bb x rx, bb dx rd, o.ne, o.un⟩
theorem setBox_ins {i j : Nat} {d : D} {ρ : Env} {c : Str} {fs : List D} (h : look ρ j = .ins c fs) : (match look ρ j with
  | .ins c fs => ρ.set j (.ins c (fs.set i d))
  | _ => ρ) = ρ.set j (.ins c (fs.set i d)) := by rw [h]
def setBox (i j : Nat) (d : D) (ρ : Env) : Env := match look ρ j with
  | .ins c fs => ρ.set j (.ins c (fs.set i d))
  | _ => ρ
/-- x.f.append(e) -/
def appF (c : Str) (i j : Nat) (p : Env → Option D) : SM := fun ρ => match boxL c i j ρ with
  | some rs => (match p ρ with
    | some d => if rs.length < 16000000 then .nx (setBox i j (.lst (rs ++ [d])) ρ) else .bad
    | none => .bad)
  | none => .bad
theorem st_appF {C : Ctl} (S : Sx F K mg N vis gl k) {c : Str} (Cc : DCl K c) (i j : Nat) {st : Stt} {x n : Str} {e : Expr} {p : Env → Option D} {px pn ap cp : Pos} (h : PX F K own e p) (hi : (flds c)[i]? = some n := by decide +kernel) (hn : LBOX.elem n = true := by decide +kernel) (hN : N[j]? = some x := by rfl) (hv : vis[j]? = some true := by rfl) (ho : own[j]? = some st := by rfl) (hst : st.isO = true := by rfl) (hI : noIB own = true := by rfl)
    (hb : ∀ X, F X → attributeBase (.Name x px) n X.env (eval (.Name x px) X.env) = eval (.Name x px) X.env := by intro _ _; rfl)
    (h1 : ∀ X, F X → attributeBase (.Attribute (.Name x px) n pn) "append" X.env (eval (.Attribute (.Name x px) n pn) X.env) = eval (.Attribute (.Name x px) n pn) X.env := by intro _ _; rfl)
    (h2 : ∀ X, F X → (((backTo cp (starEach [e] X.env)).all fun x => !x.1) && (backToKw cp (keywordEach [] X.env)).all fun x => x.1.isSome) && decide (([e].length + ([] : List Keyword).length + if ([] : List Keyword).isEmpty = true then 0 else 1) < 30) = true := by intro _ _; rfl) (h3 : (ap.endLine == cp.line) = true := by rfl)
    (hs : ∀ X, F X → starEach [e] X.env = (false, eval e X.env) :: starEach [] X.env := by intro _ _; rfl)
    (hw : ∀ X, F X → swapsWith (.Call (.Attribute (.Attribute (.Name x px) n pn) "append" ap) [e] [] cp) none pos.line X.env = pure false := by intro _ _; rfl) : ST F K C own (.Expr (.Call (.Attribute (.Attribute (.Name x px) n pn) "append" ap) [e] [] cp) pos) (appF c i j p) own := by
  obtain ⟨t, pt, h⟩ := h
  refine ⟨tDrop (tBM K "list" rAppend (tFld K (tVar j) n) (tCons t tNil)), fun X hX => let ⟨v1, v2, v3⟩ := S.vis X hX j x hv hN;
    atK (S.hK X hX) (fun K => PS X _ (tDrop (tBM K "list" rAppend (tFld K (tVar j) n) (tCons t tNil)))) (ps_expr (pe_bm PySem.F.plainAttrs_list PySem.F.slot_list_append PySem.F.type_list_append mt_append (pe_fld (pe_var (by rw [S.hN X hX]; exact hN) v1 v2 v3) (hb X hX)) (pa_cons (pt X hX) pa_nil (hs X hX)) (h1 X hX) (h2 X hX) h3 (hs X hX) rfl) (hw X hX)), fun G ρ σ H B R E hE => ?_⟩
  unfold appF at hE
  cases hrs : boxL c i j ρ with
  | none => rw [hrs] at hE; exact hE.elim
  | some rs =>
    rw [hrs] at hE
    dsimp only at hE
    cases hd : p ρ with
    | none => rw [hd] at hE; exact hE.elim
    | some d =>
      rw [hd] at hE
      dsimp only at hE
      by_cases hl2 : rs.length < 16000000
      · rw [if_pos hl2] at hE
        have hp := h G ρ σ H B R
        rw [hd] at hp
        obtain ⟨a, dx, c', us, fs, ea, er, o⟩ := R.insAt ho hst
        obtain ⟨rfl, hfi⟩ := boxL_inv er hrs
        have hbx : boxF n = true := by unfold boxF; rw [hn]; rfl
        obtain ⟨p1, e1, us0, hu0, ru0, hz0, hb0⟩ := fld_lst o hi hn hfi
        refine ⟨.ref a, join_some ea, a, _, dx, _, .ref p1, rfl, o.hx, Cc.cls, Cc.no n (List.mem_of_getElem? hi), zip_lookup Cc.nd hi e1, .inl ⟨rfl, us0, .inl (.inl hu0)⟩, hp _ fun v H' B' nw rv => ?_⟩
        have hu1 := nw.h _ _ hu0 rfl
        refine ⟨p1, us0, v, rfl, rfl, hu1, by rw [ru0.len, sizeLine_eq]; omega, ?_⟩
        have R1 := R.new nw
        have o1 := o.stay2 nw
        have hb1 : B' p1 = none := (nw.old _ _ hu0).trans hb0
        have c0 : CellOk K H' B' p1 (.lst rs) := ⟨us0, hu1, ru0.mono nw.b, hz0, hb1⟩
        have c1 : CellOk K (upd H' p1 (.lst (us0 ++ [v]))) B' p1 (.lst (rs ++ [d])) := ⟨us0 ++ [v], upd_same, (ru0.mono nw.b).append (.one rv), by rw [sizeLine_eq]; simp; omega, hb1⟩
        have R2 := R1.putCell ho hst ea er o1 hi hbx e1 c0 c1 hn (noI_of hI)
        have es : setBox i j (.lst (rs ++ [d])) ρ = ρ.set j (.ins c' (fs.set i (.lst (rs ++ [d])))) := setBox_ins er
        rw [es] at hE
        exact hE σ _ B' nw.b R2
      · rw [if_neg hl2] at hE; exact hE.elim
/-- x.f.pop(i) -/
def popF (c : Str) (i j : Nat) (z : Int) : M D := fun ρ => match boxL c i j ρ with
  | some rs => (match seqIndex? z rs.length with
    | some m => (match rs[m]? with
      | some y => .ok y (setBox i j (.lst (rs.eraseIdx m)) ρ)
      | none => .bad)
    | none => .bad)
  | none => .bad
end
end MP
namespace MP
open PySem L2
section
variable {F : CF} {K : PySem.W.Frag} {mg : Str → Option Value} {Z : XC} {own own1 own' : List Stt} {N : List Str} {vis : List Bool} {gl : List Str} {k : Nat} {a b : Expr} {g h : M D} {pos : Pos} {P : Program} {w : World} {base : Heap} {ps : List Str} {f : Addr} {fd : FuncData}
/-! ### x.f += e, numbers -/
def augF (c : Str) (i j : Nat) (g : M D) : SM := sbd (fldO c i j) fun x => sbd g fun y ρ => match x, y with
  | .int p, .int q => (match look ρ j with
    | .ins c' fs => if c' = c ∧ i ≤ fs.length then .nx (ρ.set j (.ins c' (putI i (.int (p + q)) fs))) else .bad
    | _ => .bad)
  | _, _ => .bad
theorem st_augF {C : Ctl} (S : Sx F K mg N vis gl k) {c : Str} (Cc : DCl K c) (i j : Nat) {st : Stt} {x n : Str} {e : Expr} {px pn pos' : Pos} (h : EX F K C.Z own e g) (hi : (flds c)[i]? = some n := by decide +kernel) (hn : boxF n = false := by decide +kernel) (hN : N[j]? = some x := by rfl) (hv : vis[j]? = some true := by rfl) (ho : own[j]? = some st := by rfl) (hst : st.isO = true := by rfl) (hI : noIB own = true := by rfl) (hfl : (flds c).length ≤ 900 := by decide +kernel) :
    ST F K C own (.AugAssign (.Attribute (.Name x px) n pn) .Add e pos') (augF c i j g) own := by
  obtain ⟨t, p, h⟩ := h
  refine ⟨sFldAug K (tVar j) t rAdd n, fun X hX => let ⟨v1, v2, v3⟩ := S.vis X hX j x hv hN; atK (S.hK X hX) (fun K => PS X _ (sFldAug K (tVar j) t rAdd n)) (ps_fldaug (pe_var (by rw [S.hN X hX]; exact hN) v1 v2 v3) (p X hX) in_add), fun G ρ σ H B R E hE => ?_⟩
  obtain ⟨a, dx, c', us, fs, ea, er, o⟩ := R.insAt ho hst
  unfold augF sbd fldO at hE
  rw [er] at hE
  by_cases hc : c' = c
  · subst hc
    have e0 : fldD c' i (.ins c' fs) = fs[i]? := if_pos rfl
    rw [e0] at hE
    cases hd : fs[i]? with
    | none => rw [hd] at hE; exact hE.elim
    | some d =>
      rw [hd] at hE
      dsimp only [ofO, Res.sb] at hE
      obtain ⟨v, e1, e2⟩ := o.at hi hd
      unfold F1 at e2
      rw [if_neg (by rw [hn]; decide)] at e2
      refine ⟨.ref a, join_some ea, a, _, dx, _, v, rfl, o.hx, Cc.cls, Cc.no n (List.mem_of_getElem? hi), zip_lookup Cc.nd hi e1, ?_⟩
      have run := h G ρ σ H B R
      cases hg : g ρ with
      | bad => rw [hg] at hE; exact hE.elim
      | ex c fs ρ1 =>
        rw [hg] at hE run
        exact run (fun C dd H' B' e R x => hE C dd σ H' B' e R x) _
      | ok y ρ1 =>
        rw [hg] at hE run
        dsimp only [Res.sb] at hE
        refine run _ fun vy H1 B1 ex1 R1 ry => ?_
        cases e2 with
        | int p =>
          cases ry with
          | int q =>
            dsimp only at hE
            obtain ⟨a', dx', c2, us', fs', ea', er', o'⟩ := R1.insAt ho hst
            rw [ea] at ea'
            cases ea'
            rw [er'] at hE
            dsimp only at hE
            by_cases hc2 : c2 = c' ∧ i ≤ fs'.length
            · rw [if_pos hc2] at hE
              obtain ⟨rfl, hlen⟩ := hc2
              have f1 : F1 K H1 B1 n (.int (p + q)) (.int (p + q)) := by unfold F1; rw [if_neg (by rw [hn]; decide)]; exact .int _
              obtain ⟨e3, R2⟩ := R1.putFld ho hst ea er' o' Cc hi hlen f1 (fun _ _ z => by rw [hn] at z; cases z) (noI_of hI)
              refine ⟨p, q, rfl, rfl, dx', _, o'.hx, ?_, ?_⟩
              · rw [List.length_zip]; omega
              · rw [e3]; exact hE σ _ B1 ex1 R2
            · rw [if_neg hc2] at hE; exact hE.elim
          | _ => exact hE.elim
        | _ => exact hE.elim
  · have e0 : fldD c i (.ins c' fs) = none := if_neg hc
    rw [e0] at hE
    exact hE.elim
/-! ### methods that change their instance -/
structure MtM (P : Program) (w : World) (K : PySem.W.Frag) (mg : Str → Option Value) (base : Heap) (c m : Str) (f : Addr) (fd : FuncData) (ps : List Str) (j : Nat) (ff : FMf) : Prop where
  ok : FnOk P w K mg base CX0 j f fd ps (spM K ps.length ff)
  ar : ∀ d0 ds r, ff d0 ds = some r → ds.length + 1 = ps.length
  mt : Meth K (He.ga K c) m f
  bd : Binds K fd ps []
def ofC (c : Str) (j : Nat) : M Unit := fun ρ => match look ρ j with
  | .ins c' _ => if c' = c then .ok () ρ else .bad
  | _ => .bad
def callM (c : Str) (fl : Bool) (ff : FMf) (j : Nat) (g : M (List D)) : M D := bnd (ofC c j) fun _ => bnd g fun ds ρ => match ff (look ρ j) ds with
  | some (d, d1) => if (!fl || fullB d1) = true then .ok d (ρ.set j d1) else .bad
  | none => .bad
theorem run_methM {c m : Str} {j : Nat} {ff : FMf} {gs : M (List D)} {tb : TA} (C : DCl K c) (G : MtM P w K mg base c m f fd ps j ff) (fl : Bool) (i : Nat) {st : Stt} (hb : ∀ G ρ σ H B, Rel K G own ρ σ H B → Run K Z G own (RVs K) (gs ρ) σ B (tb σ H)) (hm : m ∉ flds c) (ho : own[i]? = some st) (hst : st.isO = true) (hfl : st.fsh = fl) (hI : noIB own = true) {G' : Gam} {ρ : Env} {σ : L2.St} {H B : Hp} (R : Rel K G' own ρ σ H B) :
    Run K Z G' own (RV K) (callM c fl ff i gs ρ) σ B (tMeth (He.ga K c) m (spM K ps.length ff) [] E0 (tVar i) tb σ H) := by
  obtain ⟨a, dx, c', us, fs, ea, er, o⟩ := R.insAt ho hst
  unfold callM bnd ofC
  rw [er]
  dsimp only
  by_cases hc : c' = c
  · subst hc
    rw [if_pos rfl]
    show Run K Z G' own (RV K) ((gs ρ).bnd _) σ B _
    refine Run.imp (Run.thn (Rl2 := RV K) (p2 := fun vs H2 Q => spM K ps.length ff (.ref a :: (vs ++ [])) H2 Q E0) (hb G' ρ σ H B R) fun ds ρ1 vs H1 B1 _ e R1 l => ?_) fun Q q => ⟨.ref a, join_some ea, a, dx, _, rfl, o.hx, zip_none hm, q⟩
    obtain ⟨a', dx', c2, us', fs', ea', er', o'⟩ := R1.insAt ho hst
    rw [ea] at ea'
    cases ea'
    cases hf : ff (look ρ1 i) ds with
    | none => trivial
    | some q =>
      obtain ⟨d, d1⟩ := q
      dsimp only
      by_cases hq : (!fl || fullB d1) = true
      · rw [if_pos hq]
        intro Q q
        have la : MOk K H1 B1 a (look ρ1 i) := by rw [er']; exact ⟨dx', us', o'⟩
        refine ⟨B1, a, vs, look ρ1 i, ds, d, d1, by simp [l.len, G.ar _ _ _ hf], by simp, ⟨R1.keep.bh, R1.keep.tab⟩, la, l, hf, fun v H' B' e1 e2 e3 tb e4 l' sk r' => q v H' B' e1 (R1.changed ho (Stt.isO_own hst) ea e1 e2 e3 tb e4 l' (fun hs => ?_) ?_ (.inr (noI_of hI))) r'⟩
        · rw [hs] at hfl; subst hfl
          exact fullB_ok (by simpa using hq)
        · obtain ⟨c3, fs3, e5⟩ := sk.2 ⟨_, _, er'⟩
          rw [e5]; exact kind_ins hst _ _
      · rw [if_neg hq]; trivial
  · rw [if_neg hc]; trivial
theorem ex_methM (A : Fam F P w base) (S : Sx F K mg N vis gl k) {c m : Str} {j : Nat} {ff : FMf} {x : Str} {e : Expr} {es : List Expr} {px apos : Pos} {gs : M (List D)} (C : DCl K c) (G : MtM P w K mg base c m f fd ps j ff) (fl : Bool) (i : Nat) {st : Stt} (he : EXs F K Z own (e :: es) gs) (hj : j ≤ k := by decide) (hm : m ∉ flds c := by decide +kernel)
    (hN : N[i]? = some x := by rfl) (hv : vis[i]? = some true := by rfl) (ho : own[i]? = some st := by rfl) (hst : st.isO = true := by rfl) (hfl : st.fsh = fl := by rfl) (hI : noIB own = true := by rfl)
    (h1 : ∀ X, F X → starEach (e :: es) X.env = (false, eval e X.env) :: starEach es X.env := by intro _ _; rfl) (h2 : ∀ X, F X → ((backTo pos (starEach es X.env)).any fun q => q.1) = false := by intro _ _; rfl)
    (h3 : ∀ X, F X → ∃ pl : Sem Bool, eval (.Call (.Attribute (.Name x px) m apos) (e :: es) [] pos) X.env = (do
      let ov ← eval (.Name x px) X.env
      standAt apos.atName
      let (f, first) ← holding [ov] (getMethod ov m pl)
      callWith pos f first (backTo pos (starEach (e :: es) X.env)) (backToKw pos (keywordEach [] X.env))) := by intro _ _; exact ⟨_, rfl⟩) : EX F K Z own (.Call (.Attribute (.Name x px) m apos) (e :: es) [] pos) (callM c fl ff i gs) := by
  obtain ⟨tb, pb, hb⟩ := he
  refine ⟨tMeth (He.ga K c) m (spM K ps.length ff) [] E0 (tVar i) tb, fun X hX => let ⟨v1, v2, v3⟩ := S.vis X hX i x hv hN; (h3 X hX).elim fun pl e3 => pe_meth (pl := pl) (pe_var (by rw [S.hN X hX]; exact hN) v1 v2 v3) (by rw [S.hK X hX]; exact C.cls) (by rw [S.hK X hX]; exact G.mt) (fnAt A S hX G.ok) ((S.room X hX).mono hj) (by rw [S.hK X hX]; exact G.bd) (ds := []) (dvs := []) .nil (pass0 (X := X)) (pb X hX) (h1 X hX) (h2 X hX) e3, fun G' ρ σ H B R => run_methM C G fl i hb hm ho hst hfl hI R⟩
/-! ### methods of plain instances with a dict -/
/-! ### making an instance with a dict -/
/-- an expression that gives a new thing -/
def EM (F : CF) (K : PySem.W.Frag) (Z : XC) (own : List Stt) (e : Expr) (g : M D) : Prop :=
  ∃ t, (∀ X, F X → PE X e t) ∧ ∀ G ρ σ H B, Rel K G own ρ σ H B → Run K Z G own (FreshM K G own σ) (g ρ) σ B (t σ H)
theorem EM.ex {e : Expr} {g : M D} (h : EM F K Z own e g) (hI : noIB own = true := by rfl) : EX F K Z own e g := by
  obtain ⟨t, pe, h⟩ := h
  refine ⟨t, pe, fun G ρ σ H B R => ?_⟩
  have := h G ρ σ H B R
  cases hg : g ρ with
  | ok d ρ1 =>
    rw [hg] at this
    intro Q q
    refine this Q fun v H' B' e R' fm => ?_
    obtain ⟨B2, e2, R2, r2⟩ := R'.freshMV fm (noI_of hI)
    exact q v H' B2 (e.trans e2) R2 r2
  | ex c fs ρ1 => rw [hg] at this; exact this
  | bad => trivial
structure ClM (P : Program) (w : World) (K : PySem.W.Frag) (mg : Str → Option Value) (base : Heap) (c : Str) (f : Addr) (fd : FuncData) (ps : List Str) (j : Nat) (fm : FMf) : Prop where
  ok : FnOk P w K mg base CX0 j f fd ps (spM K ps.length fm)
  ar : ∀ d0 ds r, fm d0 ds = some r → ds.length + 1 = ps.length
  mkr : Mk K (He.ga K c) f
  mg : mg c = some (.ref (He.ga K c))
  bd : Binds K fd ps []
def makeM (c : Str) (fm : FMf) : List D → Option D := fun ds => match fm (.ins c []) ds with
  | some (.non, .ins c' fs) => if c' = c ∧ fs.length = (flds c).length then some (.ins c fs) else none
  | _ => none
theorem makeM_some {c : Str} {fm : FMf} {ds : List D} {d : D} (h : makeM c fm ds = some d) : ∃ fs, fm (.ins c []) ds = some (.non, .ins c fs) ∧ fs.length = (flds c).length ∧ d = .ins c fs := by
  unfold makeM at h
  split at h
  · rename_i c' fs e
    split at h
    · rename_i q
      cases h
      obtain ⟨rfl, hl⟩ := q
      exact ⟨fs, e, hl, rfl⟩
    · cases h
  · cases h
theorem em_make (A : Fam F P w base) (S : Sx F K mg N vis gl k) (i : Nat) {j : Nat} {fm : FMf} {c : Str} {p pos : Pos} {e : Expr} {es : List Expr} {gs : M (List D)} (C : DCl K c) (G : ClM P w K mg base c f fd ps j fm) (ha : EXs F K Z own (e :: es) gs) (hj : j + 1 ≤ k := by decide)
    (hg : gl[i]? = some c := by rfl) (hs : ∀ X, F X → starEach (e :: es) X.env = (false, eval e X.env) :: starEach es X.env := by intro _ _; rfl) (hs2 : ∀ X, F X → ((backTo pos (starEach es X.env)).any fun q => q.1) = false := by intro _ _; rfl) :
    EM F K Z own (.Call (.Name c p) (e :: es) [] pos) (callD (makeM c fm) gs) := by
  obtain ⟨ta, pa, ha⟩ := ha
  refine ⟨tMake (He.ga K c) (spM K ps.length fm) [] E0 ta, fun X hX => let ⟨g1, g2, g3⟩ := S.gl X hX i c hg; pe_make (by rw [S.hK X hX]; exact G.mkr) (fnAt A S hX G.ok) ((S.room X hX).mono hj) g1 (by rw [S.hmg X hX]; exact G.mg) (by rw [S.hK X hX]; exact G.bd) (ds := []) (dvs := []) .nil (pass0 (X := X)) (pa X hX) g2 (hs X hX) (hs2 X hX), fun G' ρ σ H B R => ?_⟩
  refine Run.thn (p2 := fun vs H1 Q => ∀ x dx, H1 x = none → H1 dx = none → dx ≠ x → spM K ps.length fm (.ref x :: (vs ++ [])) (upd (upd H1 dx (.own x)) x (.ins (He.ga K c) dx [])) (fun v H2 => v = .non ∧ Q (.ref x) H2) E0) (ha G' ρ σ H B R) fun es ρ1 vs H1 B1 _ e R1 l => ?_
  show Run K Z G' own (FreshM K G' own σ) (ofO (makeM c fm es) ρ1) σ B1 _
  cases hf : makeM c fm es with
  | none => trivial
  | some d =>
    obtain ⟨fs, hf1, hl, rfl⟩ := makeM_some hf
    intro Q q x dx hx hdx hne
    let Hs : Hp := upd (upd H1 dx (.own x)) x (.ins (He.ga K c) dx [])
    have hsx : Hs x = some (.ins (He.ga K c) dx []) := upd_same
    have hold : ∀ b o, H1 b = some o → Hs b = some o := fun b o e => by
      show upd (upd H1 dx (.own x)) x _ b = _
      rw [upd_ne (ne_of_none e hx), upd_ne (ne_of_none e hdx)]; exact e
    have hz : (flds c).zip ([] : List V) = [] := by cases flds c <;> rfl
    have m0 : MOk K Hs B1 x (.ins c []) := ⟨dx, [], by rw [hz]; exact hsx, by show upd (upd H1 dx (.own x)) x _ dx = _; rw [upd_ne hne, upd_same], by unfold FOk; cases flds c <;> trivial, R1.keep.bh.free hx, R1.keep.bh.free hdx, C.ne, fun i j f g a _ _ h => by rw [hz] at h; simp at h⟩
    have rt0 : ∀ b, Root Hs x b → b = x ∨ b = dx := fun b r => by
      rcases r with r | ⟨_, _, _, e, r⟩
      · exact .inl r
      · rw [hsx] at e; cases e
        rcases r with r | ⟨_, _, r⟩
        · exact .inr r
        · cases r
    refine ⟨B1, x, vs, .ins c [], es, .non, .ins c fs, by simp [l.len, G.ar _ _ _ hf1], by simp, ⟨fun b o e => hold b o (R1.keep.bh b o e), tab2 R1.keep.bh R1.keep.tab hx hdx hne⟩, m0, l, hf1, fun v H' B' e1 e2 e3 tb e4 l' _ r' => ⟨by cases r'; rfl, ?_⟩⟩
    have fr : ∀ b, Root H' x b → H1 b = none := fun b r => by
      rcases e3.rt b r with r | r
      · rcases rt0 b r with rfl | rfl
        · exact hx
        · exact hdx
      · cases q : H1 b with
        | none => rfl
        | some o => exact nomatch (hold b o q).symm.trans r
    have nt : ∀ b o, H1 b = some o → isTb o = false → H' b = some o := fun b o e n => e3.h b o (hold b o e) (fun r => by
      rcases rt0 b r with rfl | rfl
      · rw [hx] at e; cases e
      · rw [hdx] at e; cases e) n
    have nw : New K B1 H1 B' H' := ⟨e1, nt, fun b o e => e3.dm b o (hold b o e), e2, fun b o e => e4 b o (hold b o e), fun Q ps e => e3.tk Q ps (hold Q _ e), fun _ => tb.th, fun _ => tb.nb⟩
    refine q _ H' B' e1 (R1.new nw) ⟨x, rfl, ⟨l', hl⟩, fun b r => ?_⟩
    obtain ⟨f1, f2⟩ := R1.free (fr b r)
    exact ⟨f1, R1.noRt (fun y o e p => nt y o e p.1) f2⟩
/-- name = a new thing -/
theorem st_setM {C : Ctl} {lv : List Bool} (S : Sx F K mg N vis gl k) (st : Stt) (i : Nat) {x : Str} {e : Expr} {g : M D} {pos pos' : Pos} (L : Lx F N lv) (h : EM F K C.Z own e g) (kd : ∀ ρ d ρ', g ρ = .ok d ρ' → st.kind d) (hf : st.fsh = true := by rfl) (hN : N[i]? = some x := by rfl) (hlv : lv[i]? = some true := by rfl) (ho : own.set i st = own' := by rfl)
    (hs : ∀ X, F X → swapsWith e (some (.Name x pos')) pos.line X.env = pure false := by intro _ _; rfl) : ST F K C own (.Assign [.Name x pos'] e pos) (setS i g) own' := by
  obtain ⟨t, p, h⟩ := h
  subst ho
  exact ⟨_, fun X hX => let ⟨l1, l2⟩ := L.loc X hX i x hlv hN; ps_set (by rw [S.hN X hX]; exact L.nd) (by rw [S.hN X hX]; exact hN) l1 (p X hX) (hs X hX) l2, fun G ρ σ H B R => SRun.ofE (p2 := fun v H1 E => E.nx (σ.set i (some v)) H1) (h G ρ σ H B R) fun d ρ1 v H1 B1 hr e R1 l E hE => hE _ H1 B1 Ex.rfl (R1.setM l hf (kd _ _ _ hr))⟩
end
end MP
namespace MP
open PySem L2
/-! ### several expressions at once, each a plain value or a new thing; they are given to names -/
open Classical in
noncomputable def Gam.lockS (G : Gam) (S : Addr → Prop) (H0 : Hp) : Gam := { G with pr := fun b => if S b then H0 b else G.pr b }
section
variable {F : CF} {K : PySem.W.Frag} {mg : Str → Option Value} {Z : XC} {own own1 own' : List Stt} {N : List Str} {vis : List Bool} {gl : List Str} {k : Nat} {a b : Expr} {g h : M D} {pos : Pos} {G : Gam} {ρ : Env} {σ : L2.St} {H B H0 : Hp} {S : Addr → Prop}
theorem lockS_in {x : Addr} (h : S x) : (G.lockS S H0).pr x = H0 x := if_pos h
theorem lockS_out {x : Addr} (h : ¬ S x) : (G.lockS S H0).pr x = G.pr x := if_neg h
theorem Rel.lockS (R : Rel K G own ρ σ H B) (hS : ∀ b, S b → (∃ o, H b = some o ∧ plainO o) ∧ B b = none ∧ NoRt own σ H b) (hI : noI own) : Rel K (G.lockS S H) own ρ σ H B := by
  have gl : ∀ {a u}, (G.lockS S H).pr a = some u → (S a ∧ H a = some u) ∨ (¬ S a ∧ G.pr a = some u) := fun {a u} e => by
    by_cases z : S a
    · rw [lockS_in z] at e; exact .inl ⟨z, e⟩
    · rw [lockS_out z] at e; exact .inr ⟨z, e⟩
  refine ⟨⟨R.keep.bh, fun a u e => ?_, fun a u e => ?_, R.keep.b0, R.keep.fr, R.keep.dom, R.keep.old, fun a u e => ?_, R.keep.tk, R.keep.tab⟩, R.lr, R.ls, fun j st hj => ?_, R.sep⟩
  · rcases gl e with ⟨_, e⟩ | ⟨_, e⟩
    · exact e
    · exact R.keep.pr a u e
  · rcases gl e with ⟨s, _⟩ | ⟨_, e⟩
    · exact (hS a s).2.1
    · exact R.keep.prb a u e
  · rcases gl e with ⟨s, e⟩ | ⟨_, e⟩
    · obtain ⟨⟨o, q, po⟩, _⟩ := hS a s
      rw [e] at q; cases q; exact po.1
    · exact R.keep.prn a u e
  · have := R.slot j st hj
    have own1 : st.own = true → SlotOk K (G.lockS S H) H B st (σ[j]?).join (look ρ j) := fun os => by
      obtain ⟨a, e, m, _⟩ := this.mok os
      refine SlotOk.keep this os e m id id (fun b q => .inl q) fun b r g => ?_
      have z : ¬ S b := fun z => (hS b z).2.2 j st hj os ⟨a, e, r⟩
      rw [lockS_out z]; exact g
    cases st with
    | U => trivial
    | V => exact this
    | L => exact own1 rfl
    | R => exact own1 rfl
    | O => exact own1 rfl
    | M => exact own1 rfl
    | K => exact own1 rfl
    | T => exact own1 rfl
    | I => exact absurd hj (hI j)
theorem Rel.unlockS (R : Rel K (G.lockS S H0) own ρ σ H B) (hS : ∀ b, S b → G.pr b = none ∧ ∃ o, H0 b = some o) : Rel K G own ρ σ H B ∧ ∀ b, S b → H b = H0 b ∧ B b = none ∧ NoRt own σ H b := by
  have ge : ∀ a u, G.pr a = some u → (G.lockS S H0).pr a = some u := fun a u e => by
    have z : ¬ S a := fun z => by rw [(hS a z).1] at e; cases e
    rw [lockS_out z]; exact e
  have key : ∀ a, (G.lockS S H0).pr a = none → G.pr a = none := fun a e => by
    cases q : G.pr a with
    | none => rfl
    | some u => rw [ge a u q] at e; cases e
  refine ⟨⟨⟨R.keep.bh, fun a u e => R.keep.pr a u (ge a u e), fun a u e => R.keep.prb a u (ge a u e), R.keep.b0, R.keep.fr, R.keep.dom, R.keep.old, fun a u e => R.keep.prn a u (ge a u e), R.keep.tk, R.keep.tab⟩, R.lr, R.ls, fun j st hj => ?_, R.sep⟩, fun b s => ?_⟩
  · have := R.slot j st hj
    have own1 : st.own = true → SlotOk K G H B st (σ[j]?).join (look ρ j) := fun os => by
      obtain ⟨a, e, m, _⟩ := this.mok os
      exact SlotOk.keep this os e m id id (fun b q => .inl q) fun b r g => key b g
    cases st with
    | U => trivial
    | V => exact this
    | L => exact own1 rfl
    | R => exact own1 rfl
    | O => exact own1 rfl
    | M => exact own1 rfl
    | K => exact own1 rfl
    | T => exact own1 rfl
    | I => obtain ⟨y, dx, c, us, fs, q1, q2, q3, ⟨g1, g2⟩, q5⟩ := this; exact ⟨y, dx, c, us, fs, q1, q2, q3, ⟨key y g1, key dx g2⟩, q5⟩
  · obtain ⟨g1, o, e⟩ := hS b s
    have hp : (G.lockS S H0).pr b = some o := (lockS_in s).trans e
    refine ⟨(R.keep.pr b o hp).trans e.symm, R.keep.prb b o hp, fun j sj hj oj ej => ?_⟩
    obtain ⟨a, e, m, g⟩ := (R.slot j sj hj).mok oj
    rw [e] at ej
    have := (g b ej.of).1
    rw [hp] at this; cases this
/-- items: plain values and new things, apart from one another and from T -/
def Mx (K : PySem.W.Frag) (G : Gam) (own : List Stt) (σ : L2.St) (H B : Hp) : (Addr → Prop) → List Stt → List V → List D → Prop
  | _, [], [], [] => True
  | T, s :: ss, v :: vs, d :: ds => (s = .V ∧ Rep K B v d ∧ Mx K G own σ H B T ss vs ds) ∨
    ((s.fsh = true ∧ s.kind d) ∧ ∃ a, v = .ref a ∧ (MOk K H B a d ∧ Full d) ∧ (∀ b, Root H a b → ((G.pr b = none ∧ G.H b = none) ∧ NoRt own σ H b) ∧ ¬ T b) ∧ Mx K G own σ H B (fun b => T b ∨ Root H a b) ss vs ds)
  | _, _, _, _ => False
theorem Mx.len : ∀ {T : Addr → Prop} {ss : List Stt} {vs : List V} {ds : List D}, Mx K G own σ H B T ss vs ds → vs.length = ss.length ∧ ds.length = ss.length
  | _, [], [], [], _ => ⟨rfl, rfl⟩
  | T, s :: ss, v :: vs, d :: ds, h => by
    rcases h with ⟨_, _, h⟩ | ⟨_, _, _, _, _, h⟩
    · obtain ⟨a, b⟩ := Mx.len h; simp [a, b]
    · obtain ⟨a, b⟩ := Mx.len h; simp [a, b]
  | _, [], [], _ :: _, h => h.elim
  | _, [], _ :: _, _, h => h.elim
  | _, _ :: _, [], _, h => h.elim
  | _, _ :: _, _ :: _, [], h => h.elim
theorem Mx.weak {G' : Gam} (gH : G'.H = G.H) : ∀ {T T' : Addr → Prop} {ss : List Stt} {vs : List V} {ds : List D}, Mx K G own σ H B T ss vs ds → (∀ b, G.pr b = none → ¬ T b → G'.pr b = none ∧ ¬ T' b) → Mx K G' own σ H B T' ss vs ds
  | _, _, [], [], [], _, _ => trivial
  | T, T', s :: ss, v :: vs, d :: ds, h, k => by
    rcases h with ⟨e, r, h⟩ | ⟨sk, a, e, m, r, h⟩
    · exact .inl ⟨e, r, Mx.weak gH h k⟩
    · refine .inr ⟨sk, a, e, m, fun b rt => ?_, Mx.weak gH h fun b p n => ?_⟩
      · obtain ⟨⟨⟨g1, g2⟩, nr⟩, nt⟩ := r b rt
        obtain ⟨k1, k2⟩ := k b g1 nt
        exact ⟨⟨⟨k1, by rw [gH]; exact g2⟩, nr⟩, k2⟩
      · obtain ⟨k1, k2⟩ := k b p fun z => n (.inl z)
        exact ⟨k1, fun z => z.elim k2 fun z => n (.inr z)⟩
  | _, _, [], [], _ :: _, h, _ => h.elim
  | _, _, [], _ :: _, _, h, _ => h.elim
  | _, _, _ :: _, [], _, h, _ => h.elim
  | _, _, _ :: _, _ :: _, [], h, _ => h.elim
theorem Mx.set {i : Nat} {s0 : Stt} {v0 : V} : ∀ {T : Addr → Prop} {ss : List Stt} {vs : List V} {ds : List D}, Mx K G own σ H B T ss vs ds → (∀ b, s0.own = true → Rt H (some v0) b → T b) → own.length = σ.length → Mx K G (own.set i s0) (σ.set i (some v0)) H B T ss vs ds
  | _, [], [], [], _, _, _ => trivial
  | T, s :: ss, v :: vs, d :: ds, h, k, hl => by
    rcases h with ⟨e, r, h⟩ | ⟨sk, a, e, m, r, h⟩
    · exact .inl ⟨e, r, Mx.set h k hl⟩
    · refine .inr ⟨sk, a, e, m, fun b rt => ?_, Mx.set h (fun b o q => .inl (k b o q)) hl⟩
      obtain ⟨⟨g1, nr⟩, nt⟩ := r b rt
      refine ⟨⟨g1, fun j sj hj oj ej => ?_⟩, nt⟩
      rcases own_set hj with ⟨rfl, rfl, hl2⟩ | ⟨hne, hj⟩
      · rw [join_set (by rw [← hl]; exact hl2), if_pos rfl] at ej
        exact nt (k b oj ej)
      · by_cases hl2 : i < σ.length
        · rw [join_set hl2, if_neg hne] at ej; exact nr j sj hj oj ej
        · rw [List.set_eq_of_length_le (by omega)] at ej; exact nr j sj hj oj ej
  | _, [], [], _ :: _, h, _, _ => h.elim
  | _, [], _ :: _, _, h, _, _ => h.elim
  | _, _ :: _, [], _, h, _, _ => h.elim
  | _, _ :: _, _ :: _, [], h, _, _ => h.elim
theorem Mx.new {H' B' : Hp} (R : Rel K G own ρ σ H B) (n : New K B H B' H') : ∀ {T : Addr → Prop} {ss : List Stt} {vs : List V} {ds : List D}, Mx K G own σ H B T ss vs ds → Mx K G own σ H' B' T ss vs ds
  | _, [], [], [], _ => trivial
  | T, s :: ss, v :: vs, d :: ds, h => by
    rcases h with ⟨e, r, h⟩ | ⟨sk, a, e, ⟨m, f⟩, r, h⟩
    · exact .inl ⟨e, r.mono n.b, Mx.new R n h⟩
    · obtain ⟨m1, m2⟩ := m.new n
      refine .inr ⟨sk, a, e, ⟨m1, f⟩, fun b rt => ?_, Mx.weak rfl (Mx.new R n h) fun b p q => ⟨p, fun z => q (z.imp id fun z => (m2 b).mp z)⟩⟩
      obtain ⟨⟨g1, nr⟩, nt⟩ := r b ((m2 b).mp rt)
      exact ⟨⟨g1, R.noRt (fun x o e p => n.h x o e p.1) nr⟩, nt⟩
  | _, [], [], _ :: _, h => h.elim
  | _, [], _ :: _, _, h => h.elim
  | _, _ :: _, [], _, h => h.elim
  | _, _ :: _, _ :: _, [], h => h.elim
def setAll {α : Type} : List α → List Nat → List α → List α
  | l, i :: is, x :: xs => setAll (l.set i x) is xs
  | l, _, _ => l
theorem Rel.setMx : ∀ {T : Addr → Prop} {is : List Nat} {ss : List Stt} {vs : List V} {ds : List D} {own : List Stt} {ρ : Env} {σ : L2.St}, Rel K G own ρ σ H B → Mx K G own σ H B T ss vs ds → Rel K G (setAll own is ss) (setAll ρ is ds) (setAll σ is (vs.map some)) H B
  | _, is, [], [], [], own, ρ, σ, R, _ => by cases is <;> exact R
  | T, [], s :: ss, v :: vs, d :: ds, own, ρ, σ, R, h => R
  | T, i :: is, s :: ss, v :: vs, d :: ds, own, ρ, σ, R, h => by
    show Rel K G (setAll (own.set i s) is ss) (setAll (ρ.set i d) is ds) (setAll (σ.set i (some v)) is (vs.map some)) H B
    rcases h with ⟨e, r, h⟩ | ⟨⟨sk, kd⟩, a, e, m, r, h⟩
    · subst e
      exact (R.setV r).setMx (h.set (fun _ o => nomatch o) R.ls.symm)
    · subst e
      have f : FreshM K G own σ H B (.ref a) d := ⟨a, rfl, m, fun b rt => (r b rt).1⟩
      refine (R.setM f sk kd).setMx (h.set (fun b _ rt => .inr rt.of) R.ls.symm)
  | _, _, [], [], _ :: _, _, _, _, _, h => h.elim
  | _, _, [], _ :: _, _, _, _, _, _, h => h.elim
  | _, _, _ :: _, [], _, _, _, _, _, h => h.elim
  | _, _, _ :: _, _ :: _, [], _, _, _, _, h => h.elim
def EQs (F : CF) (K : PySem.W.Frag) (Z : XC) (own : List Stt) (ss : List Stt) (es : List Expr) (g : M (List D)) : Prop :=
  ∃ t, (∀ X, F X → PA X es t) ∧ ∀ G ρ σ H B, Rel K G own ρ σ H B → Run K Z G own (fun H B vs ds => Mx K G own σ H B (fun _ => False) ss vs ds) (g ρ) σ B (t σ H)
theorem eq_nil : EQs F K Z own [] [] nilD := ⟨_, fun _ _ => pa_nil, fun G ρ σ H B R => Run.now (v := ([] : List V)) R trivial fun Q q => q⟩
/-- the values ahead of a list of items -/
theorem Run.mxAhead {t : TA} {ss : List Stt} {hs : M (List D)} (hb : ∀ G ρ σ H B, Rel K G own ρ σ H B → Run K Z G own (fun H B vs ds => Mx K G own σ H B (fun _ => False) ss vs ds) (hs ρ) σ B (t σ H)) (R : Rel K G own ρ σ H B) {v : V} {d : D} (r : Rep K B v d) :
    Run K Z G own (fun H B vs ds => Mx K G own σ H B (fun _ => False) (.V :: ss) vs ds) (bnd hs (fun xs => ret (d :: xs)) ρ) σ B (fun Q => t σ H fun xs H2 => Q (v :: xs) H2) :=
  Run.thn (hb G ρ σ H B R) (p2 := fun xs H2 Q => Q (v :: xs) H2) fun d2 ρ2 v2 H2 B2 _ e2 R2 l2 => Run.now (v := v :: v2) R2 (Or.inl ⟨rfl, r.mono e2, l2⟩) fun Q q => q
theorem eq_val {e : Expr} {es : List Expr} {ss : List Stt} {hs : M (List D)} (ha : EX F K Z own e g) (hb : EQs F K Z own ss es hs) (hs1 : ∀ X, F X → starEach (e :: es) X.env = (false, eval e X.env) :: starEach es X.env := by intro _ _; rfl) : EQs F K Z own (.V :: ss) (e :: es) (consD g hs) := by
  obtain ⟨ta, pa, ha⟩ := ha
  obtain ⟨tb, pb, hb⟩ := hb
  refine ⟨_, fun X hX => pa_cons (pa X hX) (pb X hX) (hs1 X hX), fun G ρ σ H B R => ?_⟩
  exact Run.thn (ha G ρ σ H B R) fun d ρ1 v H1 B1 _ e R1 l => Run.mxAhead hb R1 l
theorem eq_new {e : Expr} {es : List Expr} {ss : List Stt} {hs : M (List D)} (s : Stt) (ha : EM F K Z own e g) (hb : EQs F K Z own ss es hs) (kd : ∀ ρ d ρ', g ρ = .ok d ρ' → s.kind d) (hf : s.fsh = true := by rfl) (hI : noIB own = true := by rfl) (hs1 : ∀ X, F X → starEach (e :: es) X.env = (false, eval e X.env) :: starEach es X.env := by intro _ _; rfl) : EQs F K Z own (s :: ss) (e :: es) (consD g hs) := by
  obtain ⟨ta, pa, ha⟩ := ha
  obtain ⟨tb, pb, hb⟩ := hb
  refine ⟨_, fun X hX => pa_cons (pa X hX) (pb X hX) (hs1 X hX), fun G ρ σ H B R => ?_⟩
  refine Run.thn (ha G ρ σ H B R) (p2 := fun v H1 Q => tb σ H1 fun xs H2 => Q (v :: xs) H2) fun d ρ1 v H1 B1 hr e R1 f => ?_
  obtain ⟨a, rfl, ⟨m, fu⟩, rt⟩ := f
  have hS : ∀ b, Root H1 a b → (∃ o, H1 b = some o ∧ plainO o) ∧ B1 b = none ∧ NoRt own σ H1 b := fun b r => ⟨(m.has r).1, (m.has r).2, (rt b r).2⟩
  have hS2 : ∀ b, Root H1 a b → G.pr b = none ∧ ∃ o, H1 b = some o := fun b r => ⟨(rt b r).1.1, let ⟨⟨o, q, _⟩, _⟩ := m.has r; ⟨o, q⟩⟩
  have R2 := R1.lockS hS (noI_of hI)
  have run := hb _ ρ1 σ H1 B1 R2
  show Run K Z G own _ ((hs ρ1).bnd _) σ B1 _
  cases hh : hs ρ1 with
  | bad => trivial
  | ex c fs ρ2 =>
    rw [hh] at run
    exact fun hW Q => run (fun Cv dd H' B' e' R' x' => hW Cv dd H' B' e' (R'.unlockS hS2).1 x') _
  | ok ds ρ2 =>
    rw [hh] at run
    intro Q q
    refine run _ fun vs H2 B2 e2 R3 mx => ?_
    obtain ⟨R4, st⟩ := R3.unlockS hS2
    have keep : ∀ b o, Root H1 a b → H1 b = some o → H2 b = some o := fun b o r eo => (st b r).1.trans eo
    have same : ∀ b, Root H2 a b ↔ Root H1 a b := fun b => m.same (keep a · .self)
    refine q _ H2 B2 e2 R4 (.inr ⟨⟨hf, kd _ _ _ hr⟩, a, rfl, ⟨m.stay keep e2 fun b r => (st b r).2.1, fu⟩, fun b r => ?_, Mx.weak (G := G.lockS (Root H1 a) H1) (G' := G) rfl mx fun b p _ => ?_⟩)
    · have r1 := (same b).mp r
      exact ⟨⟨(rt b r1).1, (st b r1).2.2⟩, id⟩
    · by_cases z : Root H1 a b
      · rw [lockS_in z] at p
        obtain ⟨_, o, eo⟩ := hS2 b z
        rw [p] at eo; cases eo
      · rw [lockS_out z] at p
        exact ⟨p, fun w => w.elim id fun w => z ((same b).mp w)⟩
theorem EL.em {e : Expr} {g : M (List D)} (h : EL F K Z own e g) : EM F K Z own e (lstM g) := by
  obtain ⟨t, pe, h⟩ := h
  refine ⟨t, pe, fun G ρ σ H B R => ?_⟩
  exact Run.seq (Rl2 := FreshM K G own σ) (f := fun ds => ret (D.lst ds)) (p2 := fun v H1 Q => Q v H1) (h G ρ σ H B R) fun ds ρ1 v H1 B1 _ e R1 f => Run.now R1 f.m fun Q q => q
/-! ### names on the left -/
def NMs (F : CF) (tg : List Expr) (is : List Nat) : Prop :=
  ∃ g, (∀ X, F X → PGs X tg g ∧ (assignEach tg X.env).length = is.length ∧ (assignEach tg X.env).findIdx? (·.1) = none) ∧ ∀ (vs : List V) (σ : L2.St) (H : Hp) (Q : L2.St → Hp → Prop), vs.length = is.length → Q (setAll σ is (vs.map some)) H → g vs σ H Q
theorem nm_nil : NMs F [] [] := ⟨_, fun _ _ => ⟨pgs_nil, rfl, rfl⟩, fun vs σ H Q hl q => by
  cases vs with
  | nil => exact ⟨rfl, q⟩
  | cons _ _ => cases hl⟩
theorem nm_cons {lv : List Bool} (hXN : ∀ X, F X → X.N = N) (L : Lx F N lv) (i : Nat) {x : Str} {pos : Pos} {es : List Expr} {is : List Nat} (h : NMs F es is) (hN : N[i]? = some x := by rfl) (hlv : lv[i]? = some true := by rfl)
    (hs : ∀ X, F X → (assignEach (.Name x pos :: es) X.env).map (·.2) = assign (.Name x pos) X.env :: (assignEach es X.env).map (·.2) := by intro _ _; rfl) (hn : ∀ X, F X → (assignEach (.Name x pos :: es) X.env).length = (assignEach es X.env).length + 1 := by intro _ _; rfl)
    (hf : ∀ X, F X → (assignEach (.Name x pos :: es) X.env).findIdx? (·.1) = none := by intro _ _; rfl) : NMs F (.Name x pos :: es) (i :: is) := by
  obtain ⟨g, pg, h⟩ := h
  refine ⟨gCons (gName i) g, fun X hX => ⟨pgs_cons (let ⟨l1, l2⟩ := L.loc X hX i x hlv hN; pg_name (by rw [hXN X hX]; exact L.nd) (by rw [hXN X hX]; exact hN) l1 l2) (pg X hX).1 (hs X hX), by rw [hn X hX, (pg X hX).2.1]; rfl, hf X hX⟩, fun vs σ H Q hl q => ?_⟩
  cases vs with
  | nil => cases hl
  | cons v vs => exact ⟨v, vs, rfl, h vs _ H Q (by simpa using hl) q⟩
def parS (is : List Nat) (g : M (List D)) : SM := sbd g fun ds ρ => .nx (setAll ρ is ds)
/-- (x, y, ..) = (a, b, ..) through a tuple -/
theorem st_parT {C : Ctl} {tg es : List Expr} {is : List Nat} {ss : List Stt} {kt k2 : Nat} {pt pt2 : Pos} {hs : M (List D)} (S : Sx F K mg N vis gl k) (ha : EQs F K C.Z own ss es hs) (ht : NMs F tg is) (hl : is.length = ss.length := by rfl) (hz : ss.length ≤ 100 := by decide) (ho : setAll own is ss = own' := by rfl)
    (h2 : ∀ X, F X → swapsWithSole [.Tuple tg kt pt] (.Tuple es k2 pt2) pos.line X.env = pure false := by intro _ _; rfl) (h3 : ∀ X, F X → swappedStores [.Tuple tg kt pt] (.Tuple es k2 pt2) X.env = pure none := by intro _ _; rfl)
    (h4 : ∀ X, F X → (assignEach [.Tuple tg kt pt] X.env).map (·.2) = [assign (.Tuple tg kt pt) X.env] := by intro _ _; rfl) : ST F K C own (.Assign [.Tuple tg kt pt] (.Tuple es k2 pt2) pos) (parS is hs) own' := by
  obtain ⟨t, p, h⟩ := ha
  obtain ⟨gt, pg, ht⟩ := ht
  subst ho
  refine ⟨tAsg (tTup t) (gTup K is.length gt), fun X hX => atK (S.hK X hX) (fun K => PS X _ (tAsg (tTup t) (gTup K is.length gt))) (ps_asg (pe_tup (p X hX)) (pg_tup (S.calm X hX) (pg X hX).1 (pg X hX).2.1 (pg X hX).2.2) (h2 X hX) (h3 X hX) (h4 X hX)), fun G ρ σ H B R => ?_⟩
  refine SRun.ofE (p2 := fun xs H1 E => xs.length ≤ sizeLine ∧ ∀ p, H1 p = none → gTup K is.length gt (.ref p) σ (upd H1 p (.tup xs)) E.nx) (h G ρ σ H B R) fun ds ρ1 vs H1 B1 _ e R1 mx E hE => ?_
  obtain ⟨l1, l2⟩ := mx.len
  refine ⟨by rw [sizeLine_eq]; omega, fun p hp => ?_⟩
  have nw := New.heap (K := K) (o := .tup vs) R1.keep.bh hp
  have mx2 := mx.new R1 nw
  refine ⟨p, vs, rfl, .inl (.inl upd_same), by omega, ht vs σ _ _ (by omega) ?_⟩
  exact hE _ _ B1 Ex.rfl ((R1.new nw).setMx mx2)
/-! ### lists of slots, where they are read at once -/
def slotL (j : Nat) : Env → Option (List D) := fun ρ => lstO (some (look ρ j))
end
end MP
/-! ### xs.extend(a list or a tuple) -/
namespace MP
open PySem PySem.Spec PyProof.Rows L2
theorem ext_tup (l : Addr) (items : Array Value) (n : Nat) (b : Addr) (items2 : Array Value) (n2 : Nat) (dd : Option Addr) (sl : Array (Option Value)) (hs0 : ¬(!items.isEmpty && Builtin.List.listTooLong (items.size + items2.size)) = true) (hs1 : items.size ≤ sizeLine) (hs2 : items.size + items2.size ≤ sizeLine + 1) :
    Meets (Builtin.«list.extend» ⟨[.ref l, .ref b], []⟩) (fun _ R s => s.heap.get? l = some { cls := .type "list", dict := none, data := .seq items n, slots := #[] } ∧ s.heap.get? b = some { cls := .type "tuple", dict := dd, data := .seq items2 n2, slots := sl } ∧ R (.ok (.ret Value.none)) { s with heap := s.heap.update l (Obj.mapSeq fun x => x ++ items2), toks := s.toks }) :=
  .of_wp fun prog w A R s h => by
    obtain ⟨hp, g, d, tk, os⟩ := s; obtain ⟨hl, hb, h⟩ := h; have f1 := AutoSeq1.idx_int; have f2 := AutoSeq1.sub_tuple_tuple; have f3 := AutoSeq1.sub_list_list; have f4 := AutoSeq1.sub_tuple_list; have f5 := AutoSeq1.sub_list_tuple;
    have hz' : (items ++ items2).size ≤ sizeLine + 1 := by rw [Array.size_append]; exact hs2
    wp_walk using (wpAny_updateSeq hl rfl (hz := hs1) (_hz' := hz')), AutoSeq1.wpAny_loadPart' hl, AutoSeq1.wpAny_loadPart' hb; exact ⟨_, rfl, h⟩
theorem ext_lst (l : Addr) (items : Array Value) (n : Nat) (b : Addr) (items2 : Array Value) (n2 : Nat) (sl : Array (Option Value)) (hs0 : ¬(!items.isEmpty && Builtin.List.listTooLong (items.size + items2.size)) = true) (hs1 : items.size ≤ sizeLine) (hs2 : items.size + items2.size ≤ sizeLine + 1) :
    Meets (Builtin.«list.extend» ⟨[.ref l, .ref b], []⟩) (fun _ R s => s.heap.get? l = some { cls := .type "list", dict := none, data := .seq items n, slots := #[] } ∧ s.heap.get? b = some { cls := .type "list", dict := none, data := .seq items2 n2, slots := sl } ∧ R (.ok (.ret Value.none)) { s with heap := s.heap.update l (Obj.mapSeq fun x => x ++ items2), toks := s.toks }) :=
  .of_wp fun prog w A R s h => by
    obtain ⟨hp, g, d, tk, os⟩ := s; obtain ⟨hl, hb, h⟩ := h; have f1 := AutoSeq1.idx_int; have f2 := AutoSeq1.sub_tuple_tuple; have f3 := AutoSeq1.sub_list_list; have f4 := AutoSeq1.sub_tuple_list; have f5 := AutoSeq1.sub_list_tuple;
    have hz' : (items ++ items2).size ≤ sizeLine + 1 := by rw [Array.size_append]; exact hs2
    wp_walk using (wpAny_updateSeq hl rfl (hz := hs1) (_hz' := hz')), AutoSeq1.wpAny_loadPart' hl, AutoSeq1.wpAny_loadPart' hb; exact ⟨_, rfl, h⟩
def rExtQ (K : PySem.W.Frag) : V → List V → Hp → VK → Prop := fun x vs H Q => ∃ l b xs zs, x = .ref l ∧ vs = [.ref b] ∧ H l = some (.lst xs) ∧ (SqT K H b zs ∨ SqL K H b zs) ∧ xs.length + zs.length ≤ sizeLine ∧ Q .non (upd H l (.lst (xs ++ zs)))
section
variable {X : Cx}
theorem mt_extQ : L2.MtR X "list.extend" (rExtQ X.K) := by
  intro pins s σ H x vs v us Q I rx rv h
  obtain ⟨l, b, xs, zs, rfl, rfl, hH, hB, hz, q⟩ := h
  cases rx
  obtain ⟨u, rfl, ru⟩ := rv.one
  cases ru
  obtain ⟨z, its, n, r, hl, e⟩ := I.lstM hH
  have fin : ∀ its2 : List Value, Vals zs its2 → (L2.Inv X pins σ (upd H l (.lst (xs ++ zs))) { s with heap := s.heap.update l (Obj.mapSeq fun x => x ++ its2.toArray), toks := s.toks }) := fun its2 r2 =>
    I.lset (its' := its ++ its2) hH e (by simp) (r.append r2) (by rw [List.length_append]; have := r.length; have := r2.length; omega)
  rcases hB with hB | hB
  · obtain ⟨its2, r2, ⟨o, e2, hc, n2, hd⟩, _⟩ := I.tuple hB
    obtain ⟨oc, od, odt, osl⟩ := o
    cases hc; cases hd
    have hl2 := r2.length
    have hsz : its.toArray.size + its2.toArray.size ≤ sizeLine := by rw [List.size_toArray, List.size_toArray]; omega
    have hlong : ¬ (!its.toArray.isEmpty && Builtin.List.listTooLong (its.toArray.size + its2.toArray.size)) = true := by
      rw [notLongL hsz, Bool.and_false]
      exact Bool.false_ne_true
    refine call_meets F.slot_list_extend ⟨_, e, rfl⟩ F.entry_list_extend (F.args_list_extend_2 _ _)
      (ext_tup l its.toArray n b its2.toArray n2 od osl hlong (by rw [List.size_toArray]; omega) (by omega)) ⟨e, e2, ?_⟩
    exact ⟨.non, _, fin its2 r2, rfl, q⟩
  · obtain ⟨its2, r2, ⟨o, n2, e2, hc, hdi, hd⟩, _⟩ := I.list hB
    obtain ⟨oc, od, odt, osl⟩ := o
    cases hc; cases hd; cases hdi
    have hl2 := r2.length
    have hsz : its.toArray.size + its2.toArray.size ≤ sizeLine := by rw [List.size_toArray, List.size_toArray]; omega
    have hlong : ¬ (!its.toArray.isEmpty && Builtin.List.listTooLong (its.toArray.size + its2.toArray.size)) = true := by
      rw [notLongL hsz, Bool.and_false]
      exact Bool.false_ne_true
    refine call_meets F.slot_list_extend ⟨_, e, rfl⟩ F.entry_list_extend (F.args_list_extend_2 _ _)
      (ext_lst l its.toArray n b its2.toArray n2 osl hlong (by rw [List.size_toArray]; omega) (by omega)) ⟨e, e2, ?_⟩
    exact ⟨.non, _, fin its2 r2, rfl, q⟩
end
section
variable {F : CF} {K : PySem.W.Frag} {mg : Str → Option Value} {Z : XC} {own own' : List Stt} {N : List Str} {vis : List Bool} {gl : List Str} {k : Nat} {a b c : Expr} {g h : M D} {pos : Pos} {lv : List Bool}
def extV (j : Nat) (g : M D) : SM := sbd g fun d ρ => match itemsOf d, look ρ j with
  | some ds, .lst rs => if rs.length + ds.length < 16000000 then .nx (ρ.set j (.lst (rs ++ ds))) else .bad
  | _, _ => .bad
theorem st_extV {C : Ctl} (S : Sx F K mg N vis gl k) (j : Nat) {st : Stt} {x : Str} {e : Expr} {px ap cp : Pos} (h : EX F K C.Z own e g) (hN : N[j]? = some x := by rfl) (hv : vis[j]? = some true := by rfl) (ho : own[j]? = some st := by rfl) (hst : st.isL = true := by rfl)
    (h1 : ∀ X, F X → attributeBase (.Name x px) "extend" X.env (eval (.Name x px) X.env) = eval (.Name x px) X.env := by intro _ _; rfl)
    (h2 : ∀ X, F X → (((backTo cp (starEach [e] X.env)).all fun x => !x.1) && (backToKw cp (keywordEach [] X.env)).all fun x => x.1.isSome) && decide (([e].length + ([] : List Keyword).length + if ([] : List Keyword).isEmpty = true then 0 else 1) < 30) = true := by intro _ _; rfl) (h3 : (ap.endLine == cp.line) = true := by rfl)
    (hs : ∀ X, F X → starEach [e] X.env = (false, eval e X.env) :: starEach [] X.env := by intro _ _; rfl)
    (hw : ∀ X, F X → swapsWith (.Call (.Attribute (.Name x px) "extend" ap) [e] [] cp) none pos.line X.env = pure false := by intro _ _; rfl) : ST F K C own (.Expr (.Call (.Attribute (.Name x px) "extend" ap) [e] [] cp) pos) (extV j g) own := by
  obtain ⟨t, p, h⟩ := h
  refine ⟨tDrop (tBM K "list" (rExtQ K) (tVar j) (tCons t tNil)), fun X hX => let ⟨v1, v2, v3⟩ := S.vis X hX j x hv hN;
    atK (S.hK X hX) (fun K => PS X _ (tDrop (tBM K "list" (rExtQ K) (tVar j) (tCons t tNil)))) (ps_expr (pe_bm PySem.F.plainAttrs_list PySem.F.slot_list_extend PySem.F.type_list_extend mt_extQ (pe_var (by rw [S.hN X hX]; exact hN) v1 v2 v3) (pa_cons (p X hX) pa_nil (hs X hX)) (h1 X hX) (h2 X hX) h3 (hs X hX) rfl) (hw X hX)), fun G ρ σ H B R => ?_⟩
  obtain ⟨a, rs0, ea, _, us0, hu0, _⟩ := R.ownAt ho hst
  refine SRun.ofE (p2 := fun v H1 E => rExtQ K (.ref a) [v] H1 fun _ H2 => E.nx σ H2) (h G ρ σ H B R) (fun d ρ1 v H1 B1 _ e R1 f E hE => ?_) fun E q => ⟨.ref a, join_some ea, .inl ⟨rfl, us0, .inl (.inl hu0)⟩, q⟩
  obtain ⟨a', rs, ea', er, us, hu, ru, hz, hb⟩ := R1.ownAt ho hst
  rw [ea] at ea'
  cases ea'
  rw [er] at hE
  cases hi : itemsOf d with
  | none => rw [hi] at hE; exact hE.elim
  | some ds =>
    rw [hi] at hE
    change SPost K C G own (if rs.length + ds.length < 16000000 then .nx (ρ1.set j (.lst (rs ++ ds))) else .bad) B1 E at hE
    by_cases hl : rs.length + ds.length < 16000000
    · rw [if_pos hl] at hE
      obtain ⟨q, zs, rfl, hq, rz, hz2⟩ := rep_items f hi
      refine ⟨a, q, us, zs, rfl, rfl, hu, hq.imp (seqT R1.keep.bh) R1.keep.bh.seq, by rw [ru.len, rz.len, sizeLine_eq]; omega, ?_⟩
      exact hE σ _ B1 Ex.rfl (R1.mut ho hst ea hb (ru.append rz) (by rw [sizeLine_eq]; simp; omega))
    · rw [if_neg hl] at hE; exact hE.elim
end
end MP
namespace MP
open PySem L2
/-! ### what the head tells of classes with a dict -/
def dclB (K : PySem.W.Frag) (c : Str) : Bool := (He.Fa.cls c).ok K && (flds c).all fun f => (He.Fa.noat c f).ok K
theorem dclB_ok {K : PySem.W.Frag} {c : Str} (h : dclB K c = true) (h1 : (flds c).isEmpty = false) (h2 : (flds c).Nodup) : DCl K c := by
  obtain ⟨a, b⟩ := Bool.and_eq_true_iff.mp h
  exact ⟨He.cls_ok a, fun f hf => He.noat_ok (List.all_eq_true.mp b f hf), h1, h2⟩
theorem onIns_ar {n m : Nat} {g : SM} {d0 : D} {ds : List D} {r : D × D} (h : onIns (runM n m g) d0 ds = some r) : ds.length = m := by
  cases d0 with
  | ins c fs => exact runM_ar h
  | _ => cases h
end MP
/-! ### dicts by ints and texts -/
namespace MP
open PySem L2
def keyK : D → Option Key
  | .int i => some (.inl i)
  | .str s => some (.inr s)
  | _ => none
theorem rep_key {K : PySem.W.Frag} {B : Hp} {v : V} {x : D} {k : Key} (r : Rep K B v x) (h : keyK x = some k) : v = kV k ∧ ∀ s, k = Sum.inr s → PyData.strOk s = true := by
  cases r with
  | int i => cases h; exact ⟨rfl, fun s z => by cases z⟩
  | str s hs => cases h; exact ⟨rfl, fun t z => by cases z; exact hs⟩
  | _ => cases h
section
variable {α β : Type}
def valA (ks : List Key) (xs : List α) (k : Key) : Option α := ((ks.zip xs).find? fun p => decide (p.1 = k)).map (·.2)
def putKs (ks : List Key) (k : Key) : List Key := if k ∈ ks then ks else ks ++ [k]
def putXs (ks : List Key) (xs : List α) (k : Key) (y : α) : List α := if k ∈ ks then (ks.zip xs).map fun p => if p.1 = k then y else p.2 else xs ++ [y]
theorem valA_cons {k0 k : Key} {x : α} {ks : List Key} {xs : List α} : valA (k0 :: ks) (x :: xs) k = if k0 = k then some x else valA ks xs k := by
  unfold valA
  rw [List.zip_cons_cons, List.find?_cons]
  by_cases e : k0 = k
  · simp [e]
  · simp [e]
@[simp] theorem valA_nil {k : Key} {xs : List α} : valA [] xs k = none := rfl
theorem valA_mem : ∀ {ks : List Key} {xs : List α} {k : Key}, ks.length = xs.length → (valA ks xs k).isSome = decide (k ∈ ks)
  | [], _, _, _ => by simp
  | k0 :: ks, [], _, h => by simp at h
  | k0 :: ks, x :: xs, k, h => by
    rw [valA_cons]
    by_cases e : k0 = k
    · rw [if_pos e]; simp [e]
    · have e2 : ¬ k = k0 := fun z => e z.symm
      rw [if_neg e, valA_mem (by simpa using h)]; simp [e2]
theorem putXs_len {ks : List Key} {xs : List α} {k : Key} {y : α} (h : ks.length = xs.length) : (putXs ks xs k y).length = (putKs ks k).length := by
  unfold putXs putKs
  split
  · simp [h]
  · simp [h]
theorem any_mem {ks : List Key} {vs : List V} {k : Key} (h : ks.length = vs.length) : ((ks.zip vs).any fun kv => decide (kv.1 = k)) = decide (k ∈ ks) := by
  rw [valV_any]
  exact valA_mem h
theorem put_zip {ks : List Key} {vs : List V} {k : Key} {v : V} (h : ks.length = vs.length) : putK (ks.zip vs) k v = (putKs ks k).zip (putXs ks vs k v) := by
  unfold putK putKs putXs
  rw [any_mem h]
  by_cases e : k ∈ ks
  · simp only [e, decide_true, if_true]
    have key : ∀ (ks : List Key) (vs : List V), ks.length = vs.length → (ks.zip vs).map (fun kv => if kv.1 = k then (kv.1, v) else kv) = ks.zip ((ks.zip vs).map fun p => if p.1 = k then v else p.2) := by
      intro ks
      induction ks with
      | nil => intro vs _; rfl
      | cons a ks ih =>
        intro vs hl
        cases vs with
        | nil => simp at hl
        | cons b vs =>
          simp only [List.zip_cons_cons, List.map_cons]
          rw [ih vs (by simpa using hl)]
          by_cases e : a = k
          · simp [e]
          · simp [e]
    exact key ks vs h
  · simp only [e, decide_false, Bool.false_eq_true, if_false]
    rw [List.zip_append h]
    rfl
end
section
variable {K : PySem.W.Frag} {B : Hp}
theorem Reps.valA : ∀ {ks : List Key} {vs : List V} {ds : List D} {k : Key} {d : D}, Reps K B vs ds → MP.valA ks ds k = some d → ∃ v, MP.valA ks vs k = some v ∧ Rep K B v d
  | [], _, _, _, _, _, h => by simp at h
  | k0 :: ks, _, _, _, _, .nil, h => by simp [MP.valA] at h
  | k0 :: ks, _, _, k, d, .cons (v := v) (d := d0) r t, h => by
    rw [valA_cons] at h ⊢
    by_cases e : k0 = k
    · rw [if_pos e] at h ⊢; cases h; exact ⟨v, rfl, r⟩
    · rw [if_neg e] at h ⊢; exact Reps.valA t h
theorem Reps.valN : ∀ {ks : List Key} {vs : List V} {ds : List D} {k : Key}, Reps K B vs ds → MP.valA ks ds k = none → MP.valA ks vs k = none
  | [], _, _, _, _, h => by simp
  | k0 :: ks, _, _, _, .nil, h => by simp [MP.valA]
  | k0 :: ks, _, _, k, .cons r t, h => by
    rw [valA_cons] at h ⊢
    by_cases e : k0 = k
    · rw [if_pos e] at h; cases h
    · rw [if_neg e] at h ⊢; exact Reps.valN t h
theorem Reps.repl {k : Key} {v : V} {d : D} (rv : Rep K B v d) : ∀ {ks : List Key} {vs : List V} {ds : List D}, Reps K B vs ds → Reps K B ((ks.zip vs).map fun p => if p.1 = k then v else p.2) ((ks.zip ds).map fun p => if p.1 = k then d else p.2)
  | [], _, _, _ => by simp; exact .nil
  | _ :: _, _, _, .nil => by simp; exact .nil
  | k0 :: ks, _, _, .cons r t => by
    simp only [List.zip_cons_cons, List.map_cons]
    refine .cons ?_ (Reps.repl rv t)
    split
    · exact rv
    · exact r
theorem Reps.put {ks : List Key} {vs : List V} {ds : List D} {k : Key} {v : V} {d : D} (rs : Reps K B vs ds) (rv : Rep K B v d) : Reps K B (putXs ks vs k v) (putXs ks ds k d) := by
  unfold putXs
  split
  · exact rs.repl rv
  · exact rs.append (.one rv)
end
theorem putKs_ok {ks : List Key} {k : Key} (h : ∀ x, Sum.inr x ∈ ks → PyData.strOk x = true) (hk : ∀ s, k = Sum.inr s → PyData.strOk s = true) : ∀ x, Sum.inr x ∈ putKs ks k → PyData.strOk x = true := fun x hx => by
  unfold putKs at hx
  split at hx
  · exact h x hx
  · rcases List.mem_append.mp hx with q | q
    · exact h x q
    · simp at q; exact hk x q.symm
/-! ### slots -/
section
variable {F : CF} {K : PySem.W.Frag} {mg : Str → Option Value} {Z : XC} {own own1 own' : List Stt} {N : List Str} {vis : List Bool} {gl : List Str} {k : Nat} {a b : Expr} {g h : M D} {pos : Pos} {G : Gam} {ρ : Env} {σ : L2.St} {H B : Hp}
theorem Rel.dkAt (R : Rel K G own ρ σ H B) {j : Nat} (hj : own[j]? = some .K) : ∃ a ks ds vs, (σ[j]?).join = some (.ref a) ∧ look ρ j = .dk false ks ds ∧ H a = some (.dK (ks.zip vs)) ∧ Reps K B vs ds ∧ ks.length = ds.length ∧ ds.length ≤ sizeLine ∧ B a = none ∧ ∀ x, Sum.inr x ∈ ks → PyData.strOk x = true := by
  obtain ⟨a, e, m, _⟩ := (R.slot j .K hj).mok rfl
  obtain ⟨ks, ds, er⟩ : ∃ ks ds, look ρ j = .dk false ks ds := (R.slot j .K hj).knd rfl
  rw [er] at m
  obtain ⟨_, vs, h1, h2, h3, h4, h5, h6⟩ := m
  exact ⟨a, ks, ds, vs, e, er, h1, h2, h3, h4, h5, h6⟩
/-- the thing of a slot takes another form -/
theorem Rel.mutC (R : Rel K G own ρ σ H B) {j : Nat} {st : Stt} (hj : own[j]? = some st) (hs : st.own = true) {a : Addr} (ha : (σ[j]?).join = some (.ref a)) {d d' : D} (cd : CellOk K H B a d) {u : HO} (cd' : CellOk K (upd H a u) B a d') (kd : st.kind d') (nI : noI own) : Rel K G own (ρ.set j d') σ (upd H a u) B := by
  obtain ⟨⟨o0, e0, po, n0⟩, b0⟩ := cd.has
  obtain ⟨⟨u0, eu, pu, nu⟩, _⟩ := cd'.has
  rw [upd_same] at eu
  cases eu
  have m : MOk K (upd H a u) B a d' := by cases d' <;> first | exact cd' | exact cd'.elim
  have fl : Full d' := by cases d' <;> first | trivial | exact cd'.elim
  refine R.changedG hj hs ha Ex.rfl (fun b q e => ?_) (fun b q e nr _ => ?_) (fun b q e => ?_) (TabsK.put e0 po) (fun b r => ?_) (R.keep.tab.put e0 po pu.1) (fun _ _ _ => rfl) m (fun _ => fl) kd (.inr nI)
  · rw [upd_ne (ne_of_none e b0)]; exact R.keep.bh b q e
  · rw [upd_ne (fun z => nr (.inl z))]; exact e
  · by_cases z : b = a
    · subst z; exact ⟨_, upd_same⟩
    · exact ⟨q, by rw [upd_ne z]; exact e⟩
  · exact .inl (.inl (cd'.root r))
/-- {} -/
theorem em_dnew : EM F K Z own (.Dict [] [] pos) (kD (.dk false [] [])) := by
  refine ⟨_, fun X hX => pe_dnewK, fun G ρ σ H B R => ?_⟩
  intro Q q p hp
  have nw := New.heap (K := K) (o := .dK []) R.keep.bh hp
  refine q _ _ B Ex.rfl (R.new nw) ⟨p, rfl, ⟨⟨rfl, [], upd_same, .nil, rfl, by simp, R.keep.bh.free hp, fun _ h => by cases h⟩, trivial⟩, fun b r => ?_⟩
  have e : b = p := CellOk.root (K := K) (B := B) (d := .dk false [] []) ⟨rfl, [], upd_same, .nil, rfl, by simp, R.keep.bh.free hp, fun _ h => by cases h⟩ r
  subst e
  obtain ⟨f1, f2⟩ := R.free hp
  exact ⟨f1, R.noRt (fun x o e p => nw.h x o e p.1) f2⟩
theorem kd_dnew {ρ ρ' : Env} {d : D} (h : kD (.dk false [] []) ρ = .ok d ρ') : Stt.K.kind d := by cases h; exact ⟨[], [], rfl⟩
/-! ### k in d -/
def rDIn (neg : Bool) : R2 := fun x y H Q => ∃ a o, y = .ref a ∧ DGet H a x o ∧ Q (.bl (xor neg o.isSome)) H
theorem or_dIn {X : Cx} (hu : X.A.units + 1 < cLine) (neg : Bool) : OpR X (compareOp (if neg then .NotIn else .In)) (rDIn neg) := by
  intro pins s σ H x y v u Q I rx ry h
  obtain ⟨a, o, rfl, hg, q⟩ := h
  cases ry
  cases neg with
  | false => exact d_in hu I hg rx fun s' I' => ⟨.bl o.isSome, H, I', rfl, by simpa using q⟩
  | true => exact d_notIn hu I hg rx fun s' I' => ⟨.bl (!o.isSome), H, I', rfl, by simpa using q⟩
def inK (neg : Bool) : D → D → Option D := fun x d => match keyK x, d with
  | some k, .dk _ ks _ => some (.bl (xor neg (decide (k ∈ ks))))
  | _, _ => none
theorem Rd.mono {B H : Hp} {a : Addr} {u : HO} (e : Ex B H) (h : Rd B a u) : Rd H a u := h.imp (fun q => e _ _ q) fun ⟨o, q⟩ => ⟨o, e _ _ q⟩
theorem units1 {S : Sx F K mg N vis gl k} {X : Cx} (hX : F X) : X.A.units + 1 < cLine := by have := (S.room X hX).units; omega
/-- .. in a dict of a slot -/
def inKS (neg : Bool) (j : Nat) (g : M D) : M D := bnd g fun x ρ => ofO (inK neg x (look ρ j)) ρ
theorem run_inKS {neg : Bool} {j : Nat} {ta : TE} (ha : ∀ G ρ σ H B, Rel K G own ρ σ H B → Run K Z G own (RV K) (g ρ) σ B (ta σ H)) (ho : own[j]? = some .K) (R : Rel K G own ρ σ H B) : Run K Z G own (RV K) (inKS neg j g ρ) σ B (tOp (rDIn neg) ta (tVar j) σ H) := by
  refine Run.thn (p2 := fun x H1 Q => ∃ y, σ[j]? = some (some y) ∧ rDIn neg x y H1 Q) (ha G ρ σ H B R) fun d ρ1 v H1 B1 _ e R1 l => Run.prim R1 ?_
  obtain ⟨p, ks, ds, vs, ea, er, hp, rs, hl, _⟩ := R1.dkAt ho
  rw [er]
  unfold inK
  cases hk : keyK d with
  | none => trivial
  | some k0 =>
    obtain ⟨rfl, _⟩ := rep_key l hk
    have hl2 : ks.length = vs.length := by rw [rs.len]; exact hl
    refine Prim.now R1.keep.bh (.bl _) fun Q q => ⟨_, join_some ea, p, valV (ks.zip vs) k0, rfl, .inl ⟨_, k0, .inl hp, rfl, rfl⟩, ?_⟩
    have e : (valV (ks.zip vs) k0).isSome = decide (k0 ∈ ks) := valA_mem hl2
    rw [e]; exact q
theorem et_notinKS (S : Sx F K mg N vis gl k) (j : Nat) {x : Str} {px : Pos} (ha : EX F K Z own a g) (hN : N[j]? = some x := by rfl) (hv : vis[j]? = some true := by rfl) (ho : own[j]? = some .K := by rfl) : ET F K Z own (.Compare a [.NotIn] [.Name x px] pos) (asB (inKS true j g)) := by
  obtain ⟨ta, pa, ha⟩ := ha
  exact ⟨_, fun X hX => let ⟨v1, v2, v3⟩ := S.vis X hX j x hv hN; pt_cmpR (op := .NotIn) (or_dIn (units1 (S := S) hX) true) (pa X hX) (pe_var (by rw [S.hN X hX]; exact hN) v1 v2 v3) rfl, fun G ρ σ H B R => Run.asB (g := inKS true j g) (run_inKS ha ho R)⟩
/-! ### d[k] -/
def getK : D → D → Option D := fun d x => match keyK x, d with
  | some k, .dk _ ks ds => valA ks ds k
  | _, _ => none
def rDGet : R2 := fun x y H Q => ∃ a v, x = .ref a ∧ DGet H a y (some v) ∧ Q v H
theorem od_getK : OpD K rDGet getK := fun x y d1 d2 H B bh rx ry => by
  unfold getK
  cases hk : keyK d2 with
  | none => trivial
  | some k0 =>
    obtain ⟨rfl, _⟩ := rep_key ry hk
    cases rx with
    | dk hb rs l z n =>
      rename_i p lk ks vs ds
      show Prim K (RV K) (valA ks ds k0) H B _
      cases hd : valA ks ds k0 with
      | none => trivial
      | some d =>
        obtain ⟨v, e1, r⟩ := rs.valA hd
        exact Prim.now bh r fun Q q => ⟨p, v, rfl, .inl ⟨_, k0, Rd.mono bh hb.rd, rfl, e1.symm⟩, q⟩
    | _ => trivial
theorem ex_getK (S : Sx F K mg N vis gl k) (ha : EX F K Z own a g) (hb : EX F K Z own b h) (hs : NoSl b := by intro _ _; rfl) : EX F K Z own (.Subscript a b pos) (op2 getK g h) := by
  obtain ⟨ta, pa, ha⟩ := ha
  obtain ⟨tb, pb, hb⟩ := hb
  refine ⟨tDGet ta tb, fun X hX => pe_dget (units1 (S := S) hX) (pa X hX) (pb X hX) hs, fun G ρ σ H B R => ?_⟩
  exact Run.thn (p2 := fun x H1 Q => tb σ H1 fun y H2 => rDGet x y H2 Q) (ha G ρ σ H B R) fun d ρ1 v H1 B1 _ e R1 l => Run.thn (p2 := fun y H2 Q => rDGet v y H2 Q) (hb G ρ1 σ H1 B1 R1) fun d2 ρ2 v2 H2 B2 _ e2 R2 l2 => Run.prim R2 (od_getK v v2 d d2 H2 B2 R2.keep.bh (l.mono e2) l2)
def getKS (j : Nat) (g : M D) : M D := bnd g fun x ρ => ofO (getK (look ρ j) x) ρ
/-! ### d.get(k, x) -/
def get2K : D → D → D → Option D := fun d x y => match keyK x, d with
  | some k, .dk _ ks ds => some ((valA ks ds k).getD y)
  | _, _ => none
def get2M (g h i : M D) : M D := bnd g fun d => bnd (ofO (isDk d)) fun d => bnd h fun x => bnd i fun y => ofO (get2K d x y)
where isDk : D → Option D
  | .dk l ks ds => some (.dk l ks ds)
  | _ => none
theorem Reps.getD {ks : List Key} {vs : List V} {ds : List D} {k0 : Key} {y : V} {dy : D} (rs : Reps K B vs ds) (ry : Rep K B y dy) : Rep K B ((MP.valA ks vs k0).getD y) ((MP.valA ks ds k0).getD dy) := by
  cases hd : MP.valA ks ds k0 with
  | none => rw [rs.valN hd]; exact ry
  | some d => obtain ⟨v, e1, r⟩ := rs.valA hd; rw [e1]; exact r
theorem ex_get2K (S : Sx F K mg N vis gl k) {c : Expr} {i : M D} {ap cp : Pos} (ha : EX F K Z own a g) (hb : EX F K Z own b h) (hc : EX F K Z own c i) (m : ∀ X, F X → M2 X a "get" ap b c cp := by intro _ _; exact ⟨rfl, rfl, rfl, rfl⟩) : EX F K Z own (.Call (.Attribute a "get" ap) [b, c] [] cp) (get2M g h i) := by
  obtain ⟨ta, pa, ha⟩ := ha
  obtain ⟨tb, pb, hb⟩ := hb
  obtain ⟨tc, pc, hc⟩ := hc
  refine ⟨tDGet2 ta tb tc, fun X hX => pe_dget2 (units1 (S := S) hX) (pa X hX) (pb X hX) (pc X hX) (m X hX), fun G ρ σ H B R => ?_⟩
  refine Run.thn (p2 := fun x H1 Q => ∃ a, x = .ref a ∧ IsD H1 a ∧ tb σ H1 fun y H2 => tc σ H2 fun z H3 => ∃ o, DGet H3 a y o ∧ Q (o.getD z) H3) (ha G ρ σ H B R) fun d ρ1 v H1 B1 hr e R1 l => ?_
  clear hr
  cases l with
  | dk hb0 rs hl hz hn =>
    rename_i p lk ks vs ds
    show Run K Z G own (RV K) ((h ρ1).bnd fun x => bnd i fun y => ofO (get2K (.dk lk ks ds) x y)) σ B1 _
    refine Run.imp (Run.thn (Rl2 := RV K) (p2 := fun y H2 Q => tc σ H2 fun z H3 => ∃ o, DGet H3 p y o ∧ Q (o.getD z) H3) (hb G ρ1 σ H1 B1 R1) fun d2 ρ2 v2 H2 B2 _ e2 R2 l2 => Run.thn (Rl2 := RV K) (p2 := fun z H3 Q => ∃ o, DGet H3 p v2 o ∧ Q (o.getD z) H3) (hc G ρ2 σ H2 B2 R2) fun d3 ρ3 v3 H3 B3 _ e3 R3 l3 => Run.prim R3 ?_) fun Q q => ⟨p, rfl, .inl ⟨_, Rd.mono R1.keep.bh hb0.rd⟩, q⟩
    unfold get2K
    cases hk : keyK d2 with
    | none => trivial
    | some k0 =>
      obtain ⟨rfl, _⟩ := rep_key l2 hk
      exact Prim.now R3.keep.bh (((rs.mono e2).mono e3).getD (ks := ks) (k0 := k0) l3) fun Q q => ⟨valV (ks.zip vs) k0, .inl ⟨_, k0, Rd.mono R3.keep.bh ((hb0.mono e2).mono e3).rd, rfl, rfl⟩, q⟩
  | _ => trivial
def get2S (j : Nat) (h i : M D) : M D := bnd h fun x => bnd i fun y ρ => ofO (get2K (look ρ j) x y) ρ
/-! ### d[k] = v -/
def putDS (j : Nat) (gk gv : M D) : SM := sbd gv fun d => sbd gk fun x ρ => match keyK x, look ρ j with
  | some k, .dk false ks ds => if ds.length < 16000000 then .nx (ρ.set j (.dk false (putKs ks k) (putXs ks ds k d))) else .bad
  | _, _ => .bad
theorem putKs_len (ks : List Key) (k0 : Key) : (putKs ks k0).length ≤ ks.length + 1 := by
  unfold putKs; split <;> simp
theorem st_putD {C : Ctl} (S : Sx F K mg N vis gl k) (j : Nat) {x : Str} {e i : Expr} {gk gv : M D} {px pos' : Pos} (hk : EX F K C.Z own i gk) (hv : EX F K C.Z own e gv) (hN : N[j]? = some x := by rfl) (hvs : vis[j]? = some true := by rfl) (ho : own[j]? = some .K := by rfl) (hI : noIB own = true := by rfl)
    (hs : ∀ X, F X → swapsWith e (some (.Subscript (.Name x px) i pos')) pos.line X.env = pure false := by intro _ _; rfl) : ST F K C own (.Assign [.Subscript (.Name x px) i pos'] e pos) (putDS j gk gv) own := by
  obtain ⟨tk, pk, hk⟩ := hk
  obtain ⟨tv, pv, hv⟩ := hv
  refine ⟨sDPut (tVar j) tk tv, fun X hX => let ⟨v1, v2, v3⟩ := S.vis X hX j x hvs hN; ps_dput (units1 (S := S) hX) (pe_var (by rw [S.hN X hX]; exact hN) v1 v2 v3) (pk X hX) (pv X hX) (hs X hX), fun G ρ σ H B R => ?_⟩
  refine SRun.ofE (p2 := fun v H1 E => ∃ z, σ[j]? = some (some z) ∧ tk σ H1 fun y H3 => ∃ a H4, z = .ref a ∧ DPut H3 a y v H4 ∧ E.nx σ H4) (hv G ρ σ H B R) fun d ρ1 v H1 B1 _ e R1 l => ?_
  obtain ⟨p, _, _, _, ea0, _⟩ := R1.dkAt ho
  refine SRun.ofE (p2 := fun y H3 E => ∃ a H4, V.ref p = .ref a ∧ DPut H3 a y v H4 ∧ E.nx σ H4) (hk G ρ1 σ H1 B1 R1) (fun d2 ρ2 v2 H2 B2 _ e2 R2 l2 E hE => ?_) fun E q => ⟨_, join_some ea0, q⟩
  obtain ⟨p', ks, ds, vs, ea, er, hp, rs, hl, hz, hb, hok⟩ := R2.dkAt ho
  rw [ea0] at ea
  cases ea
  rw [er] at hE
  cases hk0 : keyK d2 with
  | none => rw [hk0] at hE; exact hE.elim
  | some k0 =>
    rw [hk0] at hE
    obtain ⟨rfl, hks⟩ := rep_key l2 hk0
    change SPost K C G own (if ds.length < 16000000 then .nx (ρ2.set j (.dk false (putKs ks k0) (putXs ks ds k0 d))) else .bad) B2 E at hE
    by_cases hlt : ds.length < 16000000
    · rw [if_pos hlt] at hE
      have hl2 : ks.length = vs.length := by rw [rs.len]; exact hl
      have hzl : (ks.zip vs).length < sizeLine := by rw [List.length_zip, sizeLine_eq]; omega
      refine ⟨p, _, rfl, DPut.k hp hzl, ?_⟩
      rw [put_zip hl2]
      have c0 : CellOk K H2 B2 p (.dk false ks ds) := ⟨rfl, vs, hp, rs, hl, hz, hb, hok⟩
      have lx := putXs_len (xs := ds) (k := k0) (y := d) hl
      have c1 : CellOk K (upd H2 p (.dK ((putKs ks k0).zip (putXs ks vs k0 v)))) B2 p (.dk false (putKs ks k0) (putXs ks ds k0 d)) :=
        ⟨rfl, _, upd_same, rs.put (l.mono e2), lx.symm, by rw [lx, sizeLine_eq]; have := putKs_len ks k0; omega, hb, putKs_ok hok hks⟩
      exact hE σ _ B2 Ex.rfl (R2.mutC ho rfl ea0 c0 c1 ⟨_, _, rfl⟩ (noI_of hI))
    · rw [if_neg hlt] at hE; exact hE.elim
end
end MP
namespace MP
open PySem PySem.Spec PyProof.Rows L2
/-! ### a dict is locked for good: it is a plain value from here on -/
section
variable {X : Cx}
theorem pe_lockV {e : Expr} {t : TE} (h : PE X e t) : PE X e (fun σ H Q => t σ H fun v H' => ∃ d u, v = .ref d ∧ H' d = some u ∧ Mut (some u) ∧ ∀ od, Q v (upd H' d (.frz od u))) := by
  refine ⟨fun pins s σ H Q I hw => ?_⟩
  refine L2.thn (h.run pins s σ H _ I hw) fun v s1 ⟨x, H1, I2, r, d, u, e, hd, mu, q⟩ => ?_
  obtain ⟨od, I3⟩ := I2.lock hd mu
  exact ⟨x, _, I3, r, q od⟩
theorem pss_lock {st : List Stmt} {t : TS} (h : PSs X st t) : PSs X st (fun D σ H => ∃ d u, H d = some u ∧ Mut (some u) ∧ ∀ od, t D σ (upd H d (.frz od u))) := by
  refine ⟨fun pins s σ H D I hw => ?_⟩
  obtain ⟨d, u, hd, mu, hw⟩ := hw
  obtain ⟨od, I1⟩ := I.lock hd mu
  exact h.run pins s σ _ D I1 (hw od)
end
section
variable {F : CF} {K : PySem.W.Frag} {mg : Str → Option Value} {Z : XC} {own own1 own' : List Stt} {N : List Str} {vis : List Bool} {gl : List Str} {k : Nat} {a b : Expr} {g h : M D} {pos : Pos} {G : Gam} {ρ : Env} {σ : L2.St} {H B : Hp}
def lkD : D → Option D
  | .dk false ks ds => some (.dk true ks ds)
  | _ => none
def lockM (g : M D) : M D := bnd g fun d => ofO (lkD d)
theorem Rel.lockK (R : Rel K G own ρ σ H B) {p : Addr} {ks : List Key} {ds : List D} {vs : List V} (hp : H p = some (.dK (ks.zip vs))) (rs : Reps K B vs ds) (hl : ks.length = ds.length) (hz : ds.length ≤ sizeLine) (hb : B p = none) (hok : ∀ x, Sum.inr x ∈ ks → PyData.strOk x = true) (g1 : G.pr p = none) (g2 : G.H p = none) (nr : NoRt own σ H p) (hI : noI own) (od : Obj) :
    ∃ B', Ex B B' ∧ Rel K G own ρ σ (upd H p (.frz od (.dK (ks.zip vs)))) B' ∧ Rep K B' (.ref p) (.dk true ks ds) := by
  have R2 := R.putP (o' := .frz od (.dK (ks.zip vs))) hp ⟨rfl, rfl⟩ hb g1 rfl g2 nr hI
  obtain ⟨e3, R3⟩ := R2.layB upd_same rfl hb g1 g2 nr.put hI
  exact ⟨_, e3, R3, .dk (.inl ⟨od, upd_same⟩) (rs.mono e3) hl hz hok⟩
theorem EM.exK {e : Expr} {g : M D} (h : EM F K Z own e g) (hI : noIB own = true := by rfl) : EX F K Z own e (lockM g) := by
  obtain ⟨t, pe, h⟩ := h
  refine ⟨_, fun X hX => pe_lockV (pe X hX), fun G ρ σ H B R => ?_⟩
  refine Run.thn (p2 := fun v H' Q => ∃ d u, v = .ref d ∧ H' d = some u ∧ Mut (some u) ∧ ∀ od, Q v (upd H' d (.frz od u))) (h G ρ σ H B R) fun d ρ1 v H1 B1 _ e R1 f => ?_
  obtain ⟨p, rfl, ⟨m, _⟩, rt⟩ := f
  cases d with
  | dk lk ks ds =>
    cases lk with
    | false =>
      obtain ⟨_, vs, hp, rs, hl, hz, hb, hok⟩ := m
      intro Q q
      refine ⟨p, _, rfl, hp, trivial, fun od => ?_⟩
      obtain ⟨B', e3, R3, r3⟩ := R1.lockK hp rs hl hz hb hok (rt p .self).1.1 (rt p .self).1.2 (rt p .self).2 (noI_of hI) od
      exact q _ _ B' e3 R3 r3
    | true => trivial
  | _ => trivial
/-- the dict of slot j is a plain value from here on -/
def lockS (j : Nat) : SM := fun ρ => match lkD (look ρ j) with
  | some d => .nx (ρ.set j d)
  | none => .bad
theorem ss_lock (j : Nat) {C : Ctl} {st : List Stmt} {g : SM} (h : STs F K C (own.set j .V) st g own') (ho : own[j]? = some .K := by rfl) (hI : noIB own = true := by rfl) : STs F K C own st (seqS (lockS j) g) own' := by
  obtain ⟨t, p, h⟩ := h
  refine ⟨_, fun X hX => pss_lock (p X hX), fun G ρ σ H B R E hE => ?_⟩
  have x := ((SlotOk.split rfl).mp (R.slot j .K ho)).1
  rw [if_pos (show Stt.K.fsh = true from rfl)] at x
  obtain ⟨p, ep, ⟨m, _⟩, hg⟩ := x
  obtain ⟨ks, ds, er⟩ : ∃ ks ds, look ρ j = .dk false ks ds := (R.slot j .K ho).knd rfl
  rw [er] at m
  obtain ⟨_, vs, hp, rs, hl, hz, hb, hok⟩ := m
  unfold seqS lockS at hE
  rw [er] at hE
  dsimp only [lkD] at hE
  refine ⟨p, _, hp, trivial, fun od => ?_⟩
  have hlt := R.own_lt ho
  have rp : Rt H (σ[j]?).join p := ⟨p, ep, .self⟩
  have R1 : Rel K G (own.set j .U) ρ σ H B := by
    have := R.drop (i := j) (d := look ρ j)
    rwa [set_look] at this
  have nr : NoRt (own.set j .U) σ H p := fun i si hi oi ri => by
    rcases own_set hi with ⟨rfl, rfl, _⟩ | ⟨hne, hi⟩
    · cases oi
    · exact hne (R.sep i j si .K p hi ho oi rfl ri rp)
  have nI : noI (own.set j .U) := fun i z => by
    rcases own_set z with ⟨rfl, q, _⟩ | ⟨_, q⟩
    · cases q
    · exact noI_of hI i q
  obtain ⟨B', e3, R3, r3⟩ := R1.lockK hp rs hl hz hb hok (hg p .self).1 (hg p .self).2 nr nI od
  have R4 : Rel K G (own.set j .V) (ρ.set j (.dk true ks ds)) σ (upd H p (.frz od (.dK (ks.zip vs)))) B' := by
    have q := R3.setV (i := j) r3
    have e1 : (own.set j .U).set j .V = own.set j .V := by rw [List.set_set]
    have e2 : σ.set j (some (.ref p)) = σ := by
      apply List.ext_getElem?
      intro i
      by_cases z : i = j
      · subst z
        rw [List.getElem?_set_self (by rw [R.ls]; exact hlt)]
        exact (join_some ep).symm
      · rw [List.getElem?_set_ne (fun w => z w.symm)]
    rw [e1, e2] at q
    exact q
  exact h G _ σ _ B' R4 E (hE.mono e3)
/-! ### for k in d, d.values(), d.items() -/
def keyD : Key → D
  | .inl i => .int i
  | .inr s => .str s
theorem rep_keyD {K : PySem.W.Frag} {B : Hp} {k0 : Key} (h : ∀ s, k0 = Sum.inr s → PyData.strOk s = true) : Rep K B (kV k0) (keyD k0) := by
  cases k0 with
  | inl i => exact .int i
  | inr s => exact .str s (h s rfl)
def keysOf : D → Option (List D)
  | .dk true ks _ => some (ks.map keyD)
  | _ => none
def valsOf : D → Option (List D)
  | .dk true _ ds => some ds
  | _ => none
def itemsD : D → Option (List D)
  | .dk true ks ds => some ((ks.zip ds).map fun p => .tup [keyD p.1, p.2])
  | _ => none
section
variable {ks : List Key} {vs : List V} {ds : List D} {d : Addr} {o : Obj}
theorem zip_getK {i : Nat} {k0 : Key} {v : V} (h : (ks.zip vs)[i]? = some (k0, v)) : ks[i]? = some k0 ∧ vs[i]? = some v := by
  rwa [List.getElem?_zip_eq_some] at h
theorem itk_ok (hb : B d = some (.frz o (.dK (ks.zip vs)))) (rs : Reps K B vs ds) (hl : ks.length = ds.length) (hz : ds.length ≤ sizeLine) (hok : ∀ x, Sum.inr x ∈ ks → PyData.strOk x = true) : ItOk K B (Itk d o (ks.zip vs)) (ks.map keyD) where
  sz := by simp; omega
  go := fun i H e hi => ⟨e _ _ hb, by rw [List.length_zip, rs.len]; simp at hi; omega⟩
  yld := fun i H B1 x H' e e1 hi y => by
    obtain ⟨rfl, k0, v, h1, rfl⟩ := y
    obtain ⟨h2, _⟩ := zip_getK h1
    refine ⟨keyD k0, B1, by simp [h2], New.refl e1, rep_keyD fun s z => hok s (by rw [← z]; exact List.mem_of_getElem? h2)⟩
  stop := fun i H e hi => ⟨e _ _ hb, by rw [List.length_zip, rs.len]; simp at hi; omega⟩
end
theorem LkB.frz {B : Hp} {a : Addr} {u : HO} (h : LkB B a true u) : ∃ o, B a = some (.frz o u) := by
  rcases h with h | ⟨h, _⟩
  · exact h
  · cases h
def itKeys (g : M D) : M (List D) := bnd g fun d => ofO (keysOf d)
def itVals (g : M D) : M (List D) := bnd g fun d => ofO (valsOf d)
def itItems (g : M D) : M (List D) := bnd g fun d => ofO (itemsD d)
theorem it_keys {tg e : Expr} (h : EX F K Z own e g) : IT F K Z own tg e (itKeys g) := by
  obtain ⟨t, p, h⟩ := h
  refine ⟨iKeys t, fun X hX => pi_keys (p X hX), fun G ρ σ H B R => ?_⟩
  refine Run.thn (p2 := fun x H1 R => ∃ d o, x = V.ref d ∧ ((∃ kvs, H1 d = some (.frz o (.dK kvs)) ∧ R (Itk d o kvs) H1) ∨ ∃ kvs, H1 d = some (.frz o (.dT kvs)) ∧ R (Itkt d o kvs) H1)) (h G ρ σ H B R) fun d ρ1 v H1 B1 hr e R1 l => ?_
  clear hr
  cases l with
  | dk hb rs hl hz hok =>
    rename_i p lk ks vs ds
    cases lk with
    | true =>
      obtain ⟨o, hb⟩ := LkB.frz hb
      exact fun Q q => ⟨p, o, rfl, .inl ⟨_, R1.keep.bh _ _ hb, q _ H1 B1 Ex.rfl R1 (itk_ok hb rs hl hz hok)⟩⟩
    | false => trivial
  | _ => trivial
/-! ### list(d), sorted(d), len(d), dict(pairs) -/
def dkKeys : D → Option (List D)
  | .dk _ ks _ => some (ks.map keyD)
  | _ => none
def listK (g : M D) : M (List D) := bnd g fun d => ofO (dkKeys d)
/-- texts alone -/
def strKs : List Key → Option (List Str)
  | [] => some []
  | .inr s :: r => (strKs r).map (s :: ·)
  | _ :: _ => none
def intKs : List Key → Option (List Int)
  | [] => some []
  | .inl i :: r => (intKs r).map (i :: ·)
  | _ :: _ => none
theorem strKs_eq : ∀ {ks : List Key} {ss : List Str}, strKs ks = some ss → ks = ss.map Sum.inr
  | [], _, h => by cases h; rfl
  | .inr s :: r, ss, h => by
    obtain ⟨t, e, rfl⟩ := Option.map_eq_some_iff.mp (show (strKs r).map (s :: ·) = some ss from h)
    rw [strKs_eq e]; rfl
  | .inl _ :: _, _, h => by cases h
theorem intKs_eq : ∀ {ks : List Key} {ss : List Int}, intKs ks = some ss → ks = ss.map Sum.inl
  | [], _, h => by cases h; rfl
  | .inl s :: r, ss, h => by
    obtain ⟨t, e, rfl⟩ := Option.map_eq_some_iff.mp (show (intKs r).map (s :: ·) = some ss from h)
    rw [intKs_eq e]; rfl
  | .inr _ :: _, _, h => by cases h
def sortK : D → Option (List D)
  | .dk _ ks _ => (match strKs ks with
    | some ss => if ss.length < 64 then some ((sortS ss).map D.str) else none
    | none => (match intKs ks with
      | some is => if is.length < 64 then some ((is.mergeSort fun a b => decide (a ≤ b)).map D.int) else none
      | none => none))
  | _ => none
def sortKM (g : M D) : M (List D) := bnd g fun d => ofO (sortK d)
def rSortK : List V → Hp → VK → Prop := fun xs H Q => (∃ (a : Addr) (kvs : List (Key × V)) (ks : List Str), xs = [.ref a] ∧ Rd H a (.dK kvs) ∧ kvs.map (·.1) = ks.map Sum.inr ∧ ks.length < 64 ∧
    ∀ ys p, ys.Perm ks → sortedS ys = true → H p = none → Q (.ref p) (upd H p (.lst (ys.map V.str)))) ∨
  ∃ (a : Addr) (kvs : List (Key × V)) (ks : List Int), xs = [.ref a] ∧ Rd H a (.dK kvs) ∧ kvs.map (·.1) = ks.map Sum.inl ∧ ks.length < 64 ∧
    ∀ (ys : List Int) (p : Addr), ys.Perm ks → ys.Pairwise (· ≤ ·) → H p = none → Q (.ref p) (upd H p (.lst (ys.map V.int)))
theorem cr_sortK {X : Cx} (hc : X.calm = true) : CallR X (.builtin "sorted") rSortK := fun pins s σ H xs us Q I r h => h.elim (fun h => call_sortedD hc pins s σ H xs us Q I r h) fun h => call_sortedDI hc pins s σ H xs us Q I r h
theorem el_sortK (S : Sx F K mg N vis gl k) (i : Nat) {p : Pos} (hm : mg "sorted" = none) (ha : EX F K Z own a g) (hg : gl[i]? = some ("sorted" : Str) := by rfl) (hs : ∀ X, F X → starEach [a] X.env = (false, eval a X.env) :: starEach [] X.env := by intro _ _; rfl) : EL F K Z own (.Call (.Name "sorted" p) [a] [] pos) (sortKM g) := by
  obtain ⟨ta, pa, ha⟩ := ha
  refine ⟨tCB rSortK (tCons ta tNil), fun X hX => let ⟨g1, g2, g3⟩ := S.gl X hX i _ hg; pe_callB (cr_sortK (S.calm X hX)) g1 (by rw [S.hmg X hX]; exact hm) PyProof.Rows.boot_sorted (pa_cons (pa X hX) pa_nil (hs X hX)) g3 g2 (hs X hX) rfl, fun G ρ σ H B R => ?_⟩
  refine Run.thn (p2 := fun x H1 Q => rSortK [x] H1 Q) (ha G ρ σ H B R) fun d ρ1 v H1 B1 hr e R1 l => ?_
  clear hr
  cases l with
  | dk hb rs hl hz hok =>
    rename_i p lk ks vs ds
    have zf : (ks.zip vs).map (·.1) = ks := List.map_fst_zip (by rw [rs.len]; omega)
    show Run K Z G own (Fresh K G own σ) (ofO (sortK (.dk lk ks ds)) ρ1) σ B1 _
    unfold sortK
    dsimp only
    cases h1 : strKs ks with
    | some ss =>
      dsimp only
      split
      · rename_i h64
        intro Q q
        refine .inl ⟨p, _, ss, rfl, Rd.mono R1.keep.bh hb.rd, by rw [zf]; exact strKs_eq h1, h64, fun ys q0 pm so hq => ?_⟩
        have ey := sortS_eq pm so
        subst ey
        have ok : ∀ n ∈ sortS ss, PyData.strOk n = true := fun n hn => hok n (by rw [strKs_eq h1]; exact List.mem_map.mpr ⟨n, (pm.mem_iff).mp hn, rfl⟩)
        obtain ⟨R2, f2⟩ := R1.fresh hq (Reps.ofStrs (sortS ss) ok) (by rw [List.length_map, pm.length_eq, sizeLine_eq]; omega)
        exact q _ _ B1 Ex.rfl R2 f2
      · trivial
    | none =>
      dsimp only
      cases h2 : intKs ks with
      | none => trivial
      | some is =>
        dsimp only
        split
        · rename_i h64
          intro Q q
          refine .inr ⟨p, _, is, rfl, Rd.mono R1.keep.bh hb.rd, by rw [zf]; exact intKs_eq h2, h64, fun ys q0 pm so hq => ?_⟩
          have ey := sortI_eq pm so
          subst ey
          obtain ⟨R2, f2⟩ := R1.fresh hq (Reps.ofInts (sortI is)) (by rw [List.length_map, pm.length_eq, sizeLine_eq]; omega)
          exact q _ _ B1 Ex.rfl R2 f2
        · trivial
  | _ => trivial
/-! ### len(d) -/
def lenK : List D → Option D
  | [.dk _ ks _] => some (.int ks.length)
  | _ => none
def lenKS (j : Nat) : M D := fun ρ => ofO (lenK [look ρ j]) ρ
end
end MP
namespace MP
open PySem PySem.Spec PyProof.Rows L2
/-! ### dict(pairs) -/
section
variable {α : Type}
def mrg : List (Key × α) → List Key → List α → List Key × List α
  | [], ks, xs => (ks, xs)
  | (k, x) :: r, ks, xs => mrg r (putKs ks k) (putXs ks xs k x)
theorem mrg_len : ∀ (r : List (Key × α)) {ks : List Key} {xs : List α}, ks.length = xs.length → (mrg r ks xs).1.length = (mrg r ks xs).2.length ∧ (mrg r ks xs).1.length ≤ ks.length + r.length
  | [], ks, xs, h => ⟨h, by simp [mrg]⟩
  | (k, x) :: r, ks, xs, h => by
    obtain ⟨a, b⟩ := mrg_len r (ks := putKs ks k) (xs := putXs ks xs k x) (putXs_len h).symm
    have := putKs_len ks k
    exact ⟨a, by simp only [List.length_cons]; exact Nat.le_trans b (by omega)⟩
end
theorem merge_zip : ∀ (r : List (Key × V)) {ks : List Key} {vs : List V}, ks.length = vs.length → mergeK (ks.zip vs) r = (mrg r ks vs).1.zip (mrg r ks vs).2
  | [], ks, vs, _ => rfl
  | (k, x) :: r, ks, vs, h => by
    show mergeK (putK (ks.zip vs) k x) r = _
    rw [put_zip h, merge_zip r (putXs_len h).symm]
    rfl
/-- pairs of a key and a value -/
inductive RP (K : PySem.W.Frag) (B : Hp) : List (Key × V) → List (Key × D) → Prop
  | nil : RP K B [] []
  | cons {k0 : Key} {v : V} {d : D} {r : List (Key × V)} {q : List (Key × D)} : Rep K B v d → (∀ s, k0 = Sum.inr s → PyData.strOk s = true) → RP K B r q → RP K B ((k0, v) :: r) ((k0, d) :: q)
theorem RP.mrg {K : PySem.W.Frag} {B : Hp} {r : List (Key × V)} {q : List (Key × D)} (p : RP K B r q) : ∀ {ks : List Key} {vs : List V} {ds : List D}, Reps K B vs ds → (∀ x, Sum.inr x ∈ ks → PyData.strOk x = true) → (MP.mrg r ks vs).1 = (MP.mrg q ks ds).1 ∧ Reps K B (MP.mrg r ks vs).2 (MP.mrg q ks ds).2 ∧ ∀ x, Sum.inr x ∈ (MP.mrg q ks ds).1 → PyData.strOk x = true := by
  induction p with
  | nil => intro ks vs ds rs h; exact ⟨rfl, rs, h⟩
  | cons r hs t ih => intro ks vs ds rs h; exact ih (rs.put r) (putKs_ok h hs)
theorem RP.len {K : PySem.W.Frag} {B : Hp} : ∀ {r : List (Key × V)} {q : List (Key × D)}, RP K B r q → r.length = q.length
  | _, _, .nil => rfl
  | _, _, .cons _ _ t => congrArg (· + 1) t.len
def pairO : D → Option (Key × D)
  | .tup [x, y] => (keyK x).map fun k => (k, y)
  | _ => none
def pairsO : List D → Option (List (Key × D))
  | [] => some []
  | d :: r => (pairO d).bind fun p => (pairsO r).map (p :: ·)
theorem pairO_some {d : D} {p : Key × D} (h : pairO d = some p) : ∃ x, keyK x = some p.1 ∧ d = .tup [x, p.2] := by
  unfold pairO at h
  split at h
  · rename_i x y
    obtain ⟨k0, hk, rfl⟩ := Option.map_eq_some_iff.mp h
    exact ⟨x, hk, rfl⟩
  · cases h
theorem reps_two {K : PySem.W.Frag} {B : Hp} {vs : List V} {x y : D} (r : Reps K B vs [x, y]) : ∃ v w, vs = [v, w] ∧ Rep K B v x ∧ Rep K B w y := by
  cases r with
  | cons r1 t =>
    cases t with
    | cons r2 t2 =>
      cases t2
      exact ⟨_, _, rfl, r1, r2⟩
theorem rep_tup {K : PySem.W.Frag} {B : Hp} {v : V} {ds : List D} (r : Rep K B v (.tup ds)) : ∃ a us, v = .ref a ∧ SqT K B a us ∧ Reps K B us ds := by
  cases r with
  | tup hq rs hz => exact ⟨_, _, rfl, hq, rs⟩
theorem pair_rep {K : PySem.W.Frag} {B H : Hp} (e : Ex B H) {v : V} {d : D} {p : Key × D} (r : Rep K B v d) (h : pairO d = some p) : ∃ q u, v = .ref q ∧ SqT K H q [kV p.1, u] ∧ Rep K B u p.2 ∧ ∀ s, p.1 = Sum.inr s → PyData.strOk s = true := by
  obtain ⟨x, hk, rfl⟩ := pairO_some h
  obtain ⟨a, us, rfl, hq, rs⟩ := rep_tup r
  obtain ⟨v1, v2, rfl, r1, r2⟩ := reps_two rs
  obtain ⟨rfl, hs⟩ := rep_key r1 hk
  exact ⟨a, v2, rfl, seqT e hq, r2, hs⟩
theorem pairs_rep {K : PySem.W.Frag} {B H : Hp} (e : Ex B H) : ∀ {vs : List V} {ds : List D} {ps : List (Key × D)}, Reps K B vs ds → pairsO ds = some ps → ∃ qs kvs, vs = qs.map V.ref ∧ Paired (fun p kv => SqT K H p [kV kv.1, kv.2]) qs kvs ∧ RP K B kvs ps
  | _, [], ps, .nil, h => by cases h; exact ⟨[], [], rfl, .nil, .nil⟩
  | _, d :: ds, ps, .cons r t, h => by
    obtain ⟨p, hp, h⟩ := Option.bind_eq_some_iff.mp (show ((pairO d).bind fun p => (pairsO ds).map (p :: ·)) = some ps from h)
    obtain ⟨r2, hr, rfl⟩ := Option.map_eq_some_iff.mp h
    obtain ⟨q, u, rfl, hq, ru, hs⟩ := pair_rep e r hp
    obtain ⟨qs, kvs, rfl, pd, rp⟩ := pairs_rep e t hr
    exact ⟨q :: qs, (p.1, u) :: kvs, rfl, .cons hq pd, .cons ru hs rp⟩
def dictO : D → Option D
  | .lst ds => (match pairsO ds with
    | some ps => if ds.length < 1000000 then some (.dk false (mrg ps [] []).1 (mrg ps [] []).2) else none
    | none => none)
  | _ => none
def dictM (g : M D) : M D := bnd g fun d => ofO (dictO d)
section
variable {F : CF} {K : PySem.W.Frag} {mg : Str → Option Value} {Z : XC} {own own1 own' : List Stt} {N : List Str} {vis : List Bool} {gl : List Str} {k : Nat} {a b : Expr} {g h : M D} {pos : Pos} {G : Gam} {ρ : Env} {σ : L2.St} {H B : Hp}
/-- a new dict -/
theorem Rel.freshK (R : Rel K G own ρ σ H B) {p : Addr} (hp : H p = none) {ks : List Key} {vs : List V} {ds : List D} (rs : Reps K B vs ds) (hl : ks.length = ds.length) (hz : ds.length ≤ sizeLine) (hok : ∀ x, Sum.inr x ∈ ks → PyData.strOk x = true) : Rel K G own ρ σ (upd H p (.dK (ks.zip vs))) B ∧ FreshM K G own σ (upd H p (.dK (ks.zip vs))) B (.ref p) (.dk false ks ds) := by
  have nw := New.heap (K := K) (o := .dK (ks.zip vs)) R.keep.bh hp
  have c : CellOk K (upd H p (.dK (ks.zip vs))) B p (.dk false ks ds) := ⟨rfl, vs, upd_same, rs, hl, hz, R.keep.bh.free hp, hok⟩
  refine ⟨R.new nw, p, rfl, ⟨c, trivial⟩, fun b r => ?_⟩
  have e := c.root r
  subst e
  obtain ⟨f1, f2⟩ := R.free hp
  exact ⟨f1, R.noRt (fun x o e p => nw.h x o e p.1) f2⟩
theorem em_dict (S : Sx F K mg N vis gl k) (i : Nat) {p : Pos} (hm : mg "dict" = none) (ha : EX F K Z own a g) (hg : gl[i]? = some ("dict" : Str) := by rfl) (hs : ∀ X, F X → starEach [a] X.env = (false, eval a X.env) :: starEach [] X.env := by intro _ _; rfl) : EM F K Z own (.Call (.Name "dict" p) [a] [] pos) (dictM g) := by
  obtain ⟨ta, pa, ha⟩ := ha
  refine ⟨tCB (fun xs H Q => ∃ (a : Addr) (ps : List Addr) (kvs : List (Key × V)), xs = [.ref a] ∧ SqL K H a (ps.map V.ref) ∧ Paired (fun p kv => SqT K H p [kV kv.1, kv.2]) ps kvs ∧ ∀ p, H p = none → Q (.ref p) (upd H p (.dK (mergeK [] kvs)))) (tCons ta tNil), fun X hX => let ⟨g1, g2, g3⟩ := S.gl X hX i _ hg; pe_callTy (atK (S.hK X hX) (fun K => CallR X _ fun xs H Q => ∃ (a : Addr) (ps : List Addr) (kvs : List (Key × V)), xs = [.ref a] ∧ SqL K H a (ps.map V.ref) ∧ Paired (fun p kv => SqT K H p [kV kv.1, kv.2]) ps kvs ∧ ∀ p, H p = none → Q (.ref p) (upd H p (.dK (mergeK [] kvs)))) (call_dictP (S.calm X hX))) g1 (by rw [S.hmg X hX]; exact hm) PyProof.Rows.boot_dict (pa_cons (pa X hX) pa_nil (hs X hX)) g3 g2 (hs X hX) rfl, fun G ρ σ H B R => ?_⟩
  refine Run.thn (p2 := fun x H1 Q => ∃ (a : Addr) (ps : List Addr) (kvs : List (Key × V)), [x] = [V.ref a] ∧ SqL K H1 a (ps.map V.ref) ∧ Paired (fun p kv => SqT K H1 p [kV kv.1, kv.2]) ps kvs ∧ ∀ p, H1 p = none → Q (.ref p) (upd H1 p (.dK (mergeK [] kvs)))) (ha G ρ σ H B R) fun d ρ1 v H1 B1 hr e R1 l => ?_
  clear hr
  cases l with
  | lst hq rs hz =>
    rename_i q0 us ds
    show Run K Z G own (FreshM K G own σ) (ofO (dictO (.lst ds)) ρ1) σ B1 _
    unfold dictO
    dsimp only
    cases hp : pairsO ds with
    | none => trivial
    | some ps =>
      dsimp only
      split
      · rename_i hlt
        intro Q q
        obtain ⟨qs, kvs, rfl, pd, rp⟩ := pairs_rep R1.keep.bh rs hp
        refine ⟨q0, qs, kvs, rfl, R1.keep.bh.seq hq, pd, fun p hpn => ?_⟩
        have e1 := merge_zip kvs (ks := []) (vs := []) rfl
        have e1 : mergeK [] kvs = _ := e1
        obtain ⟨m1, m2, m3⟩ := rp.mrg (ks := []) .nil fun _ h => by cases h
        obtain ⟨l1, l2⟩ := mrg_len ps (ks := []) (xs := []) rfl
        have hpl : ps.length = ds.length := by
          rw [← rp.len]
          have := pd.length
          have := rs.len
          simp at this
          omega
        rw [e1, m1]
        obtain ⟨R2, f2⟩ := R1.freshK hpn m2 l1 (by rw [← l1, sizeLine_eq]; simp only [List.length_nil] at l2; omega) m3
        exact q _ _ B1 Ex.rfl R2 f2
      · trivial
  | _ => trivial
/-! ### d == e, d != e -/
/-- values that are plain data -/
def PlV (K : PySem.W.Frag) (H : Hp) : List V → List PyData → Prop
  | [], [] => True
  | v :: vs, d :: ds => Dp K H v d ∧ SeqAt.shaped d = true ∧ PlV K H vs ds
  | _, _ => False
end
end MP
namespace MP
open PySem PySem.Spec PyProof.Rows L2
/-! ### == and != of dicts -/
section
variable {X : Cx} {pins : List (Addr × Obj)} {σ : L2.St} {H : Hp} {s : Shared}
theorem PlV.at {K : PySem.W.Frag} {H : Hp} : ∀ {ks : List Key} {vs : List V} {ds : List PyData} {k0 : Key} {v : V}, PlV K H vs ds → valA ks vs k0 = some v → ∃ d, valA ks ds k0 = some d ∧ Dp K H v d ∧ SeqAt.shaped d = true
  | [], _, _, _, _, _, h => by simp at h
  | _ :: _, [], _, _, _, _, h => by simp [valA] at h
  | k :: ks, v :: vs, d :: ds, k0, v0, ⟨a, b, c⟩, h => by
    rw [valA_cons] at h ⊢
    by_cases e : k = k0
    · rw [if_pos e] at h ⊢; cases h; exact ⟨d, rfl, a, b⟩
    · rw [if_neg e] at h ⊢; exact PlV.at c h
  | _ :: _, _ :: _, [], _, _, h, _ => h.elim
theorem PlV.no {K : PySem.W.Frag} {H : Hp} : ∀ {ks : List Key} {vs : List V} {ds : List PyData} {k0 : Key}, PlV K H vs ds → valA ks vs k0 = none → valA ks ds k0 = none
  | [], _, _, _, _, h => by simp
  | _ :: _, [], [], _, _, h => by simp [valA]
  | k :: ks, v :: vs, d :: ds, k0, ⟨a, b, c⟩, h => by
    rw [valA_cons] at h ⊢
    by_cases e : k = k0
    · rw [if_pos e] at h; cases h
    · rw [if_neg e] at h ⊢; exact PlV.no c h
  | _ :: _, _ :: _, [], _, h, _ => h.elim
  | _ :: _, [], _ :: _, _, h, _ => h.elim
end
/-! ### {k: v for ..} -/
def dcL (b : Bd) (c : M Bool) (gk gv : M D) (vs : List Nat) : List D → Env → List Key → List D → Res (List Key × List D)
  | [], ρ, ks, xs => .ok (ks, xs) ρ
  | d :: ds, ρ, ks, xs => match b d ρ with
    | none => .bad
    | some ρ1 => match c ρ1 with
      | .ok true ρ2 => (match gk ρ2 with
        | .ok y ρ3 => (match gv ρ3 with
          | .ok z ρ4 => (match keyK y with
            | some k => dcL b c gk gv vs ds (restore vs ρ ρ4) (putKs ks k) (putXs ks xs k z)
            | none => .bad)
          | _ => .bad)
        | _ => .bad)
      | .ok false ρ2 => dcL b c gk gv vs ds (restore vs ρ ρ2) ks xs
      | _ => .bad
def dcD (b : Bd) (it : M (List D)) (c : M Bool) (gk gv : M D) (vs : List Nat) : M D := bnd it fun ds => bnd (fun ρ => dcL b c gk gv vs ds ρ [] []) fun p => ret (.dk false p.1 p.2)
end MP
namespace MP
open PySem L2
end MP
/-! ### dicts in fields of an own instance -/
namespace MP
open PySem L2
section
variable {F : CF} {K : PySem.W.Frag} {mg : Str → Option Value} {Z : XC} {own own1 own' : List Stt} {N : List Str} {vis : List Bool} {gl : List Str} {k : Nat} {a b : Expr} {g h : M D} {pos : Pos} {P : Program} {w : World} {base : Heap} {ps : List Str} {f : Addr} {fd : FuncData}
def boxD (c : Str) (i j : Nat) : Env → Option D := fun ρ => fldD c i (look ρ j)
/-- x.f = {} -/
def setFM (c : Str) (i j : Nat) (g : M D) : SM := sbd g fun d ρ => match look ρ j with
  | .ins c' fs => if c' = c ∧ i ≤ fs.length then .nx (ρ.set j (.ins c' (putI i d fs))) else .bad
  | _ => .bad
/-- k in x.f -/
def inFD (neg : Bool) (c : Str) (i j : Nat) (g : M D) : M D := bnd g fun x ρ => ofO ((boxD c i j ρ).bind fun d => inK neg x d) ρ
/-- len(x.f), pure -/
def lenFD (c : Str) (i j : Nat) : Env → Option D := fun ρ => (boxD c i j ρ).bind fun d => lenK [d]
theorem PX.ex {e : Expr} {p : Env → Option D} (h : PX F K own e p) : EX F K Z own e (fun ρ => ofO (p ρ) ρ) := by
  obtain ⟨t, pe, h⟩ := h
  exact ⟨t, pe, fun G ρ σ H B R => Run.prim R (h G ρ σ H B R)⟩
/-- x.f[k] = v, both pure -/
def putFD (c : Str) (i j : Nat) (pk pv : Env → Option D) : SM := fun ρ => match boxD c i j ρ, pk ρ, pv ρ with
  | some (.dk false ks ds), some x, some d => (match keyK x with
    | some k => if ds.length < 16000000 then .nx (setBox i j (.dk false (putKs ks k) (putXs ks ds k d)) ρ) else .bad
    | none => .bad)
  | _, _, _ => .bad
/-- x.f.setdefault(k, v), both pure -/
def setdFD (c : Str) (i j : Nat) (pk pv : Env → Option D) : SM := fun ρ => match boxD c i j ρ, pk ρ, pv ρ with
  | some (.dk false ks ds), some x, some d => (match keyK x with
    | some k => if ds.length < 16000000 then (if k ∈ ks then .nx ρ else .nx (setBox i j (.dk false (putKs ks k) (putXs ks ds k d)) ρ)) else .bad
    | none => .bad)
  | _, _, _ => .bad
end
end MP
/-! ### != by an own __eq__ (there is no own __ne__) -/
namespace MP
open PySem PySem.Spec PySem.Calls PyProof.Rows L2
open PySem.W (Frag InstAt findIn isFn subIn)
end MP
/-! ### dict displays -/
namespace MP
open PySem L2
def keysP : List (D × D) → Option (List (Key × D))
  | [] => some []
  | p :: r => (keyK p.1).bind fun k => (keysP r).map ((k, p.2) :: ·)
def dispO (ds : List (D × D)) : Option D := match keysP ds with
  | some ps => if ds.length ≤ 15 then some (.dk false (mrg ps [] []).1 (mrg ps [] []).2) else none
  | none => none
def nilP : M (List (D × D)) := ret []
def consP (g h : M D) (r : M (List (D × D))) : M (List (D × D)) := bnd g fun x => bnd h fun y => bnd r fun ps => ret ((x, y) :: ps)
def dispM (g : M (List (D × D))) : M D := bnd g fun ds => ofO (dispO ds)
end MP
/-! ### x.pop(), x.insert(i, e) of lists of the frame's own -/
namespace MP
open PySem L2
section
variable {F : CF} {K : PySem.W.Frag} {mg : Str → Option Value} {Z : XC} {own own1 own' : List Stt} {N : List Str} {vis : List Bool} {gl : List Str} {k : Nat} {a b : Expr} {g h : M D} {pos : Pos}
theorem Reps.dropLast {B : Hp} {vs : List V} {ds : List D} (r : Reps K B vs ds) : Reps K B vs.dropLast ds.dropLast := by
  rw [List.dropLast_eq_take, List.dropLast_eq_take, r.len]
  exact r.take _
def popM (j : Nat) : M D := fun ρ => match look ρ j with
  | .lst rs => (match rs[rs.length - 1]? with
    | some y => .ok y (ρ.set j (.lst rs.dropLast))
    | none => .bad)
  | _ => .bad
theorem minM_eq {g : M D} : callD (fun xs => match xs with
    | [d] => minO d
    | _ => none) (consD g nilD) = minM g := by
  funext ρ
  show ((g ρ).bnd fun x => bnd nilD fun xs => ret (x :: xs)).bnd _ = (g ρ).bnd fun d => ofO (minO d)
  cases g ρ <;> rfl
theorem ex_minM (S : Sx F K mg N vis gl k) (i : Nat) {p : Pos} (hm : mg "min" = none) (ha : EX F K Z own a g) (hg : gl[i]? = some ("min" : Str) := by rfl) (hs : ∀ X, F X → starEach [a] X.env = (false, eval a X.env) :: starEach [] X.env := by intro _ _; rfl) :
    EX F K Z own (.Call (.Name "min" p) [a] [] pos) (minM g) := minM_eq ▸ ex_min S i hm ha hg hs
end
end MP
namespace MP.k09
open PySem L2 MP
def top (i : Nat) : Stmt := PySem.Challenge.pw_seerings_k09_whole_rings_by_powers.main.body.getD i (.Pass ⟨0, 0, 0, 0⟩)
def clsOf : Stmt → List Stmt
  | .ClassDef _ _ _ b _ _ _ _ _ _ _ => b
  | _ => []
def g_RULES : D := .tup ((["all", "half", "leaf"] : List PySem.Str).map D.str)
structure Txt (K : PySem.W.Frag) (mg : Str → Option Value) : Prop where
  k_Card : Cl K "Card" (["facts"] : List PySem.Str)
  k_Drawer : Cl K "Drawer" (["row"] : List PySem.Str)
  c_ENTRY : ∃ t, mg "ENTRY" = some (.str "entry" t)
  c_HALF : ∃ t, mg "HALF" = some (.str "half" t)
  c_LEAF : ∃ t, mg "LEAF" = some (.str "leaf" t)
  c_LETTERS : ∃ t, mg "LETTERS" = some (.str "abcdefghijklmnopqrstuvwxyz" t)
  c_LOST : ∃ t, mg "LOST" = some (.str "lost" t)
  c_MAX_ALSO : ∃ t, mg "MAX_ALSO" = some (.int 4 t)
  c_MAX_BOOK : ∃ t, mg "MAX_BOOK" = some (.int 999 t)
  c_MAX_BOOKS : ∃ t, mg "MAX_BOOKS" = some (.int 6 t)
  c_MAX_CARDS : ∃ t, mg "MAX_CARDS" = some (.int 16 t)
  c_MAX_LETTERS : ∃ t, mg "MAX_LETTERS" = some (.int 8 t)
  c_RING : ∃ t, mg "RING" = some (.str "ring" t)
  c_RULES : ∃ a, mg "RULES" = some (.ref a) ∧ ∀ B, Rep K B (.ref a) g_RULES
  d_Walk : DCl K "Walk"
  f_all : mg "all" = none
  f_bool : mg "bool" = none
  f_dict : mg "dict" = none
  f_enumerate : mg "enumerate" = none
  f_int : mg "int" = none
  f_isinstance : mg "isinstance" = none
  f_len : mg "len" = none
  f_list : mg "list" = none
  f_min : mg "min" = none
  f_range : mg "range" = none
  f_set : mg "set" = none
  f_sorted : mg "sorted" = none
  f_str : mg "str" = none
  f_tuple : mg "tuple" = none
  f_zip : mg "zip" = none
/-! _law_taken -/
abbrev s__law_taken : Stmt := top 41
def d__law_taken : SM := (seqS (ifS (asB (op2 gtD (ixOwn 0 (kD (.int 3))) (kD (.int 0)))) (seqS (setS 2 (op2 (intOp (fun _ j => decide (0 < j)) fun i j => .int (i % j)) (callD intD (consD (ixOwn 0 (kD (.int 3))) nilD)) (vD 1))) (seqS (setIxS 0 (kD (.int 3)) (op2 (intOp divC fun i j => .int (i / j)) (ixOwn 0 (kD (.int 3))) (vD 1))) (seqS (retS (vD 2)) nxS))) nxS) (seqS (setIxS 0 (kD (.int 1)) (op2 addD (ixOwn 0 (kD (.int 1))) (kD (.int 1)))) (seqS (ifS (asB (op2 gtD (ixOwn 0 (kD (.int 1))) (callD lenD (consD (ixOwn 0 (kD (.int 0))) nilD)))) (seqS (setIxS 0 (kD (.int 2)) (op2 (intOp (fun _ j => decide (0 < j)) fun i j => .int (i % j)) (callD intD (consD (op2 addD (op2 (intOp mulC fun i j => .int (i * j)) (ixOwn 0 (kD (.int 2))) (kD (.int 48271))) (kD (.int 11))) nilD)) (kD (.int 2147483647)))) (seqS (retS (op2 (intOp (fun _ j => decide (0 < j)) fun i j => .int (i % j)) (callD intD (consD (op2 (intOp divC fun i j => .int (i / j)) (ixOwn 0 (kD (.int 2))) (kD (.int 7))) nilD)) (vD 1))) nxS)) nxS) (seqS (setS 3 (op2 ixD (ixOwn 0 (kD (.int 0))) (op2 (intOp (fun _ _ => true) fun i j => .int (i - j)) (ixOwn 0 (kD (.int 1))) (kD (.int 1))))) (seqS (setIxS 0 (kD (.int 2)) (op2 (intOp (fun _ j => decide (0 < j)) fun i j => .int (i % j)) (callD intD (consD (op2 addD (op2 addD (op2 (intOp mulC fun i j => .int (i * j)) (ixOwn 0 (kD (.int 2))) (kD (.int 48271))) (vD 3)) (kD (.int 11))) nilD)) (kD (.int 2147483647)))) (seqS (setIxS 0 (kD (.int 3)) (ifD (asB (op2 geD (vD 3) (op2 (intOp powC fun i j => .int (i ^ j.toNat)) (kD (.int 10)) (kD (.int 18))))) (op2 (intOp divC fun i j => .int (i / j)) (vD 3) (vD 1)) (kD (.int 0)))) (seqS (retS (op2 (intOp (fun _ j => decide (0 < j)) fun i j => .int (i % j)) (callD intD (consD (vD 3) nilD)) (vD 1))) nxS)))))))
def F__law_taken : FRf := runR 4 1 d__law_taken
theorem t__law_taken {P : Program} {w : World} {K : PySem.W.Frag} {mg : Str → Option Value} {base : Heap} {f : Addr} (T : Txt K mg)  :
    STs (bodyF P w K mg base (["_law_row", "_law_many", "_law_found", "_law_cell"] : List PySem.Str) "_law_taken" (defScope s__law_taken) f 0) K (ctlR 4) [.R, .V, .U, .U] (defBody s__law_taken) d__law_taken [.R, .U, .U, .U] := by
  have nd : ((["_law_row", "_law_many", "_law_found", "_law_cell"] : List PySem.Str)).Nodup := by decide +kernel
  have S : Sx (bodyF P w K mg base (["_law_row", "_law_many", "_law_found", "_law_cell"] : List PySem.Str) "_law_taken" (defScope s__law_taken) f 0) K mg (["_law_row", "_law_many", "_law_found", "_law_cell"] : List PySem.Str) [true, true, true, true] (["int", "len"] : List PySem.Str) 0 := sx_body (by decide +kernel) (by decide +kernel)
  have A : Fam (bodyF P w K mg base (["_law_row", "_law_many", "_law_found", "_law_cell"] : List PySem.Str) "_law_taken" (defScope s__law_taken) f 0) P w base := fam_body
  have Q : Scp (bodyF P w K mg base (["_law_row", "_law_many", "_law_found", "_law_cell"] : List PySem.Str) "_law_taken" (defScope s__law_taken) f 0) (["_law_row", "_law_many", "_law_found", "_law_cell"] : List PySem.Str) (defScope s__law_taken) := scp_body
  have L : Lx (bodyF P w K mg base (["_law_row", "_law_many", "_law_found", "_law_cell"] : List PySem.Str) "_law_taken" (defScope s__law_taken) f 0) (["_law_row", "_law_many", "_law_found", "_law_cell"] : List PySem.Str) [false, false, true, true] := lx_body nd (by decide +kernel)
  unfold d__law_taken
  exact (ss_cons (own1 := [.R, .V, .U, .U]) (st_if (et_cmp (fun _ _ => or_gt) od_gt (nomark _) (ex_ixOwn S 0 ex_int) ex_int) (ss_cons (own1 := [.R, .V, .V, .U]) (st_set S 2 L (ex_mod (ex_intc S 0 T.f_int (ex_ixOwn S 0 ex_int)) (ex_var S 1)))
    (ss_cons (own1 := [.R, .V, .V, .U]) (st_setIx S 0 ex_int (ex_fdiv (ex_ixOwn S 0 ex_int) (ex_var S 1)))
    (ss_cons (own1 := [.R, .V, .U, .U]) (st_ret (ex_var S 2) (by decide))
    ss_nil))) ss_nil)
    (ss_cons (own1 := [.R, .V, .U, .U]) (st_setIx S 0 ex_int (ex_add S (ex_ixOwn S 0 ex_int) ex_int))
    (ss_cons (own1 := [.R, .V, .U, .U]) (st_if (et_cmp (fun _ _ => or_gt) od_gt (nomark _) (ex_ixOwn S 0 ex_int) (ex_len S 1 T.f_len (ex_ixOwn S 0 ex_int))) (ss_cons (own1 := [.R, .V, .U, .U]) (st_setIx S 0 ex_int (ex_mod (ex_intc S 0 T.f_int (ex_add S (ex_mul (ex_ixOwn S 0 ex_int) ex_int) ex_int)) ex_int))
    (ss_cons (own1 := [.R, .V, .U, .U]) (st_ret (ex_mod (ex_intc S 0 T.f_int (ex_fdiv (ex_ixOwn S 0 ex_int) ex_int)) (ex_var S 1)) (by decide))
    ss_nil)) ss_nil)
    (ss_cons (own1 := [.R, .V, .U, .V]) (st_set S 3 L (ex_ix S (ex_ixOwn S 0 ex_int) (ex_sub (ex_ixOwn S 0 ex_int) ex_int)))
    (ss_cons (own1 := [.R, .V, .U, .V]) (st_setIx S 0 ex_int (ex_mod (ex_intc S 0 T.f_int (ex_add S (ex_add S (ex_mul (ex_ixOwn S 0 ex_int) ex_int) (ex_var S 3)) ex_int)) ex_int))
    (ss_cons (own1 := [.R, .V, .U, .V]) (st_setIx S 0 ex_int (ex_if (et_cmp (fun _ _ => or_ge) od_ge (nomark _) (ex_var S 3) (ex_pow ex_int ex_int)) (ex_fdiv (ex_var S 3) (ex_var S 1)) ex_int))
    (ss_cons (own1 := [.R, .U, .U, .U]) (st_ret (ex_mod (ex_intc S 0 T.f_int (ex_var S 3)) (ex_var S 1)) (by decide))
    ss_nil)))))))
/-! _law_pick -/
abbrev s__law_pick : Stmt := top 42
def d__law_pick : SM := (seqS (retS (op2 ixD (vD 1) (callR F__law_taken 0 (consD (callD lenD (consD (vD 1) nilD)) nilD)))) nxS)
def F__law_pick : FRf := runR 2 1 d__law_pick
theorem t__law_pick {P : Program} {w : World} {K : PySem.W.Frag} {mg : Str → Option Value} {base : Heap} {f : Addr} (T : Txt K mg) {fd__law_taken : FuncData} (h__law_taken : FnRr P w K mg base "_law_taken" (He.fAd K ("_law_taken", none)) fd__law_taken (["_law_row", "_law_many"] : List PySem.Str) 1 F__law_taken) :
    STs (bodyF P w K mg base (["_law_row", "_law_some"] : List PySem.Str) "_law_pick" (defScope s__law_pick) f 1) K (ctlR 2) [.R, .V] (defBody s__law_pick) d__law_pick [.R, .U] := by
  have nd : ((["_law_row", "_law_some"] : List PySem.Str)).Nodup := by decide +kernel
  have S : Sx (bodyF P w K mg base (["_law_row", "_law_some"] : List PySem.Str) "_law_pick" (defScope s__law_pick) f 1) K mg (["_law_row", "_law_some"] : List PySem.Str) [true, true] (["_law_taken", "len"] : List PySem.Str) 1 := sx_body (by decide +kernel) (by decide +kernel)
  have A : Fam (bodyF P w K mg base (["_law_row", "_law_some"] : List PySem.Str) "_law_pick" (defScope s__law_pick) f 1) P w base := fam_body
  have Q : Scp (bodyF P w K mg base (["_law_row", "_law_some"] : List PySem.Str) "_law_pick" (defScope s__law_pick) f 1) (["_law_row", "_law_some"] : List PySem.Str) (defScope s__law_pick) := scp_body
  have L : Lx (bodyF P w K mg base (["_law_row", "_law_some"] : List PySem.Str) "_law_pick" (defScope s__law_pick) f 1) (["_law_row", "_law_some"] : List PySem.Str) [false, false] := lx_body nd (by decide +kernel)
  unfold d__law_pick
  exact (ss_cons (own1 := [.R, .U]) (st_ret (ex_ix S (ex_var S 1) (ex_callR A S 0 0 h__law_taken (es_cons (ex_len S 1 T.f_len (ex_var S 1)) es_nil))) (by decide))
    ss_nil)
/-! _law_seeing -/
abbrev s__law_seeing : Stmt := top 46
def b1__law_seeing : SM := (seqS (setS 4 (callR F__law_pick 0 (consD (vD 1) nilD))) (seqS (setS 5 (callR F__law_pick 0 (consD (lstM (lcD (bName 6) (itD (vD 1)) (asB (op2 neD (vD 6) (vD 4))) (vD 6) [6])) nilD))) (seqS (appS 2 (tupD (consD (vD 4) (consD (tupD nilD) (consD (ifD (asB (op2 eqD (callR F__law_taken 0 (consD (kD (.int 6)) nilD)) (kD (.int 0)))) (kD (.str "")) (vD 5)) (consD (tupD nilD) nilD)))))) nxS)))
def d__law_seeing : SM := (seqS (setParVL 1 2 (lstM (lstD (consD (kD (.str "ant")) (consD (kD (.str "bee")) (consD (kD (.str "cat")) (consD (kD (.str "dog")) (consD (kD (.str "elk")) (consD (kD (.str "fox")) nilD)))))))) (lstD nilD)) (seqS (forS (bName 3) (rngD rng1 (consD (callR F__law_taken 0 (consD (kD (.int 13)) nilD)) nilD)) b1__law_seeing) (seqS (retS (vD 2)) nxS)))
def F__law_seeing : FRf := runR 7 0 d__law_seeing
theorem t__law_seeing {P : Program} {w : World} {K : PySem.W.Frag} {mg : Str → Option Value} {base : Heap} {f : Addr} (T : Txt K mg) {fd__law_pick : FuncData} (h__law_pick : FnRr P w K mg base "_law_pick" (He.fAd K ("_law_pick", none)) fd__law_pick (["_law_row", "_law_some"] : List PySem.Str) 2 F__law_pick) {fd__law_taken : FuncData} (h__law_taken : FnRr P w K mg base "_law_taken" (He.fAd K ("_law_taken", none)) fd__law_taken (["_law_row", "_law_many"] : List PySem.Str) 1 F__law_taken) :
    STs (bodyF P w K mg base (["_law_row", "_law_names", "_law_found", "_law_k", "_law_heading", "_law_other", "_law_name"] : List PySem.Str) "_law_seeing" (defScope s__law_seeing) f 2) K (ctlR 7) [.R, .U, .U, .U, .U, .U, .U] (defBody s__law_seeing) d__law_seeing [.R, .U, .U, .U, .U, .U, .U] := by
  have nd : ((["_law_row", "_law_names", "_law_found", "_law_k", "_law_heading", "_law_other", "_law_name"] : List PySem.Str)).Nodup := by decide +kernel
  have S : Sx (bodyF P w K mg base (["_law_row", "_law_names", "_law_found", "_law_k", "_law_heading", "_law_other", "_law_name"] : List PySem.Str) "_law_seeing" (defScope s__law_seeing) f 2) K mg (["_law_row", "_law_names", "_law_found", "_law_k", "_law_heading", "_law_other", "_law_name"] : List PySem.Str) [true, true, true, true, true, true, false] (["_law_taken", "range", "_law_pick"] : List PySem.Str) 2 := sx_body (by decide +kernel) (by decide +kernel)
  have A : Fam (bodyF P w K mg base (["_law_row", "_law_names", "_law_found", "_law_k", "_law_heading", "_law_other", "_law_name"] : List PySem.Str) "_law_seeing" (defScope s__law_seeing) f 2) P w base := fam_body
  have Q : Scp (bodyF P w K mg base (["_law_row", "_law_names", "_law_found", "_law_k", "_law_heading", "_law_other", "_law_name"] : List PySem.Str) "_law_seeing" (defScope s__law_seeing) f 2) (["_law_row", "_law_names", "_law_found", "_law_k", "_law_heading", "_law_other", "_law_name"] : List PySem.Str) (defScope s__law_seeing) := scp_body
  have L : Lx (bodyF P w K mg base (["_law_row", "_law_names", "_law_found", "_law_k", "_law_heading", "_law_other", "_law_name"] : List PySem.Str) "_law_seeing" (defScope s__law_seeing) f 2) (["_law_row", "_law_names", "_law_found", "_law_k", "_law_heading", "_law_other", "_law_name"] : List PySem.Str) [false, true, true, true, true, true, false] := lx_body nd (by decide +kernel)
  unfold d__law_seeing
  exact (ss_cons (own1 := [.R, .V, .L, .U, .U, .U, .U]) (st_parVL S L 1 2 (EL.ex (el_lst (es_cons ex_str (es_cons ex_str (es_cons ex_str (es_cons ex_str (es_cons ex_str (es_cons ex_str es_nil)))))))) (el_lst es_nil) (loc_body (by decide +kernel)) (loc_body (by decide +kernel)) (hw := (by rintro _ ⟨_, _, _, _, _, _, _, rfl⟩; rfl)))
    (ss_cons (own1 := [.R, .V, .L, .U, .U, .U, .U]) (st_for S pass_body (it_range1 S 1 T.f_range (es_cons (ex_callR A S 0 0 h__law_taken (es_cons ex_int es_nil)) es_nil)) (vs := [3]) (tg_name S.hN 3 L)
    (ss_cons (own1 := [.R, .V, .L, .V, .V, .U, .U]) (st_set S 4 L (ex_callR A S 2 0 h__law_pick (es_cons (ex_var S 1) es_nil)))
    (ss_cons (own1 := [.R, .V, .L, .V, .V, .V, .U]) (st_set S 5 L (ex_callR A S 2 0 h__law_pick (es_cons (EL.ex (el_lcB [("_law_name", 6)] [false, false, false, false, true, false, true] [false, false, false, false, false, false, true] ([] : List PySem.Str) S A Q nd [.R, .V, .L, .V, .V, .U, .V] (it_seq S (ex_var S 1)) (fun S1 L1 => (tg_name S1.hN 6 L1)) (fun S1 A1 Q1 => (ets_one (et_cmp (rl_ne S1) od_ne (nomark _) (ex_var S1 6) (ex_var S1 4)))) (fun S1 A1 Q1 => (ex_var S1 6)))) es_nil)))
    (ss_cons (own1 := [.R, .V, .L, .V, .V, .V, .U]) (st_append S 2 (ex_tup (es_cons (ex_var S 4) (es_cons (ex_tup es_nil) (es_cons (ex_if (et_cmp (rl_eq S) od_eq (nomark _) (ex_callR A S 0 0 h__law_taken (es_cons ex_int es_nil)) ex_int) ex_str (ex_var S 5)) (es_cons (ex_tup es_nil) es_nil))))))
    (ss_nil (by decide))))))
    (ss_freeze 2 (ss_cons (own1 := [.R, .U, .U, .U, .U, .U, .U]) (st_ret (ex_var S 2) (by decide))
    ss_nil))))
/-! is_number -/
abbrev s_is_number : Stmt := top 14
def d_is_number : SM := (seqS (retS (andD (op1 (isiD "int") (vD 0)) (andD (notD (op1 (isiD "bool") (vD 0))) (chain2 leD leD (vD 1) (vD 0) (vD 2))))) nxS)
def F_is_number : FV := runV 3 3 d_is_number
theorem t_is_number {P : Program} {w : World} {K : PySem.W.Frag} {mg : Str → Option Value} {base : Heap} {f : Addr} (T : Txt K mg)  :
    STs (bodyF P w K mg base (["value", "smallest", "largest"] : List PySem.Str) "is_number" (defScope s_is_number) f 0) K (ctlV 3) [.V, .V, .V] (defBody s_is_number) d_is_number [.U, .U, .U] := by
  have nd : ((["value", "smallest", "largest"] : List PySem.Str)).Nodup := by decide +kernel
  have S : Sx (bodyF P w K mg base (["value", "smallest", "largest"] : List PySem.Str) "is_number" (defScope s_is_number) f 0) K mg (["value", "smallest", "largest"] : List PySem.Str) [true, true, true] (["isinstance", "int", "bool"] : List PySem.Str) 0 := sx_body (by decide +kernel) (by decide +kernel)
  have A : Fam (bodyF P w K mg base (["value", "smallest", "largest"] : List PySem.Str) "is_number" (defScope s_is_number) f 0) P w base := fam_body
  have Q : Scp (bodyF P w K mg base (["value", "smallest", "largest"] : List PySem.Str) "is_number" (defScope s_is_number) f 0) (["value", "smallest", "largest"] : List PySem.Str) (defScope s_is_number) := scp_body
  have L : Lx (bodyF P w K mg base (["value", "smallest", "largest"] : List PySem.Str) "is_number" (defScope s_is_number) f 0) (["value", "smallest", "largest"] : List PySem.Str) [false, false, false] := lx_body nd (by decide +kernel)
  unfold d_is_number
  exact (ss_cons (own1 := [.U, .U, .U]) (st_ret (ex_and (ex_isi S 0 1 "int" T.f_isinstance T.f_int PyProof.Rows.boot_int (ex_var S 0)) (ex_and (ex_not (ex_isi S 0 2 "bool" T.f_isinstance T.f_bool PyProof.Rows.boot_bool (ex_var S 0))) (ex_one (ex_chain (fun _ _ => or_le) (fun _ _ => or_le) od_le od_le (ex_var S 1) (ex_var S 0) (ex_var S 2))))) (by decide))
    ss_nil)
/-! are_books -/
abbrev s_are_books : Stmt := top 17
def d_are_books : SM := (seqS (ifS (orB (asB (op2 gtD (callD lenD (consD (vD 0) nilD)) (kD (.int 6)))) (notB (asB (callD allD (consD (lstM (lcD (bName 1) (itD (vD 0)) yesM (callD F_is_number (consD (vD 1) (consD (kD (.int 1)) (consD (kD (.int 999)) nilD)))) [1])) nilD))))) (seqS (retS (kD (.bl false))) nxS) nxS) (seqS (retS (callD allD (consD (lstM (lcD (bTup 2 (bCons (bName 2) (bCons (bName 3) bNil))) (zipM (consD (vD 0) (consD (slM (vD 0) (someP (kD (.int 1))) noP) nilD))) yesM (op2 ltD (vD 2) (vD 3)) [2, 3])) nilD))) nxS))
def F_are_books : FV := runV 4 1 d_are_books
theorem t_are_books {P : Program} {w : World} {K : PySem.W.Frag} {mg : Str → Option Value} {base : Heap} {f : Addr} (T : Txt K mg) {fd_is_number : FuncData} (h_is_number : FnV P w K mg base "is_number" (He.fAd K ("is_number", none)) fd_is_number (["value", "smallest", "largest"] : List PySem.Str) 1 F_is_number) :
    STs (bodyF P w K mg base (["row", "book", "one", "other"] : List PySem.Str) "are_books" (defScope s_are_books) f 1) K (ctlV 4) [.V, .U, .U, .U] (defBody s_are_books) d_are_books [.U, .U, .U, .U] := by
  have nd : ((["row", "book", "one", "other"] : List PySem.Str)).Nodup := by decide +kernel
  have S : Sx (bodyF P w K mg base (["row", "book", "one", "other"] : List PySem.Str) "are_books" (defScope s_are_books) f 1) K mg (["row", "book", "one", "other"] : List PySem.Str) [true, false, false, false] (["len", "MAX_BOOKS", "all", "zip"] : List PySem.Str) 1 := sx_body (by decide +kernel) (by decide +kernel)
  have A : Fam (bodyF P w K mg base (["row", "book", "one", "other"] : List PySem.Str) "are_books" (defScope s_are_books) f 1) P w base := fam_body
  have Q : Scp (bodyF P w K mg base (["row", "book", "one", "other"] : List PySem.Str) "are_books" (defScope s_are_books) f 1) (["row", "book", "one", "other"] : List PySem.Str) (defScope s_are_books) := scp_body
  have L : Lx (bodyF P w K mg base (["row", "book", "one", "other"] : List PySem.Str) "are_books" (defScope s_are_books) f 1) (["row", "book", "one", "other"] : List PySem.Str) [false, false, false, false] := lx_body nd (by decide +kernel)
  unfold d_are_books
  exact (ss_cons (own1 := [.V, .U, .U, .U]) (st_if (EW.et (ew_or (et_cmp (fun _ _ => or_gt) od_gt (nomark _) (ex_len S 0 T.f_len (ex_var S 0)) (ex_gint S 1 T.c_MAX_BOOKS)) (ew_or1 (et_not (et_val (ex_all S 2 T.f_all (EL.ex (el_lcB [("book", 1)] [false, true, false, false] [false, true, false, false] (["is_number", "MAX_BOOK"] : List PySem.Str) S A Q nd [.V, .V, .U, .U] (it_seq S (ex_var S 0)) (fun S1 L1 => (tg_name S1.hN 1 L1)) (fun S1 A1 Q1 => ets_nil) (fun S1 A1 Q1 => (ex_callV A1 S1 0 h_is_number (es_cons (ex_var S1 1) (es_cons ex_int (es_cons (ex_gint S1 1 T.c_MAX_BOOK) es_nil))))))))))))) (ss_cons (own1 := [.V, .U, .U, .U]) (st_ret ex_bl (by decide))
    ss_nil) ss_nil)
    (ss_cons (own1 := [.U, .U, .U, .U]) (st_ret (ex_all S 2 T.f_all (EL.ex (el_lcB [("one", 2), ("other", 3)] [false, false, true, true] [false, false, true, true] ([] : List PySem.Str) S A Q nd [.V, .U, .V, .V] (it_zip S 3 T.f_zip (es_cons (ex_var S 0) (es_cons (ex_slice S (ex_var S 0) (eo_some ex_int) eo_none) es_nil))) (fun S1 L1 => (tg_tup S1 (tgs_cons (tg_name S1.hN 2 L1) (tgs_cons (tg_name S1.hN 3 L1) tgs_nil)))) (fun S1 A1 Q1 => ets_nil) (fun S1 A1 Q1 => (ex_lt (ex_var S1 2) (ex_var S1 3)))))) (by decide))
    ss_nil))
/-! is_word -/
abbrev s_is_word : Stmt := top 15
def d_is_word : SM := (seqS (ifS (orB (notB (asB (op1 (isiD "str") (vD 0)))) (notB (asB (chain2 leD leD (kD (.int 1)) (callD lenD (consD (vD 0) nilD)) (kD (.int 8)))))) (seqS (retS (kD (.bl false))) nxS) nxS) (seqS (retS (callD allD (consD (lstM (lcD (bName 1) (itD (vD 0)) yesM (op2 (inD false) (vD 1) (kD (.str "abcdefghijklmnopqrstuvwxyz"))) [1])) nilD))) nxS))
def F_is_word : FV := runV 2 1 d_is_word
theorem t_is_word {P : Program} {w : World} {K : PySem.W.Frag} {mg : Str → Option Value} {base : Heap} {f : Addr} (T : Txt K mg)  :
    STs (bodyF P w K mg base (["value", "letter"] : List PySem.Str) "is_word" (defScope s_is_word) f 0) K (ctlV 2) [.V, .U] (defBody s_is_word) d_is_word [.U, .U] := by
  have nd : ((["value", "letter"] : List PySem.Str)).Nodup := by decide +kernel
  have S : Sx (bodyF P w K mg base (["value", "letter"] : List PySem.Str) "is_word" (defScope s_is_word) f 0) K mg (["value", "letter"] : List PySem.Str) [true, false] (["isinstance", "str", "len", "MAX_LETTERS", "all"] : List PySem.Str) 0 := sx_body (by decide +kernel) (by decide +kernel)
  have A : Fam (bodyF P w K mg base (["value", "letter"] : List PySem.Str) "is_word" (defScope s_is_word) f 0) P w base := fam_body
  have Q : Scp (bodyF P w K mg base (["value", "letter"] : List PySem.Str) "is_word" (defScope s_is_word) f 0) (["value", "letter"] : List PySem.Str) (defScope s_is_word) := scp_body
  have L : Lx (bodyF P w K mg base (["value", "letter"] : List PySem.Str) "is_word" (defScope s_is_word) f 0) (["value", "letter"] : List PySem.Str) [false, false] := lx_body nd (by decide +kernel)
  unfold d_is_word
  exact (ss_cons (own1 := [.V, .U]) (st_if (EW.et (ew_or (et_not (et_val (ex_isi S 0 1 "str" T.f_isinstance T.f_str PyProof.Rows.boot_str (ex_var S 0)))) (ew_or1 (et_not (et_chain (fun _ _ => or_le) (fun _ _ => or_le) od_le od_le ex_int (ex_len S 2 T.f_len (ex_var S 0)) (ex_gint S 3 T.c_MAX_LETTERS)))))) (ss_cons (own1 := [.V, .U]) (st_ret ex_bl (by decide))
    ss_nil) ss_nil)
    (ss_cons (own1 := [.U, .U]) (st_ret (ex_all S 4 T.f_all (EL.ex (el_lcB [("letter", 1)] [false, true] [false, true] (["LETTERS"] : List PySem.Str) S A Q nd [.V, .V] (it_seq S (ex_var S 0)) (fun S1 L1 => (tg_name S1.hN 1 L1)) (fun S1 A1 Q1 => ets_nil) (fun S1 A1 Q1 => (ex_in S1 (ex_var S1 1) (ex_gstr S1 0 T.c_LETTERS)))))) (by decide))
    ss_nil))
/-! are_others -/
abbrev s_are_others : Stmt := top 18
def d_are_others : SM := (seqS (ifS (orB (asB (op2 gtD (callD lenD (consD (vD 1) nilD)) (kD (.int 4)))) (asB (op2 ltD (op1 lenSetD (vD 1)) (callD lenD (consD (vD 1) nilD))))) (seqS (retS (kD (.bl false))) nxS) nxS) (seqS (retS (callD allD (consD (lstM (lcD (bName 2) (itD (vD 1)) yesM (andD (callD F_is_word (consD (vD 2) nilD)) (op2 neD (vD 2) (vD 0))) [2])) nilD))) nxS))
def F_are_others : FV := runV 3 2 d_are_others
theorem t_are_others {P : Program} {w : World} {K : PySem.W.Frag} {mg : Str → Option Value} {base : Heap} {f : Addr} (T : Txt K mg) {fd_is_word : FuncData} (h_is_word : FnV P w K mg base "is_word" (He.fAd K ("is_word", none)) fd_is_word (["value"] : List PySem.Str) 1 F_is_word) :
    STs (bodyF P w K mg base (["heading", "row", "other"] : List PySem.Str) "are_others" (defScope s_are_others) f 1) K (ctlV 3) [.V, .V, .U] (defBody s_are_others) d_are_others [.U, .U, .U] := by
  have nd : ((["heading", "row", "other"] : List PySem.Str)).Nodup := by decide +kernel
  have S : Sx (bodyF P w K mg base (["heading", "row", "other"] : List PySem.Str) "are_others" (defScope s_are_others) f 1) K mg (["heading", "row", "other"] : List PySem.Str) [true, true, false] (["len", "MAX_ALSO", "set", "all"] : List PySem.Str) 1 := sx_body (by decide +kernel) (by decide +kernel)
  have A : Fam (bodyF P w K mg base (["heading", "row", "other"] : List PySem.Str) "are_others" (defScope s_are_others) f 1) P w base := fam_body
  have Q : Scp (bodyF P w K mg base (["heading", "row", "other"] : List PySem.Str) "are_others" (defScope s_are_others) f 1) (["heading", "row", "other"] : List PySem.Str) (defScope s_are_others) := scp_body
  have L : Lx (bodyF P w K mg base (["heading", "row", "other"] : List PySem.Str) "are_others" (defScope s_are_others) f 1) (["heading", "row", "other"] : List PySem.Str) [false, false, false] := lx_body nd (by decide +kernel)
  unfold d_are_others
  exact (ss_cons (own1 := [.V, .V, .U]) (st_if (EW.et (ew_or (et_cmp (fun _ _ => or_gt) od_gt (nomark _) (ex_len S 0 T.f_len (ex_var S 1)) (ex_gint S 1 T.c_MAX_ALSO)) (ew_or1 (et_cmp (fun _ _ => or_lt) od_lt (nomark _) (ex_lenSet S 0 2 T.f_len T.f_set (ex_var S 1)) (ex_len S 0 T.f_len (ex_var S 1)))))) (ss_cons (own1 := [.V, .V, .U]) (st_ret ex_bl (by decide))
    ss_nil) ss_nil)
    (ss_cons (own1 := [.U, .U, .U]) (st_ret (ex_all S 3 T.f_all (EL.ex (el_lcB [("other", 2)] [true, false, true] [false, false, true] (["is_word"] : List PySem.Str) S A Q nd [.V, .V, .V] (it_seq S (ex_var S 1)) (fun S1 L1 => (tg_name S1.hN 2 L1)) (fun S1 A1 Q1 => ets_nil) (fun S1 A1 Q1 => (ex_and (ex_callV A1 S1 0 h_is_word (es_cons (ex_var S1 2) es_nil)) (ex_one (ex_ne S1 (ex_var S1 2) (ex_var S1 0)))))))) (by decide))
    ss_nil))
/-! Card -/
abbrev s_Card : Stmt := (clsOf (top 19)).getD 1 (.Pass ⟨0, 0, 0, 0⟩)
def d_Card : SM := (seqS (ifS (notB (asB (callD F_is_word (consD (vD 1) nilD)))) (seqS badS nxS) nxS) (seqS (ifS (notB (asB (callD F_are_books (consD (vD 2) nilD)))) (seqS badS nxS) nxS) (seqS (setS 5 (andD (op2 eqD (vD 2) (tupD nilD)) (andD (op2 eqD (vD 4) (tupD nilD)) (andD (callD F_is_word (consD (vD 3) nilD)) (op2 neD (vD 3) (vD 1)))))) (seqS (ifS (andB (asB (op2 neD (vD 3) (kD (.str "")))) (notB (asB (vD 5)))) (seqS badS nxS) nxS) (seqS (ifS (notB (asB (callD F_are_others (consD (vD 1) (consD (vD 4) nilD))))) (seqS badS nxS) nxS) (seqS (slotS "Card" 0 (tupD (consD (vD 1) (consD (vD 2) (consD (vD 3) (consD (vD 4) nilD)))))) nxS))))))
def F_Card : FI := runI "Card" 6 4 d_Card
theorem t_Card {P : Program} {w : World} {K : PySem.W.Frag} {mg : Str → Option Value} {base : Heap} {f : Addr} (T : Txt K mg) {fd_are_books : FuncData} (h_are_books : FnV P w K mg base "are_books" (He.fAd K ("are_books", none)) fd_are_books (["row"] : List PySem.Str) 2 F_are_books) {fd_are_others : FuncData} (h_are_others : FnV P w K mg base "are_others" (He.fAd K ("are_others", none)) fd_are_others (["heading", "row"] : List PySem.Str) 2 F_are_others) {fd_is_word : FuncData} (h_is_word : FnV P w K mg base "is_word" (He.fAd K ("is_word", none)) fd_is_word (["value"] : List PySem.Str) 1 F_is_word) :
    STs (bodyF P w K mg base (["self", "heading", "books", "see", "also", "is_free"] : List PySem.Str) "Card.__init__" (defScope s_Card) f 2) K (ctlV 6) [.I, .V, .V, .V, .V, .U] (defBody s_Card) d_Card [.I, .U, .U, .U, .U, .U] := by
  have nd : ((["self", "heading", "books", "see", "also", "is_free"] : List PySem.Str)).Nodup := by decide +kernel
  have S : Sx (bodyF P w K mg base (["self", "heading", "books", "see", "also", "is_free"] : List PySem.Str) "Card.__init__" (defScope s_Card) f 2) K mg (["self", "heading", "books", "see", "also", "is_free"] : List PySem.Str) [true, true, true, true, true, true] (["is_word", "are_books", "are_others"] : List PySem.Str) 2 := sx_body (by decide +kernel) (by decide +kernel)
  have A : Fam (bodyF P w K mg base (["self", "heading", "books", "see", "also", "is_free"] : List PySem.Str) "Card.__init__" (defScope s_Card) f 2) P w base := fam_body
  have Q : Scp (bodyF P w K mg base (["self", "heading", "books", "see", "also", "is_free"] : List PySem.Str) "Card.__init__" (defScope s_Card) f 2) (["self", "heading", "books", "see", "also", "is_free"] : List PySem.Str) (defScope s_Card) := scp_body
  have L : Lx (bodyF P w K mg base (["self", "heading", "books", "see", "also", "is_free"] : List PySem.Str) "Card.__init__" (defScope s_Card) f 2) (["self", "heading", "books", "see", "also", "is_free"] : List PySem.Str) [false, false, false, false, false, true] := lx_body nd (by decide +kernel)
  unfold d_Card
  exact (ss_cons (own1 := [.I, .V, .V, .V, .V, .U]) (st_if (et_not (et_val (ex_callV A S 0 h_is_word (es_cons (ex_var S 1) es_nil)))) (ss_cons (own1 := [.I, .V, .V, .V, .V, .U]) st_bad
    ss_nil) ss_nil)
    (ss_cons (own1 := [.I, .V, .V, .V, .V, .U]) (st_if (et_not (et_val (ex_callV A S 1 h_are_books (es_cons (ex_var S 2) es_nil)))) (ss_cons (own1 := [.I, .V, .V, .V, .V, .U]) st_bad
    ss_nil) ss_nil)
    (ss_cons (own1 := [.I, .V, .V, .V, .V, .V]) (st_set S 5 L (ex_and (ex_eq S (ex_var S 2) (ex_tup es_nil)) (ex_and (ex_eq S (ex_var S 4) (ex_tup es_nil)) (ex_and (ex_callV A S 0 h_is_word (es_cons (ex_var S 3) es_nil)) (ex_one (ex_ne S (ex_var S 3) (ex_var S 1)))))))
    (ss_cons (own1 := [.I, .V, .V, .V, .V, .V]) (st_if (EW.et (ew_and (et_cmp (rl_ne S) od_ne (nomark _) (ex_var S 3) ex_str) (ew_and1 (et_not (et_val (ex_var S 5)))))) (ss_cons (own1 := [.I, .V, .V, .V, .V, .V]) st_bad
    ss_nil) ss_nil)
    (ss_cons (own1 := [.I, .V, .V, .V, .V, .V]) (st_if (et_not (et_val (ex_callV A S 2 h_are_others (es_cons (ex_var S 1) (es_cons (ex_var S 4) es_nil))))) (ss_cons (own1 := [.I, .V, .V, .V, .V, .V]) st_bad
    ss_nil) ss_nil)
    (ss_cons (own1 := [.I, .V, .V, .V, .V, .V]) (st_slot S T.k_Card 0 (ex_tup (es_cons (ex_var S 1) (es_cons (ex_var S 2) (es_cons (ex_var S 3) (es_cons (ex_var S 4) es_nil))))))
    (ss_nil (by decide))))))))
/-! Drawer -/
abbrev s_Drawer : Stmt := (clsOf (top 22)).getD 1 (.Pass ⟨0, 0, 0, 0⟩)
def d_Drawer : SM := (seqS (ifS (asB (op2 gtD (callD lenD (consD (vD 1) nilD)) (kD (.int 16)))) (seqS badS nxS) nxS) (seqS (slotS "Drawer" 0 (vD 1)) nxS))
def F_Drawer : FI := runI "Drawer" 2 1 d_Drawer
theorem t_Drawer {P : Program} {w : World} {K : PySem.W.Frag} {mg : Str → Option Value} {base : Heap} {f : Addr} (T : Txt K mg)  :
    STs (bodyF P w K mg base (["self", "cards"] : List PySem.Str) "Drawer.__init__" (defScope s_Drawer) f 0) K (ctlV 2) [.I, .V] (defBody s_Drawer) d_Drawer [.I, .U] := by
  have nd : ((["self", "cards"] : List PySem.Str)).Nodup := by decide +kernel
  have S : Sx (bodyF P w K mg base (["self", "cards"] : List PySem.Str) "Drawer.__init__" (defScope s_Drawer) f 0) K mg (["self", "cards"] : List PySem.Str) [true, true] (["len", "MAX_CARDS"] : List PySem.Str) 0 := sx_body (by decide +kernel) (by decide +kernel)
  have A : Fam (bodyF P w K mg base (["self", "cards"] : List PySem.Str) "Drawer.__init__" (defScope s_Drawer) f 0) P w base := fam_body
  have Q : Scp (bodyF P w K mg base (["self", "cards"] : List PySem.Str) "Drawer.__init__" (defScope s_Drawer) f 0) (["self", "cards"] : List PySem.Str) (defScope s_Drawer) := scp_body
  have L : Lx (bodyF P w K mg base (["self", "cards"] : List PySem.Str) "Drawer.__init__" (defScope s_Drawer) f 0) (["self", "cards"] : List PySem.Str) [false, false] := lx_body nd (by decide +kernel)
  unfold d_Drawer
  exact (ss_cons (own1 := [.I, .V]) (st_if (et_cmp (fun _ _ => or_gt) od_gt (nomark _) (ex_len S 0 T.f_len (ex_var S 1)) (ex_gint S 1 T.c_MAX_CARDS)) (ss_cons (own1 := [.I, .V]) st_bad
    ss_nil) ss_nil)
    (ss_cons (own1 := [.I, .V]) (st_slot S T.k_Drawer 0 (ex_var S 1))
    (ss_nil (by decide))))
/-! _law_drawer -/
abbrev s__law_drawer : Stmt := top 43
def d__law_drawer : SM := (seqS (retS (callD (fun xs => makeD "Drawer" F_Drawer (xs ++ [])) (consD (callD tupleD (consD (lstM (lcD (bName 1) (itD (vD 0)) yesM (makeK "Card" F_Card (fun x y => x ++ y) (consD (op2 ixD (vD 1) (kD (.int 0))) nilD) (ek3 (op2 ixD (vD 1) (kD (.int 1))) (op2 ixD (vD 1) (kD (.int 2))) (op2 ixD (vD 1) (kD (.int 3))))) [1])) nilD)) nilD))) nxS)
def F__law_drawer : FV := runV 2 1 d__law_drawer
theorem t__law_drawer {P : Program} {w : World} {K : PySem.W.Frag} {mg : Str → Option Value} {base : Heap} {f : Addr} (T : Txt K mg) {fd_Card : FuncData} (i_Card : ClI P w K mg base "Card" (He.fAd K ("Card", some "__init__")) fd_Card (["self", "heading", "books", "see", "also"] : List PySem.Str) 3 F_Card) {gU : List Value → List Value → List Value} (b_Card : KBn K fd_Card (["self", "heading", "books", "see", "also"] : List PySem.Str) 2 ["books", "see", "also"] gU (fun vs zs => vs ++ zs)) {fd_Drawer : FuncData} (i_Drawer : ClI P w K mg base "Drawer" (He.fAd K ("Drawer", some "__init__")) fd_Drawer (["self", "cards"] : List PySem.Str) 1 F_Drawer) (b_Drawer : Binds K fd_Drawer (["self", "cards"] : List PySem.Str) []) :
    STs (bodyF P w K mg base (["_law_some", "_law_one"] : List PySem.Str) "_law_drawer" (defScope s__law_drawer) f 4) K (ctlV 2) [.V, .U] (defBody s__law_drawer) d__law_drawer [.U, .U] := by
  have nd : ((["_law_some", "_law_one"] : List PySem.Str)).Nodup := by decide +kernel
  have S : Sx (bodyF P w K mg base (["_law_some", "_law_one"] : List PySem.Str) "_law_drawer" (defScope s__law_drawer) f 4) K mg (["_law_some", "_law_one"] : List PySem.Str) [true, false] (["Drawer", "tuple"] : List PySem.Str) 4 := sx_body (by decide +kernel) (by decide +kernel)
  have A : Fam (bodyF P w K mg base (["_law_some", "_law_one"] : List PySem.Str) "_law_drawer" (defScope s__law_drawer) f 4) P w base := fam_body
  have Q : Scp (bodyF P w K mg base (["_law_some", "_law_one"] : List PySem.Str) "_law_drawer" (defScope s__law_drawer) f 4) (["_law_some", "_law_one"] : List PySem.Str) (defScope s__law_drawer) := scp_body
  have L : Lx (bodyF P w K mg base (["_law_some", "_law_one"] : List PySem.Str) "_law_drawer" (defScope s__law_drawer) f 4) (["_law_some", "_law_one"] : List PySem.Str) [false, false] := lx_body nd (by decide +kernel)
  unfold d__law_drawer
  exact (ss_cons (own1 := [.U, .U]) (st_ret (ex_make A S 0 i_Drawer b_Drawer .nil (fun _ => .nil) (es_cons (ex_tuple S 1 T.f_tuple (EL.ex (el_lcB [("_law_one", 1)] [false, true] [false, true] (["Card"] : List PySem.Str) S A Q nd [.V, .V] (it_seq S (ex_var S 0)) (fun S1 L1 => (tg_name S1.hN 1 L1)) (fun S1 A1 Q1 => ets_nil) (fun S1 A1 Q1 => (ex_make13 A1 S1 0 i_Card b_Card (ex_ix S1 (ex_var S1 1) ex_int) (ex_ix S1 (ex_var S1 1) ex_int) (ex_ix S1 (ex_var S1 1) ex_int) (ex_ix S1 (ex_var S1 1) ex_int)))))) es_nil)) (by decide))
    ss_nil)
/-! _law_known -/
abbrev s__law_known : Stmt := top 45
def b1__law_known : SM := (seqS (setS 1 (op2 addD (op2 addD (op2 addD (vD 1) (lstM (lstD (consD (vD 2) nilD)))) (ifD (asB (op2 neD (vD 4) (kD (.str "")))) (lstM (lstD (consD (vD 4) nilD))) (lstM (lstD nilD)))) (lstM (listM (vD 5))))) nxS)
def d__law_known : SM := (seqS (setS 1 (lstM (lstD nilD))) (seqS (forS (bTup 4 (bCons (bName 2) (bCons (bName 3) (bCons (bName 4) (bCons (bName 5) bNil))))) (itD (vD 0)) b1__law_known) (seqS (retS (lstM (bnd (vD 1) fun d => ofO (sortSetD d)))) nxS)))
def F__law_known : FV := runV 6 1 d__law_known
theorem t__law_known {P : Program} {w : World} {K : PySem.W.Frag} {mg : Str → Option Value} {base : Heap} {f : Addr} (T : Txt K mg)  :
    STs (bodyF P w K mg base (["_law_some", "_law_found", "_law_heading", "_law_tomes", "_law_goal_of", "_law_hints"] : List PySem.Str) "_law_known" (defScope s__law_known) f 0) K (ctlV 6) [.V, .U, .U, .U, .U, .U] (defBody s__law_known) d__law_known [.U, .U, .U, .U, .U, .U] := by
  have nd : ((["_law_some", "_law_found", "_law_heading", "_law_tomes", "_law_goal_of", "_law_hints"] : List PySem.Str)).Nodup := by decide +kernel
  have S : Sx (bodyF P w K mg base (["_law_some", "_law_found", "_law_heading", "_law_tomes", "_law_goal_of", "_law_hints"] : List PySem.Str) "_law_known" (defScope s__law_known) f 0) K mg (["_law_some", "_law_found", "_law_heading", "_law_tomes", "_law_goal_of", "_law_hints"] : List PySem.Str) [true, true, true, true, true, true] (["list", "sorted", "set"] : List PySem.Str) 0 := sx_body (by decide +kernel) (by decide +kernel)
  have A : Fam (bodyF P w K mg base (["_law_some", "_law_found", "_law_heading", "_law_tomes", "_law_goal_of", "_law_hints"] : List PySem.Str) "_law_known" (defScope s__law_known) f 0) P w base := fam_body
  have Q : Scp (bodyF P w K mg base (["_law_some", "_law_found", "_law_heading", "_law_tomes", "_law_goal_of", "_law_hints"] : List PySem.Str) "_law_known" (defScope s__law_known) f 0) (["_law_some", "_law_found", "_law_heading", "_law_tomes", "_law_goal_of", "_law_hints"] : List PySem.Str) (defScope s__law_known) := scp_body
  have L : Lx (bodyF P w K mg base (["_law_some", "_law_found", "_law_heading", "_law_tomes", "_law_goal_of", "_law_hints"] : List PySem.Str) "_law_known" (defScope s__law_known) f 0) (["_law_some", "_law_found", "_law_heading", "_law_tomes", "_law_goal_of", "_law_hints"] : List PySem.Str) [false, true, true, true, true, true] := lx_body nd (by decide +kernel)
  unfold d__law_known
  exact (ss_cons (own1 := [.V, .V, .U, .U, .U, .U]) (st_set S 1 L (EL.ex (el_lst es_nil)))
    (ss_cons (own1 := [.V, .V, .U, .U, .U, .U]) (st_for S pass_body (it_seq S (ex_var S 0)) (vs := [2, 3, 4, 5]) (tg_tup S (tgs_cons (tg_name S.hN 2 L) (tgs_cons (tg_name S.hN 3 L) (tgs_cons (tg_name S.hN 4 L) (tgs_cons (tg_name S.hN 5 L) tgs_nil)))))
    (ss_cons (own1 := [.V, .V, .V, .V, .V, .V]) (st_set S 1 L (ex_add S (ex_add S (ex_add S (ex_var S 1) (EL.ex (el_lst (es_cons (ex_var S 2) es_nil)))) (ex_if (et_cmp (rl_ne S) od_ne (nomark _) (ex_var S 4) ex_str) (EL.ex (el_lst (es_cons (ex_var S 4) es_nil))) (EL.ex (el_lst es_nil)))) (EL.ex (el_list S 0 T.f_list (ex_var S 5)))))
    (ss_nil (by decide))))
    (ss_cons (own1 := [.U, .U, .U, .U, .U, .U]) (st_ret (EL.ex (el_sortedSet S 1 2 T.f_sorted T.f_set (ex_var S 1))) (by decide))
    ss_nil)))
/-! _law_looked -/
abbrev s__law_looked : Stmt := top 44
def b1__law_looked : SM := (seqS (ifS (asB (op2 geD (vD 4) (vD 5))) (seqS (retS (tupD (consD (kD .non) (consD (callD tupleD (consD (vD 3) nilD)) nilD)))) nxS) nxS) (seqS (setS 7 (ifD (asB (op2 eqD (vD 1) (kD (.str "half")))) (op2 (intOp divC fun i j => .int (i / j)) (op2 (intOp (fun _ _ => true) fun i j => .int (i - j)) (op2 addD (vD 4) (vD 5)) (kD (.int 1))) (kD (.int 2))) (vD 4))) (seqS (appS 3 (vD 7)) (seqS (ifS (asB (op2 eqD (op2 ixD (op2 ixD (vD 0) (vD 7)) (kD (.int 0))) (vD 2))) (seqS (retS (tupD (consD (vD 7) (consD (callD tupleD (consD (vD 3) nilD)) nilD)))) nxS) nxS) (seqS (ifS (andB (asB (op2 gtD (op2 ixD (op2 ixD (vD 0) (vD 7)) (kD (.int 0))) (vD 2))) (asB (op2 neD (vD 1) (kD (.str "all"))))) (seqS (setS 5 (ifD (asB (op2 eqD (vD 1) (kD (.str "half")))) (vD 7) (vD 4))) nxS) (seqS (setS 4 (op2 addD (vD 7) (kD (.int 1)))) nxS)) nxS)))))
def d__law_looked : SM := (seqS (setPar3L 3 4 5 (lstD nilD) (consD (kD (.int 0)) (consD (callD lenD (consD (vD 0) nilD)) nilD))) (seqS (forS (bName 6) (rngD rng1 (consD (op2 addD (callD lenD (consD (vD 0) nilD)) (kD (.int 1))) nilD)) b1__law_looked) (seqS (retS (tupD (consD (kD .non) (consD (callD tupleD (consD (vD 3) nilD)) nilD)))) nxS)))
def F__law_looked : FV := runV 8 3 d__law_looked
theorem t__law_looked {P : Program} {w : World} {K : PySem.W.Frag} {mg : Str → Option Value} {base : Heap} {f : Addr} (T : Txt K mg)  :
    STs (bodyF P w K mg base (["_law_some", "_law_rule", "_law_heading", "_law_met", "_law_low", "_law_high", "_law_turn", "_law_here"] : List PySem.Str) "_law_looked" (defScope s__law_looked) f 0) K (ctlV 8) [.V, .V, .V, .U, .U, .U, .U, .U] (defBody s__law_looked) d__law_looked [.U, .U, .U, .U, .U, .U, .U, .U] := by
  have nd : ((["_law_some", "_law_rule", "_law_heading", "_law_met", "_law_low", "_law_high", "_law_turn", "_law_here"] : List PySem.Str)).Nodup := by decide +kernel
  have S : Sx (bodyF P w K mg base (["_law_some", "_law_rule", "_law_heading", "_law_met", "_law_low", "_law_high", "_law_turn", "_law_here"] : List PySem.Str) "_law_looked" (defScope s__law_looked) f 0) K mg (["_law_some", "_law_rule", "_law_heading", "_law_met", "_law_low", "_law_high", "_law_turn", "_law_here"] : List PySem.Str) [true, true, true, true, true, true, true, true] (["len", "range", "tuple"] : List PySem.Str) 0 := sx_body (by decide +kernel) (by decide +kernel)
  have A : Fam (bodyF P w K mg base (["_law_some", "_law_rule", "_law_heading", "_law_met", "_law_low", "_law_high", "_law_turn", "_law_here"] : List PySem.Str) "_law_looked" (defScope s__law_looked) f 0) P w base := fam_body
  have Q : Scp (bodyF P w K mg base (["_law_some", "_law_rule", "_law_heading", "_law_met", "_law_low", "_law_high", "_law_turn", "_law_here"] : List PySem.Str) "_law_looked" (defScope s__law_looked) f 0) (["_law_some", "_law_rule", "_law_heading", "_law_met", "_law_low", "_law_high", "_law_turn", "_law_here"] : List PySem.Str) (defScope s__law_looked) := scp_body
  have L : Lx (bodyF P w K mg base (["_law_some", "_law_rule", "_law_heading", "_law_met", "_law_low", "_law_high", "_law_turn", "_law_here"] : List PySem.Str) "_law_looked" (defScope s__law_looked) f 0) (["_law_some", "_law_rule", "_law_heading", "_law_met", "_law_low", "_law_high", "_law_turn", "_law_here"] : List PySem.Str) [false, false, false, true, true, true, true, true] := lx_body nd (by decide +kernel)
  unfold d__law_looked
  exact (ss_cons (own1 := [.V, .V, .V, .L, .V, .V, .U, .U]) (st_par3L S L 3 4 5 (el_lst es_nil) (es_cons ex_int (es_cons (ex_len S 0 T.f_len (ex_var S 0)) es_nil)) (loc_body (by decide +kernel)) (loc_body (by decide +kernel)) (loc_body (by decide +kernel)) (hw := (by rintro _ ⟨_, _, _, _, _, _, _, rfl⟩; rfl)))
    (ss_cons (own1 := [.V, .V, .V, .L, .V, .V, .U, .U]) (st_for S pass_body (it_range1 S 1 T.f_range (es_cons (ex_add S (ex_len S 0 T.f_len (ex_var S 0)) ex_int) es_nil)) (vs := [6]) (tg_name S.hN 6 L)
    (ss_cons (own1 := [.V, .V, .V, .L, .V, .V, .V, .U]) (st_if (et_cmp (fun _ _ => or_ge) od_ge (nomark _) (ex_var S 4) (ex_var S 5)) (ss_freeze 3 (ss_cons (own1 := [.V, .V, .V, .L, .V, .V, .V, .U]) (st_ret (ex_tup (es_cons ex_non (es_cons (ex_tuple S 2 T.f_tuple (ex_var S 3)) es_nil))) (by decide))
    ss_nil)) ss_nil)
    (ss_cons (own1 := [.V, .V, .V, .L, .V, .V, .V, .V]) (st_set S 7 L (ex_if (et_cmp (rl_eq S) od_eq (nomark _) (ex_var S 1) ex_str) (ex_fdiv (ex_sub (ex_add S (ex_var S 4) (ex_var S 5)) ex_int) ex_int) (ex_var S 4)))
    (ss_cons (own1 := [.V, .V, .V, .L, .V, .V, .V, .V]) (st_append S 3 (ex_var S 7))
    (ss_cons (own1 := [.V, .V, .V, .L, .V, .V, .V, .V]) (st_if (et_cmp (rl_eq S) od_eq (nomark _) (ex_ix S (ex_ix S (ex_var S 0) (ex_var S 7)) ex_int) (ex_var S 2)) (ss_freeze 3 (ss_cons (own1 := [.V, .V, .V, .L, .V, .V, .V, .V]) (st_ret (ex_tup (es_cons (ex_var S 7) (es_cons (ex_tuple S 2 T.f_tuple (ex_var S 3)) es_nil))) (by decide))
    ss_nil)) ss_nil)
    (ss_cons (own1 := [.V, .V, .V, .L, .V, .V, .V, .V]) (st_if (EW.et (ew_and (et_cmp (fun _ _ => or_gt) od_gt (nomark _) (ex_ix S (ex_ix S (ex_var S 0) (ex_var S 7)) ex_int) (ex_var S 2)) (ew_and1 (et_cmp (rl_ne S) od_ne (nomark _) (ex_var S 1) ex_str)))) (ss_cons (own1 := [.V, .V, .V, .L, .V, .V, .V, .V]) (st_set S 5 L (ex_if (et_cmp (rl_eq S) od_eq (nomark _) (ex_var S 1) ex_str) (ex_var S 7) (ex_var S 4)))
    ss_nil) (ss_cons (own1 := [.V, .V, .V, .L, .V, .V, .V, .V]) (st_set S 4 L (ex_add S (ex_var S 7) ex_int))
    ss_nil))
    (ss_nil (by decide))))))))
    (ss_freeze 3 (ss_cons (own1 := [.U, .U, .U, .U, .U, .U, .U, .U]) (st_ret (ex_tup (es_cons ex_non (es_cons (ex_tuple S 2 T.f_tuple (ex_var S 3)) es_nil))) (by decide))
    ss_nil))))
/-! Card_leads -/
abbrev s_Card_leads : Stmt := (clsOf (top 19)).getD 6 (.Pass ⟨0, 0, 0, 0⟩)
def d_Card_leads : SM := (seqS (retS (op2 neD (op2 ixD (op1 (fldD "Card" 0) (vD 0)) (kD (.int 2))) (kD (.str "")))) nxS)
def F_Card_leads : FV := runV 1 1 d_Card_leads
theorem t_Card_leads {P : Program} {w : World} {K : PySem.W.Frag} {mg : Str → Option Value} {base : Heap} {f : Addr} (T : Txt K mg)  :
    STs (bodyF P w K mg base (["self"] : List PySem.Str) "Card.leads" (defScope s_Card_leads) f 0) K (ctlV 1) [.V] (defBody s_Card_leads) d_Card_leads [.U] := by
  have nd : ((["self"] : List PySem.Str)).Nodup := by decide +kernel
  have S : Sx (bodyF P w K mg base (["self"] : List PySem.Str) "Card.leads" (defScope s_Card_leads) f 0) K mg (["self"] : List PySem.Str) [true] ([] : List PySem.Str) 0 := sx_body (by decide +kernel) (by decide +kernel)
  have A : Fam (bodyF P w K mg base (["self"] : List PySem.Str) "Card.leads" (defScope s_Card_leads) f 0) P w base := fam_body
  have Q : Scp (bodyF P w K mg base (["self"] : List PySem.Str) "Card.leads" (defScope s_Card_leads) f 0) (["self"] : List PySem.Str) (defScope s_Card_leads) := scp_body
  have L : Lx (bodyF P w K mg base (["self"] : List PySem.Str) "Card.leads" (defScope s_Card_leads) f 0) (["self"] : List PySem.Str) [false] := lx_body nd (by decide +kernel)
  unfold d_Card_leads
  exact (ss_cons (own1 := [.U]) (st_ret (ex_ne S (ex_ix S (ex_fld S T.k_Card 0 (ex_var S 0)) ex_int) ex_str) (by decide))
    ss_nil)
/-! Card_see -/
abbrev s_Card_see : Stmt := (clsOf (top 19)).getD 4 (.Pass ⟨0, 0, 0, 0⟩)
def d_Card_see : SM := (seqS (retS (op2 ixD (op1 (fldD "Card" 0) (vD 0)) (kD (.int 2)))) nxS)
def F_Card_see : FV := runV 1 1 d_Card_see
theorem t_Card_see {P : Program} {w : World} {K : PySem.W.Frag} {mg : Str → Option Value} {base : Heap} {f : Addr} (T : Txt K mg)  :
    STs (bodyF P w K mg base (["self"] : List PySem.Str) "Card.see" (defScope s_Card_see) f 0) K (ctlV 1) [.V] (defBody s_Card_see) d_Card_see [.U] := by
  have nd : ((["self"] : List PySem.Str)).Nodup := by decide +kernel
  have S : Sx (bodyF P w K mg base (["self"] : List PySem.Str) "Card.see" (defScope s_Card_see) f 0) K mg (["self"] : List PySem.Str) [true] ([] : List PySem.Str) 0 := sx_body (by decide +kernel) (by decide +kernel)
  have A : Fam (bodyF P w K mg base (["self"] : List PySem.Str) "Card.see" (defScope s_Card_see) f 0) P w base := fam_body
  have Q : Scp (bodyF P w K mg base (["self"] : List PySem.Str) "Card.see" (defScope s_Card_see) f 0) (["self"] : List PySem.Str) (defScope s_Card_see) := scp_body
  have L : Lx (bodyF P w K mg base (["self"] : List PySem.Str) "Card.see" (defScope s_Card_see) f 0) (["self"] : List PySem.Str) [false] := lx_body nd (by decide +kernel)
  unfold d_Card_see
  exact (ss_cons (own1 := [.U]) (st_ret (ex_ix S (ex_fld S T.k_Card 0 (ex_var S 0)) ex_int) (by decide))
    ss_nil)
/-! Drawer_cards -/
abbrev s_Drawer_cards : Stmt := (clsOf (top 22)).getD 2 (.Pass ⟨0, 0, 0, 0⟩)
def d_Drawer_cards : SM := (seqS (retS (op1 (fldD "Drawer" 0) (vD 0))) nxS)
def F_Drawer_cards : FV := runV 1 1 d_Drawer_cards
theorem t_Drawer_cards {P : Program} {w : World} {K : PySem.W.Frag} {mg : Str → Option Value} {base : Heap} {f : Addr} (T : Txt K mg)  :
    STs (bodyF P w K mg base (["self"] : List PySem.Str) "Drawer.cards" (defScope s_Drawer_cards) f 0) K (ctlV 1) [.V] (defBody s_Drawer_cards) d_Drawer_cards [.U] := by
  have nd : ((["self"] : List PySem.Str)).Nodup := by decide +kernel
  have S : Sx (bodyF P w K mg base (["self"] : List PySem.Str) "Drawer.cards" (defScope s_Drawer_cards) f 0) K mg (["self"] : List PySem.Str) [true] ([] : List PySem.Str) 0 := sx_body (by decide +kernel) (by decide +kernel)
  have A : Fam (bodyF P w K mg base (["self"] : List PySem.Str) "Drawer.cards" (defScope s_Drawer_cards) f 0) P w base := fam_body
  have Q : Scp (bodyF P w K mg base (["self"] : List PySem.Str) "Drawer.cards" (defScope s_Drawer_cards) f 0) (["self"] : List PySem.Str) (defScope s_Drawer_cards) := scp_body
  have L : Lx (bodyF P w K mg base (["self"] : List PySem.Str) "Drawer.cards" (defScope s_Drawer_cards) f 0) (["self"] : List PySem.Str) [false] := lx_body nd (by decide +kernel)
  unfold d_Drawer_cards
  exact (ss_cons (own1 := [.U]) (st_ret (ex_fld S T.k_Drawer 0 (ex_var S 0)) (by decide))
    ss_nil)
/-! Card_heading -/
abbrev s_Card_heading : Stmt := (clsOf (top 19)).getD 2 (.Pass ⟨0, 0, 0, 0⟩)
def d_Card_heading : SM := (seqS (retS (op2 ixD (op1 (fldD "Card" 0) (vD 0)) (kD (.int 0)))) nxS)
def F_Card_heading : FV := runV 1 1 d_Card_heading
theorem t_Card_heading {P : Program} {w : World} {K : PySem.W.Frag} {mg : Str → Option Value} {base : Heap} {f : Addr} (T : Txt K mg)  :
    STs (bodyF P w K mg base (["self"] : List PySem.Str) "Card.heading" (defScope s_Card_heading) f 0) K (ctlV 1) [.V] (defBody s_Card_heading) d_Card_heading [.U] := by
  have nd : ((["self"] : List PySem.Str)).Nodup := by decide +kernel
  have S : Sx (bodyF P w K mg base (["self"] : List PySem.Str) "Card.heading" (defScope s_Card_heading) f 0) K mg (["self"] : List PySem.Str) [true] ([] : List PySem.Str) 0 := sx_body (by decide +kernel) (by decide +kernel)
  have A : Fam (bodyF P w K mg base (["self"] : List PySem.Str) "Card.heading" (defScope s_Card_heading) f 0) P w base := fam_body
  have Q : Scp (bodyF P w K mg base (["self"] : List PySem.Str) "Card.heading" (defScope s_Card_heading) f 0) (["self"] : List PySem.Str) (defScope s_Card_heading) := scp_body
  have L : Lx (bodyF P w K mg base (["self"] : List PySem.Str) "Card.heading" (defScope s_Card_heading) f 0) (["self"] : List PySem.Str) [false] := lx_body nd (by decide +kernel)
  unfold d_Card_heading
  exact (ss_cons (own1 := [.U]) (st_ret (ex_ix S (ex_fld S T.k_Card 0 (ex_var S 0)) ex_int) (by decide))
    ss_nil)
/-! by_halves -/
abbrev s_by_halves : Stmt := top 30
def b1_by_halves : SM := (seqS (setS 5 (op2 (intOp divC fun i j => .int (i / j)) (op2 addD (vD 3) (vD 4)) (kD (.int 2)))) (seqS (appS 2 (vD 5)) (seqS (setS 6 (op1 (isC "Card" F_Card_heading []) (op2 ixD (op1 (isC "Drawer" F_Drawer_cards []) (vD 0)) (vD 5)))) (seqS (ifS (asB (op2 eqD (vD 6) (vD 1))) (seqS (retS (tupD (consD (vD 5) (consD (callD tupleD (consD (vD 2) nilD)) nilD)))) nxS) nxS) (seqS (ifS (asB (op2 gtD (vD 6) (vD 1))) (seqS (setS 4 (op2 (intOp (fun _ _ => true) fun i j => .int (i - j)) (vD 5) (kD (.int 1)))) nxS) (seqS (setS 3 (op2 addD (vD 5) (kD (.int 1)))) nxS)) nxS)))))
def d_by_halves : SM := (seqS (setLS 2 (lstD nilD)) (seqS (setPar 3 4 (kD (.int 0)) (op2 (intOp (fun _ _ => true) fun i j => .int (i - j)) (callD lenD (consD (op1 (isC "Drawer" F_Drawer_cards []) (vD 0)) nilD)) (kD (.int 1)))) (seqS (whileS (asB (op2 leD (vD 3) (vD 4))) b1_by_halves 1000000) (seqS (retS (tupD (consD (kD .non) (consD (callD tupleD (consD (vD 2) nilD)) nilD)))) nxS))))
def F_by_halves : FV := runV 7 2 d_by_halves
theorem t_by_halves {P : Program} {w : World} {K : PySem.W.Frag} {mg : Str → Option Value} {base : Heap} {f : Addr} (T : Txt K mg) {fd_Card_heading : FuncData} (p_Card_heading : PrV P w K mg base "Card" "heading" (pOb K "Card" "heading") (pAd K "Card" "heading") fd_Card_heading (["self"] : List PySem.Str) 1 F_Card_heading) {fd_Drawer_cards : FuncData} (p_Drawer_cards : PrV P w K mg base "Drawer" "cards" (pOb K "Drawer" "cards") (pAd K "Drawer" "cards") fd_Drawer_cards (["self"] : List PySem.Str) 1 F_Drawer_cards) :
    STs (bodyF P w K mg base (["drawer", "heading", "looks", "first", "last", "middle", "here"] : List PySem.Str) "by_halves" (defScope s_by_halves) f 2) K (ctlV 7) [.V, .V, .U, .U, .U, .U, .U] (defBody s_by_halves) d_by_halves [.U, .U, .U, .U, .U, .U, .U] := by
  have nd : ((["drawer", "heading", "looks", "first", "last", "middle", "here"] : List PySem.Str)).Nodup := by decide +kernel
  have S : Sx (bodyF P w K mg base (["drawer", "heading", "looks", "first", "last", "middle", "here"] : List PySem.Str) "by_halves" (defScope s_by_halves) f 2) K mg (["drawer", "heading", "looks", "first", "last", "middle", "here"] : List PySem.Str) [true, true, true, true, true, true, true] (["len", "tuple"] : List PySem.Str) 2 := sx_body (by decide +kernel) (by decide +kernel)
  have A : Fam (bodyF P w K mg base (["drawer", "heading", "looks", "first", "last", "middle", "here"] : List PySem.Str) "by_halves" (defScope s_by_halves) f 2) P w base := fam_body
  have Q : Scp (bodyF P w K mg base (["drawer", "heading", "looks", "first", "last", "middle", "here"] : List PySem.Str) "by_halves" (defScope s_by_halves) f 2) (["drawer", "heading", "looks", "first", "last", "middle", "here"] : List PySem.Str) (defScope s_by_halves) := scp_body
  have L : Lx (bodyF P w K mg base (["drawer", "heading", "looks", "first", "last", "middle", "here"] : List PySem.Str) "by_halves" (defScope s_by_halves) f 2) (["drawer", "heading", "looks", "first", "last", "middle", "here"] : List PySem.Str) [false, false, true, true, true, true, true] := lx_body nd (by decide +kernel)
  unfold d_by_halves
  exact (ss_cons (own1 := [.V, .V, .L, .U, .U, .U, .U]) (st_setL S 2 L (el_lst es_nil))
    (ss_cons (own1 := [.V, .V, .L, .V, .V, .U, .U]) (st_parVV S L 3 4 ex_int (ex_sub (ex_len S 0 T.f_len (ex_prop A S T.k_Drawer p_Drawer_cards (ex_var S 0))) ex_int) (loc_body (by decide +kernel)) (loc_body (by decide +kernel)) (hw := (by rintro _ ⟨_, _, _, _, _, _, _, rfl⟩; rfl)))
    (ss_cons (own1 := [.V, .V, .L, .V, .V, .U, .U]) (st_while 1000000 pass_body (et_cmp (fun _ _ => or_le) od_le (nomark _) (ex_var S 3) (ex_var S 4))
    (ss_cons (own1 := [.V, .V, .L, .V, .V, .V, .U]) (st_set S 5 L (ex_fdiv (ex_add S (ex_var S 3) (ex_var S 4)) ex_int))
    (ss_cons (own1 := [.V, .V, .L, .V, .V, .V, .U]) (st_append S 2 (ex_var S 5))
    (ss_cons (own1 := [.V, .V, .L, .V, .V, .V, .V]) (st_set S 6 L (ex_prop A S T.k_Card p_Card_heading (ex_ix S (ex_prop A S T.k_Drawer p_Drawer_cards (ex_var S 0)) (ex_var S 5))))
    (ss_cons (own1 := [.V, .V, .L, .V, .V, .V, .V]) (st_if (et_cmp (rl_eq S) od_eq (nomark _) (ex_var S 6) (ex_var S 1)) (ss_freeze 2 (ss_cons (own1 := [.V, .V, .L, .V, .V, .V, .V]) (st_ret (ex_tup (es_cons (ex_var S 5) (es_cons (ex_tuple S 1 T.f_tuple (ex_var S 2)) es_nil))) (by decide))
    ss_nil)) ss_nil)
    (ss_cons (own1 := [.V, .V, .L, .V, .V, .V, .V]) (st_if (et_cmp (fun _ _ => or_gt) od_gt (nomark _) (ex_var S 6) (ex_var S 1)) (ss_cons (own1 := [.V, .V, .L, .V, .V, .V, .V]) (st_set S 4 L (ex_sub (ex_var S 5) ex_int))
    ss_nil) (ss_cons (own1 := [.V, .V, .L, .V, .V, .V, .V]) (st_set S 3 L (ex_add S (ex_var S 5) ex_int))
    ss_nil))
    (ss_nil (by decide))))))))
    (ss_freeze 2 (ss_cons (own1 := [.U, .U, .U, .U, .U, .U, .U]) (st_ret (ex_tup (es_cons ex_non (es_cons (ex_tuple S 1 T.f_tuple (ex_var S 2)) es_nil))) (by decide))
    ss_nil)))))
/-! one_by_one -/
abbrev s_one_by_one : Stmt := top 31
def b1_one_by_one : SM := (seqS (ifS (asB (op2 eqD (op1 (isC "Card" F_Card_heading []) (vD 4)) (vD 1))) (seqS (retS (tupD (consD (vD 3) (consD (op1 (fun d => (rgD d).map .tup) (op2 addD (vD 3) (kD (.int 1)))) nilD)))) nxS) nxS) (seqS (ifS (andB (asB (vD 2)) (asB (op2 gtD (op1 (isC "Card" F_Card_heading []) (vD 4)) (vD 1)))) (seqS (retS (tupD (consD (kD .non) (consD (op1 (fun d => (rgD d).map .tup) (op2 addD (vD 3) (kD (.int 1)))) nilD)))) nxS) nxS) nxS))
def d_one_by_one : SM := (seqS (forS (bTup 2 (bCons (bName 3) (bCons (bName 4) bNil))) (enumD (op1 (isC "Drawer" F_Drawer_cards []) (vD 0))) b1_one_by_one) (seqS (retS (tupD (consD (kD .non) (consD (op1 (fun d => (rgD d).map .tup) (callD lenD (consD (op1 (isC "Drawer" F_Drawer_cards []) (vD 0)) nilD))) nilD)))) nxS))
def F_one_by_one : FV := runV 5 3 d_one_by_one
theorem t_one_by_one {P : Program} {w : World} {K : PySem.W.Frag} {mg : Str → Option Value} {base : Heap} {f : Addr} (T : Txt K mg) {fd_Card_heading : FuncData} (p_Card_heading : PrV P w K mg base "Card" "heading" (pOb K "Card" "heading") (pAd K "Card" "heading") fd_Card_heading (["self"] : List PySem.Str) 1 F_Card_heading) {fd_Drawer_cards : FuncData} (p_Drawer_cards : PrV P w K mg base "Drawer" "cards" (pOb K "Drawer" "cards") (pAd K "Drawer" "cards") fd_Drawer_cards (["self"] : List PySem.Str) 1 F_Drawer_cards) :
    STs (bodyF P w K mg base (["drawer", "heading", "is_leafing", "place", "card"] : List PySem.Str) "one_by_one" (defScope s_one_by_one) f 2) K (ctlV 5) [.V, .V, .V, .U, .U] (defBody s_one_by_one) d_one_by_one [.U, .U, .U, .U, .U] := by
  have nd : ((["drawer", "heading", "is_leafing", "place", "card"] : List PySem.Str)).Nodup := by decide +kernel
  have S : Sx (bodyF P w K mg base (["drawer", "heading", "is_leafing", "place", "card"] : List PySem.Str) "one_by_one" (defScope s_one_by_one) f 2) K mg (["drawer", "heading", "is_leafing", "place", "card"] : List PySem.Str) [true, true, true, true, true] (["enumerate", "tuple", "range", "len"] : List PySem.Str) 2 := sx_body (by decide +kernel) (by decide +kernel)
  have A : Fam (bodyF P w K mg base (["drawer", "heading", "is_leafing", "place", "card"] : List PySem.Str) "one_by_one" (defScope s_one_by_one) f 2) P w base := fam_body
  have Q : Scp (bodyF P w K mg base (["drawer", "heading", "is_leafing", "place", "card"] : List PySem.Str) "one_by_one" (defScope s_one_by_one) f 2) (["drawer", "heading", "is_leafing", "place", "card"] : List PySem.Str) (defScope s_one_by_one) := scp_body
  have L : Lx (bodyF P w K mg base (["drawer", "heading", "is_leafing", "place", "card"] : List PySem.Str) "one_by_one" (defScope s_one_by_one) f 2) (["drawer", "heading", "is_leafing", "place", "card"] : List PySem.Str) [false, false, false, true, true] := lx_body nd (by decide +kernel)
  unfold d_one_by_one
  exact (ss_cons (own1 := [.V, .V, .V, .U, .U]) (st_for S pass_body (it_enum S 0 T.f_enumerate (ex_prop A S T.k_Drawer p_Drawer_cards (ex_var S 0))) (vs := [3, 4]) (tg_tup S (tgs_cons (tg_name S.hN 3 L) (tgs_cons (tg_name S.hN 4 L) tgs_nil)))
    (ss_cons (own1 := [.V, .V, .V, .V, .V]) (st_if (et_cmp (rl_eq S) od_eq (nomark _) (ex_prop A S T.k_Card p_Card_heading (ex_var S 4)) (ex_var S 1)) (ss_cons (own1 := [.V, .V, .V, .V, .V]) (st_ret (ex_tup (es_cons (ex_var S 3) (es_cons (ex_tupRg S 1 2 T.f_tuple T.f_range (ex_add S (ex_var S 3) ex_int)) es_nil))) (by decide))
    ss_nil) ss_nil)
    (ss_cons (own1 := [.V, .V, .V, .V, .V]) (st_if (EW.et (ew_and (et_val (ex_var S 2)) (ew_and1 (et_cmp (fun _ _ => or_gt) od_gt (nomark _) (ex_prop A S T.k_Card p_Card_heading (ex_var S 4)) (ex_var S 1))))) (ss_cons (own1 := [.V, .V, .V, .V, .V]) (st_ret (ex_tup (es_cons ex_non (es_cons (ex_tupRg S 1 2 T.f_tuple T.f_range (ex_add S (ex_var S 3) ex_int)) es_nil))) (by decide))
    ss_nil) ss_nil)
    (ss_nil (by decide)))))
    (ss_cons (own1 := [.U, .U, .U, .U, .U]) (st_ret (ex_tup (es_cons ex_non (es_cons (ex_tupRg S 1 2 T.f_tuple T.f_range (ex_len S 3 T.f_len (ex_prop A S T.k_Drawer p_Drawer_cards (ex_var S 0)))) es_nil))) (by decide))
    ss_nil))
/-! looked_up -/
abbrev s_looked_up : Stmt := top 32
def d_looked_up : SM := (seqS (ifS (asB (op2 eqD (vD 1) (kD (.str "half")))) (seqS (retS (callD F_by_halves (consD (vD 0) (consD (vD 2) nilD)))) nxS) nxS) (seqS (retS (callD F_one_by_one (consD (vD 0) (consD (vD 2) (consD (op2 eqD (vD 1) (kD (.str "leaf"))) nilD))))) nxS))
def F_looked_up : FV := runV 3 3 d_looked_up
theorem t_looked_up {P : Program} {w : World} {K : PySem.W.Frag} {mg : Str → Option Value} {base : Heap} {f : Addr} (T : Txt K mg) {fd_by_halves : FuncData} (h_by_halves : FnV P w K mg base "by_halves" (He.fAd K ("by_halves", none)) fd_by_halves (["drawer", "heading"] : List PySem.Str) 3 F_by_halves) {fd_one_by_one : FuncData} (h_one_by_one : FnV P w K mg base "one_by_one" (He.fAd K ("one_by_one", none)) fd_one_by_one (["drawer", "heading", "is_leafing"] : List PySem.Str) 3 F_one_by_one) :
    STs (bodyF P w K mg base (["drawer", "rule", "heading"] : List PySem.Str) "looked_up" (defScope s_looked_up) f 3) K (ctlV 3) [.V, .V, .V] (defBody s_looked_up) d_looked_up [.U, .U, .U] := by
  have nd : ((["drawer", "rule", "heading"] : List PySem.Str)).Nodup := by decide +kernel
  have S : Sx (bodyF P w K mg base (["drawer", "rule", "heading"] : List PySem.Str) "looked_up" (defScope s_looked_up) f 3) K mg (["drawer", "rule", "heading"] : List PySem.Str) [true, true, true] (["HALF", "by_halves", "one_by_one", "LEAF"] : List PySem.Str) 3 := sx_body (by decide +kernel) (by decide +kernel)
  have A : Fam (bodyF P w K mg base (["drawer", "rule", "heading"] : List PySem.Str) "looked_up" (defScope s_looked_up) f 3) P w base := fam_body
  have Q : Scp (bodyF P w K mg base (["drawer", "rule", "heading"] : List PySem.Str) "looked_up" (defScope s_looked_up) f 3) (["drawer", "rule", "heading"] : List PySem.Str) (defScope s_looked_up) := scp_body
  have L : Lx (bodyF P w K mg base (["drawer", "rule", "heading"] : List PySem.Str) "looked_up" (defScope s_looked_up) f 3) (["drawer", "rule", "heading"] : List PySem.Str) [false, false, false] := lx_body nd (by decide +kernel)
  unfold d_looked_up
  exact (ss_cons (own1 := [.V, .V, .V]) (st_if (et_cmp (rl_eq S) od_eq (nomark _) (ex_var S 1) (ex_gstr S 0 T.c_HALF)) (ss_cons (own1 := [.V, .V, .V]) (st_ret (ex_callV A S 1 h_by_halves (es_cons (ex_var S 0) (es_cons (ex_var S 2) es_nil))) (by decide))
    ss_nil) ss_nil)
    (ss_cons (own1 := [.U, .U, .U]) (st_ret (ex_callV A S 2 h_one_by_one (es_cons (ex_var S 0) (es_cons (ex_var S 2) (es_cons (ex_eq S (ex_var S 1) (ex_gstr S 3 T.c_LEAF)) es_nil)))) (by decide))
    ss_nil))
/-! Walk_go_on_x -/
abbrev s_Walk_go_on_x : Stmt := (clsOf (top 37)).getD 1 (.Pass ⟨0, 0, 0, 0⟩)
def d_Walk_go_on_x : SM := (seqS (ifS (asB (inOL false (vD 3) (boxL "Walk" 2 0))) (seqS (setF "Walk" 0 0 (kD (.str "ring"))) (seqS (retS (vD 3)) nxS)) nxS) (seqS (appF "Walk" 2 0 (fun ρ => some (look ρ 3))) (seqS (unpS (bTup 2 (bCons (bName 4) (bCons (bName 5) bNil))) (callD F_looked_up (consD (vD 1) (consD (vD 2) (consD (vD 3) nilD))))) (seqS (augF "Walk" 3 0 (callD lenD (consD (vD 5) nilD))) (seqS (ifS (asB (op2 isND (vD 4) (kD .non))) (seqS (setF "Walk" 0 0 (kD (.str "lost"))) (seqS (retS (vD 3)) nxS)) nxS) (seqS (appF "Walk" 1 0 (fun ρ => some (look ρ 4))) (seqS (setS 6 (op2 ixD (op1 (isC "Drawer" F_Drawer_cards []) (vD 1)) (vD 4))) (seqS (ifS (notB (asB (op1 (isC "Card" F_Card_leads []) (vD 6)))) (seqS (setF "Walk" 0 0 (kD (.str "entry"))) (seqS (retS (vD 3)) nxS)) nxS) (seqS (retS (op1 (isC "Card" F_Card_see []) (vD 6))) nxS)))))))))
def F_Walk_go_on_x : FMf := onIns (runM 7 3 d_Walk_go_on_x)
theorem t_Walk_go_on_x {P : Program} {w : World} {K : PySem.W.Frag} {mg : Str → Option Value} {base : Heap} {f : Addr} (T : Txt K mg) {fd_Card_leads : FuncData} (p_Card_leads : PrV P w K mg base "Card" "leads" (pOb K "Card" "leads") (pAd K "Card" "leads") fd_Card_leads (["self"] : List PySem.Str) 1 F_Card_leads) {fd_Card_see : FuncData} (p_Card_see : PrV P w K mg base "Card" "see" (pOb K "Card" "see") (pAd K "Card" "see") fd_Card_see (["self"] : List PySem.Str) 1 F_Card_see) {fd_Drawer_cards : FuncData} (p_Drawer_cards : PrV P w K mg base "Drawer" "cards" (pOb K "Drawer" "cards") (pAd K "Drawer" "cards") fd_Drawer_cards (["self"] : List PySem.Str) 1 F_Drawer_cards) {fd_looked_up : FuncData} (h_looked_up : FnV P w K mg base "looked_up" (He.fAd K ("looked_up", none)) fd_looked_up (["drawer", "rule", "heading"] : List PySem.Str) 4 F_looked_up) :
    STs (bodyF P w K mg base (["self", "drawer", "rule", "heading", "place", "looks", "card"] : List PySem.Str) "Walk.go_on" (defScope s_Walk_go_on_x) f 4) K (ctlM 7) [.M, .V, .V, .V, .U, .U, .U] (defBody s_Walk_go_on_x) d_Walk_go_on_x [.M, .U, .U, .U, .U, .U, .U] := by
  have nd : ((["self", "drawer", "rule", "heading", "place", "looks", "card"] : List PySem.Str)).Nodup := by decide +kernel
  have S : Sx (bodyF P w K mg base (["self", "drawer", "rule", "heading", "place", "looks", "card"] : List PySem.Str) "Walk.go_on" (defScope s_Walk_go_on_x) f 4) K mg (["self", "drawer", "rule", "heading", "place", "looks", "card"] : List PySem.Str) [true, true, true, true, true, true, true] (["RING", "looked_up", "len", "LOST", "ENTRY"] : List PySem.Str) 4 := sx_body (by decide +kernel) (by decide +kernel)
  have A : Fam (bodyF P w K mg base (["self", "drawer", "rule", "heading", "place", "looks", "card"] : List PySem.Str) "Walk.go_on" (defScope s_Walk_go_on_x) f 4) P w base := fam_body
  have Q : Scp (bodyF P w K mg base (["self", "drawer", "rule", "heading", "place", "looks", "card"] : List PySem.Str) "Walk.go_on" (defScope s_Walk_go_on_x) f 4) (["self", "drawer", "rule", "heading", "place", "looks", "card"] : List PySem.Str) (defScope s_Walk_go_on_x) := scp_body
  have L : Lx (bodyF P w K mg base (["self", "drawer", "rule", "heading", "place", "looks", "card"] : List PySem.Str) "Walk.go_on" (defScope s_Walk_go_on_x) f 4) (["self", "drawer", "rule", "heading", "place", "looks", "card"] : List PySem.Str) [false, false, false, false, true, true, true] := lx_body nd (by decide +kernel)
  unfold d_Walk_go_on_x
  exact (ss_cons (own1 := [.M, .V, .V, .V, .U, .U, .U]) (st_if (et_inOL S (ex_var S 3) (ol_fld S T.d_Walk 2 0)) (ss_cons (own1 := [.M, .V, .V, .V, .U, .U, .U]) (st_setF S T.d_Walk 0 0 (ex_gstr S 0 T.c_RING))
    (ss_cons (own1 := [.M, .V, .V, .V, .U, .U, .U]) (st_ret (ex_var S 3) (by decide))
    ss_nil)) ss_nil)
    (ss_cons (own1 := [.M, .V, .V, .V, .U, .U, .U]) (st_appF S T.d_Walk 2 0 (px_var S 3))
    (ss_cons (own1 := [.M, .V, .V, .V, .V, .V, .U]) (st_unp (ex_callV A S 1 h_looked_up (es_cons (ex_var S 1) (es_cons (ex_var S 2) (es_cons (ex_var S 3) es_nil)))) (vs := [4, 5]) (tg_tup S (tgs_cons (tg_name S.hN 4 L) (tgs_cons (tg_name S.hN 5 L) tgs_nil))))
    (ss_cons (own1 := [.M, .V, .V, .V, .V, .V, .U]) (st_augF S T.d_Walk 3 0 (ex_len S 2 T.f_len (ex_var S 5)))
    (ss_cons (own1 := [.M, .V, .V, .V, .V, .V, .U]) (st_if (et_cmp (fun _ _ => op_isN) od_isN (nomark _) (ex_var S 4) ex_non) (ss_cons (own1 := [.M, .V, .V, .V, .V, .V, .U]) (st_setF S T.d_Walk 0 0 (ex_gstr S 3 T.c_LOST))
    (ss_cons (own1 := [.M, .V, .V, .V, .V, .V, .U]) (st_ret (ex_var S 3) (by decide))
    ss_nil)) ss_nil)
    (ss_cons (own1 := [.M, .V, .V, .V, .V, .V, .U]) (st_appF S T.d_Walk 1 0 (px_var S 4))
    (ss_cons (own1 := [.M, .V, .V, .V, .V, .V, .V]) (st_set S 6 L (ex_ix S (ex_prop A S T.k_Drawer p_Drawer_cards (ex_var S 1)) (ex_var S 4)))
    (ss_cons (own1 := [.M, .V, .V, .V, .V, .V, .V]) (st_if (et_not (et_val (ex_prop A S T.k_Card p_Card_leads (ex_var S 6)))) (ss_cons (own1 := [.M, .V, .V, .V, .V, .V, .V]) (st_setF S T.d_Walk 0 0 (ex_gstr S 4 T.c_ENTRY))
    (ss_cons (own1 := [.M, .V, .V, .V, .V, .V, .V]) (st_ret (ex_var S 3) (by decide))
    ss_nil)) ss_nil)
    (ss_cons (own1 := [.M, .U, .U, .U, .U, .U, .U]) (st_ret (ex_prop A S T.k_Card p_Card_see (ex_var S 6)) (by decide))
    ss_nil)))))))))
/-! Walk -/
abbrev s_Walk : Stmt := (clsOf (top 37)).getD 0 (.Pass ⟨0, 0, 0, 0⟩)
def b1_Walk : SM := (seqS (setS 3 (callM "Walk" false F_Walk_go_on_x 0 (consD (vD 1) (consD (vD 2) (consD (vD 3) nilD))))) nxS)
def d_Walk : SM := (seqS (setF "Walk" 0 0 (kD .non)) (seqS (setFL "Walk" 1 0 (lstD nilD)) (seqS (setFL "Walk" 2 0 (lstD nilD)) (seqS (setF "Walk" 3 0 (kD (.int 0))) (seqS (whileS (asB (op2 isND (fldO "Walk" 0 0) (kD .non))) b1_Walk 1000000) nxS)))))
def F_Walk : FMf := onIns (runM 4 3 d_Walk)
theorem t_Walk {P : Program} {w : World} {K : PySem.W.Frag} {mg : Str → Option Value} {base : Heap} {f : Addr} (T : Txt K mg) {fd_Walk_go_on_x : FuncData} (m_Walk_go_on_x : MtM P w K mg base "Walk" "go_on" (He.fAd K ("Walk", some "go_on")) fd_Walk_go_on_x (["self", "drawer", "rule", "heading"] : List PySem.Str) 5 F_Walk_go_on_x) :
    STs (bodyF P w K mg base (["self", "drawer", "rule", "heading"] : List PySem.Str) "Walk.__init__" (defScope s_Walk) f 5) K (ctlM 4) [.M, .V, .V, .V] (defBody s_Walk) d_Walk [.M, .U, .U, .U] := by
  have nd : ((["self", "drawer", "rule", "heading"] : List PySem.Str)).Nodup := by decide +kernel
  have S : Sx (bodyF P w K mg base (["self", "drawer", "rule", "heading"] : List PySem.Str) "Walk.__init__" (defScope s_Walk) f 5) K mg (["self", "drawer", "rule", "heading"] : List PySem.Str) [true, true, true, true] ([] : List PySem.Str) 5 := sx_body (by decide +kernel) (by decide +kernel)
  have A : Fam (bodyF P w K mg base (["self", "drawer", "rule", "heading"] : List PySem.Str) "Walk.__init__" (defScope s_Walk) f 5) P w base := fam_body
  have Q : Scp (bodyF P w K mg base (["self", "drawer", "rule", "heading"] : List PySem.Str) "Walk.__init__" (defScope s_Walk) f 5) (["self", "drawer", "rule", "heading"] : List PySem.Str) (defScope s_Walk) := scp_body
  have L : Lx (bodyF P w K mg base (["self", "drawer", "rule", "heading"] : List PySem.Str) "Walk.__init__" (defScope s_Walk) f 5) (["self", "drawer", "rule", "heading"] : List PySem.Str) [false, false, false, true] := lx_body nd (by decide +kernel)
  unfold d_Walk
  exact (ss_cons (own1 := [.M, .V, .V, .V]) (st_setF S T.d_Walk 0 0 ex_non)
    (ss_cons (own1 := [.M, .V, .V, .V]) (st_setFL S T.d_Walk 1 0 (el_lst es_nil))
    (ss_cons (own1 := [.M, .V, .V, .V]) (st_setFL S T.d_Walk 2 0 (el_lst es_nil))
    (ss_cons (own1 := [.M, .V, .V, .V]) (st_setF S T.d_Walk 3 0 ex_int)
    (ss_cons (own1 := [.M, .V, .V, .V]) (st_while 1000000 pass_body (et_cmp (fun _ _ => op_isN) od_isN (nomark _) (ex_fldO S T.d_Walk 0 0) ex_non)
    (ss_cons (own1 := [.M, .V, .V, .V]) (st_set S 3 L (ex_methM A S T.d_Walk m_Walk_go_on_x false 0 (es_cons (ex_var S 1) (es_cons (ex_var S 2) (es_cons (ex_var S 3) es_nil)))))
    ss_nil))
    (ss_nil (by decide)))))))
/-! check_rule -/
abbrev s_check_rule : Stmt := top 29
def d_check_rule : SM := (seqS (ifS (asB (op2 (inD true) (vD 0) (kD g_RULES))) (seqS badS nxS) nxS) nxS)
def F_check_rule : FV := runV 1 1 d_check_rule
theorem t_check_rule {P : Program} {w : World} {K : PySem.W.Frag} {mg : Str → Option Value} {base : Heap} {f : Addr} (T : Txt K mg)  :
    STs (bodyF P w K mg base (["rule"] : List PySem.Str) "check_rule" (defScope s_check_rule) f 0) K (ctlV 1) [.V] (defBody s_check_rule) d_check_rule [.U] := by
  have nd : ((["rule"] : List PySem.Str)).Nodup := by decide +kernel
  have S : Sx (bodyF P w K mg base (["rule"] : List PySem.Str) "check_rule" (defScope s_check_rule) f 0) K mg (["rule"] : List PySem.Str) [true] (["RULES"] : List PySem.Str) 0 := sx_body (by decide +kernel) (by decide +kernel)
  have A : Fam (bodyF P w K mg base (["rule"] : List PySem.Str) "check_rule" (defScope s_check_rule) f 0) P w base := fam_body
  have Q : Scp (bodyF P w K mg base (["rule"] : List PySem.Str) "check_rule" (defScope s_check_rule) f 0) (["rule"] : List PySem.Str) (defScope s_check_rule) := scp_body
  have L : Lx (bodyF P w K mg base (["rule"] : List PySem.Str) "check_rule" (defScope s_check_rule) f 0) (["rule"] : List PySem.Str) [false] := lx_body nd (by decide +kernel)
  unfold d_check_rule
  exact (ss_cons (own1 := [.V]) (st_if (et_cmp (rl_notin S) (od_in true) rfl (ex_var S 0) (ex_gref S 0 T.c_RULES)) (ss_cons (own1 := [.V]) st_bad
    ss_nil) ss_nil)
    (ss_nil (by decide)))
/-! Card_also -/
abbrev s_Card_also : Stmt := (clsOf (top 19)).getD 5 (.Pass ⟨0, 0, 0, 0⟩)
def d_Card_also : SM := (seqS (retS (op2 ixD (op1 (fldD "Card" 0) (vD 0)) (kD (.int 3)))) nxS)
def F_Card_also : FV := runV 1 1 d_Card_also
theorem t_Card_also {P : Program} {w : World} {K : PySem.W.Frag} {mg : Str → Option Value} {base : Heap} {f : Addr} (T : Txt K mg)  :
    STs (bodyF P w K mg base (["self"] : List PySem.Str) "Card.also" (defScope s_Card_also) f 0) K (ctlV 1) [.V] (defBody s_Card_also) d_Card_also [.U] := by
  have nd : ((["self"] : List PySem.Str)).Nodup := by decide +kernel
  have S : Sx (bodyF P w K mg base (["self"] : List PySem.Str) "Card.also" (defScope s_Card_also) f 0) K mg (["self"] : List PySem.Str) [true] ([] : List PySem.Str) 0 := sx_body (by decide +kernel) (by decide +kernel)
  have A : Fam (bodyF P w K mg base (["self"] : List PySem.Str) "Card.also" (defScope s_Card_also) f 0) P w base := fam_body
  have Q : Scp (bodyF P w K mg base (["self"] : List PySem.Str) "Card.also" (defScope s_Card_also) f 0) (["self"] : List PySem.Str) (defScope s_Card_also) := scp_body
  have L : Lx (bodyF P w K mg base (["self"] : List PySem.Str) "Card.also" (defScope s_Card_also) f 0) (["self"] : List PySem.Str) [false] := lx_body nd (by decide +kernel)
  unfold d_Card_also
  exact (ss_cons (own1 := [.U]) (st_ret (ex_ix S (ex_fld S T.k_Card 0 (ex_var S 0)) ex_int) (by decide))
    ss_nil)
/-! Drawer_headings -/
abbrev s_Drawer_headings : Stmt := (clsOf (top 22)).getD 3 (.Pass ⟨0, 0, 0, 0⟩)
def d_Drawer_headings : SM := (seqS (retS (callD tupleD (consD (lstM (bnd (lstM (lcD (bName 1) (itD (op1 (fldD "Drawer" 0) (vD 0))) yesM (op1 (isC "Card" F_Card_heading []) (vD 1)) [1])) fun d => ofO (sortSetD d))) nilD))) nxS)
def F_Drawer_headings : FV := runV 2 1 d_Drawer_headings
theorem t_Drawer_headings {P : Program} {w : World} {K : PySem.W.Frag} {mg : Str → Option Value} {base : Heap} {f : Addr} (T : Txt K mg) {fd_Card_heading : FuncData} (p_Card_heading : PrV P w K mg base "Card" "heading" (pOb K "Card" "heading") (pAd K "Card" "heading") fd_Card_heading (["self"] : List PySem.Str) 1 F_Card_heading) :
    STs (bodyF P w K mg base (["self", "card"] : List PySem.Str) "Drawer.headings" (defScope s_Drawer_headings) f 2) K (ctlV 2) [.V, .U] (defBody s_Drawer_headings) d_Drawer_headings [.U, .U] := by
  have nd : ((["self", "card"] : List PySem.Str)).Nodup := by decide +kernel
  have S : Sx (bodyF P w K mg base (["self", "card"] : List PySem.Str) "Drawer.headings" (defScope s_Drawer_headings) f 2) K mg (["self", "card"] : List PySem.Str) [true, false] (["sorted", "set", "tuple"] : List PySem.Str) 2 := sx_body (by decide +kernel) (by decide +kernel)
  have A : Fam (bodyF P w K mg base (["self", "card"] : List PySem.Str) "Drawer.headings" (defScope s_Drawer_headings) f 2) P w base := fam_body
  have Q : Scp (bodyF P w K mg base (["self", "card"] : List PySem.Str) "Drawer.headings" (defScope s_Drawer_headings) f 2) (["self", "card"] : List PySem.Str) (defScope s_Drawer_headings) := scp_body
  have L : Lx (bodyF P w K mg base (["self", "card"] : List PySem.Str) "Drawer.headings" (defScope s_Drawer_headings) f 2) (["self", "card"] : List PySem.Str) [false, false] := lx_body nd (by decide +kernel)
  unfold d_Drawer_headings
  exact (ss_cons (own1 := [.U, .U]) (st_ret (ex_tuple S 2 T.f_tuple (EL.ex (el_sortedSet S 0 1 T.f_sorted T.f_set (EL.ex (el_lcB [("card", 1)] [false, true] [false, true] ([] : List PySem.Str) S A Q nd [.V, .V] (it_seq S (ex_fld S T.k_Drawer 0 (ex_var S 0))) (fun S1 L1 => (tg_name S1.hN 1 L1)) (fun S1 A1 Q1 => ets_nil) (fun S1 A1 Q1 => (ex_prop A1 S1 T.k_Card p_Card_heading (ex_var S1 1)))))))) (by decide))
    ss_nil)
/-! known_headings -/
abbrev s_known_headings : Stmt := top 23
def b1_known_headings : SM := (seqS (extV 1 (ifD (asB (op1 (isC "Card" F_Card_leads []) (vD 2))) (lstM (lstD (consD (op1 (isC "Card" F_Card_see []) (vD 2)) nilD))) (op1 (isC "Card" F_Card_also []) (vD 2)))) nxS)
def d_known_headings : SM := (seqS (setLS 1 (listM (op1 (isC "Drawer" F_Drawer_headings []) (vD 0)))) (seqS (forS (bName 2) (itD (op1 (isC "Drawer" F_Drawer_cards []) (vD 0))) b1_known_headings) (seqS (retS (lstM (bnd (vD 1) fun d => ofO (sortSetD d)))) nxS)))
def F_known_headings : FV := runV 3 1 d_known_headings
theorem t_known_headings {P : Program} {w : World} {K : PySem.W.Frag} {mg : Str → Option Value} {base : Heap} {f : Addr} (T : Txt K mg) {fd_Card_also : FuncData} (p_Card_also : PrV P w K mg base "Card" "also" (pOb K "Card" "also") (pAd K "Card" "also") fd_Card_also (["self"] : List PySem.Str) 1 F_Card_also) {fd_Card_leads : FuncData} (p_Card_leads : PrV P w K mg base "Card" "leads" (pOb K "Card" "leads") (pAd K "Card" "leads") fd_Card_leads (["self"] : List PySem.Str) 1 F_Card_leads) {fd_Card_see : FuncData} (p_Card_see : PrV P w K mg base "Card" "see" (pOb K "Card" "see") (pAd K "Card" "see") fd_Card_see (["self"] : List PySem.Str) 1 F_Card_see) {fd_Drawer_cards : FuncData} (p_Drawer_cards : PrV P w K mg base "Drawer" "cards" (pOb K "Drawer" "cards") (pAd K "Drawer" "cards") fd_Drawer_cards (["self"] : List PySem.Str) 1 F_Drawer_cards) {fd_Drawer_headings : FuncData} (p_Drawer_headings : PrV P w K mg base "Drawer" "headings" (pOb K "Drawer" "headings") (pAd K "Drawer" "headings") fd_Drawer_headings (["self"] : List PySem.Str) 3 F_Drawer_headings) :
    STs (bodyF P w K mg base (["drawer", "found", "card"] : List PySem.Str) "known_headings" (defScope s_known_headings) f 4) K (ctlV 3) [.V, .U, .U] (defBody s_known_headings) d_known_headings [.U, .U, .U] := by
  have nd : ((["drawer", "found", "card"] : List PySem.Str)).Nodup := by decide +kernel
  have S : Sx (bodyF P w K mg base (["drawer", "found", "card"] : List PySem.Str) "known_headings" (defScope s_known_headings) f 4) K mg (["drawer", "found", "card"] : List PySem.Str) [true, true, true] (["list", "sorted", "set"] : List PySem.Str) 4 := sx_body (by decide +kernel) (by decide +kernel)
  have A : Fam (bodyF P w K mg base (["drawer", "found", "card"] : List PySem.Str) "known_headings" (defScope s_known_headings) f 4) P w base := fam_body
  have Q : Scp (bodyF P w K mg base (["drawer", "found", "card"] : List PySem.Str) "known_headings" (defScope s_known_headings) f 4) (["drawer", "found", "card"] : List PySem.Str) (defScope s_known_headings) := scp_body
  have L : Lx (bodyF P w K mg base (["drawer", "found", "card"] : List PySem.Str) "known_headings" (defScope s_known_headings) f 4) (["drawer", "found", "card"] : List PySem.Str) [false, true, true] := lx_body nd (by decide +kernel)
  unfold d_known_headings
  exact (ss_cons (own1 := [.V, .L, .U]) (st_setL S 1 L (el_list S 0 T.f_list (ex_prop A S T.k_Drawer p_Drawer_headings (ex_var S 0))))
    (ss_cons (own1 := [.V, .L, .U]) (st_for S pass_body (it_seq S (ex_prop A S T.k_Drawer p_Drawer_cards (ex_var S 0))) (vs := [2]) (tg_name S.hN 2 L)
    (ss_cons (own1 := [.V, .L, .V]) (st_extV S 1 (ex_if (et_val (ex_prop A S T.k_Card p_Card_leads (ex_var S 2))) (EL.ex (el_lst (es_cons (ex_prop A S T.k_Card p_Card_see (ex_var S 2)) es_nil))) (ex_prop A S T.k_Card p_Card_also (ex_var S 2))))
    (ss_nil (by decide))))
    (ss_freeze 1 (ss_cons (own1 := [.U, .U, .U]) (st_ret (EL.ex (el_sortedSet S 1 2 T.f_sorted T.f_set (ex_var S 1))) (by decide))
    ss_nil))))
/-! see_rings -/
abbrev s_see_rings : Stmt := top 39
def b1_see_rings : SM := (seqS (setS 4 (callD (makeM "Walk" F_Walk) (consD (vD 0) (consD (vD 1) (consD (vD 3) nilD))))) (seqS (setS 5 (andD (op2 eqD (op1 (fldD "Walk" 0) (vD 4)) (kD (.str "ring"))) (op2 eqD (op1 (isC "Card" F_Card_see []) (op2 ixD (op1 (isC "Drawer" F_Drawer_cards []) (vD 0)) (op2 ixD (op1 (fldD "Walk" 1) (vD 4)) (op1 negD (kD (.int 1)))))) (vD 3)))) (seqS (ifS (andB (asB (vD 5)) (asB (op2 eqD (vD 3) (minM (op1 (fldD "Walk" 2) (vD 4)))))) (seqS (appS 2 (callD tupleD (consD (op1 (fldD "Walk" 2) (vD 4)) nilD))) nxS) nxS) nxS)))
def d_see_rings : SM := (seqS (exprS (callD F_check_rule (consD (vD 1) nilD))) (seqS (setLS 2 (lstD nilD)) (seqS (forS (bName 3) (itD (callD F_known_headings (consD (vD 0) nilD))) b1_see_rings) (seqS (retS (vD 2)) nxS))))
def F_see_rings : FV := runV 6 2 d_see_rings
theorem t_see_rings {P : Program} {w : World} {K : PySem.W.Frag} {mg : Str → Option Value} {base : Heap} {f : Addr} (T : Txt K mg) {fd_Walk : FuncData} (i_Walk : ClM P w K mg base "Walk" (He.fAd K ("Walk", some "__init__")) fd_Walk (["self", "drawer", "rule", "heading"] : List PySem.Str) 6 F_Walk) {fd_Card_see : FuncData} (p_Card_see : PrV P w K mg base "Card" "see" (pOb K "Card" "see") (pAd K "Card" "see") fd_Card_see (["self"] : List PySem.Str) 1 F_Card_see) {fd_Drawer_cards : FuncData} (p_Drawer_cards : PrV P w K mg base "Drawer" "cards" (pOb K "Drawer" "cards") (pAd K "Drawer" "cards") fd_Drawer_cards (["self"] : List PySem.Str) 1 F_Drawer_cards) {fd_check_rule : FuncData} (h_check_rule : FnV P w K mg base "check_rule" (He.fAd K ("check_rule", none)) fd_check_rule (["rule"] : List PySem.Str) 1 F_check_rule) {fd_known_headings : FuncData} (h_known_headings : FnV P w K mg base "known_headings" (He.fAd K ("known_headings", none)) fd_known_headings (["drawer"] : List PySem.Str) 5 F_known_headings) :
    STs (bodyF P w K mg base (["drawer", "rule", "found", "heading", "row", "is_round"] : List PySem.Str) "see_rings" (defScope s_see_rings) f 7) K (ctlV 6) [.V, .V, .U, .U, .U, .U] (defBody s_see_rings) d_see_rings [.U, .U, .U, .U, .U, .U] := by
  have nd : ((["drawer", "rule", "found", "heading", "row", "is_round"] : List PySem.Str)).Nodup := by decide +kernel
  have S : Sx (bodyF P w K mg base (["drawer", "rule", "found", "heading", "row", "is_round"] : List PySem.Str) "see_rings" (defScope s_see_rings) f 7) K mg (["drawer", "rule", "found", "heading", "row", "is_round"] : List PySem.Str) [true, true, true, true, true, true] (["check_rule", "known_headings", "Walk", "RING", "min", "tuple"] : List PySem.Str) 7 := sx_body (by decide +kernel) (by decide +kernel)
  have A : Fam (bodyF P w K mg base (["drawer", "rule", "found", "heading", "row", "is_round"] : List PySem.Str) "see_rings" (defScope s_see_rings) f 7) P w base := fam_body
  have Q : Scp (bodyF P w K mg base (["drawer", "rule", "found", "heading", "row", "is_round"] : List PySem.Str) "see_rings" (defScope s_see_rings) f 7) (["drawer", "rule", "found", "heading", "row", "is_round"] : List PySem.Str) (defScope s_see_rings) := scp_body
  have L : Lx (bodyF P w K mg base (["drawer", "rule", "found", "heading", "row", "is_round"] : List PySem.Str) "see_rings" (defScope s_see_rings) f 7) (["drawer", "rule", "found", "heading", "row", "is_round"] : List PySem.Str) [false, false, true, true, true, true] := lx_body nd (by decide +kernel)
  unfold d_see_rings
  exact (ss_cons (own1 := [.V, .V, .U, .U, .U, .U]) (st_expr (ex_callV A S 0 h_check_rule (es_cons (ex_var S 1) es_nil)))
    (ss_cons (own1 := [.V, .V, .L, .U, .U, .U]) (st_setL S 2 L (el_lst es_nil))
    (ss_cons (own1 := [.V, .V, .L, .U, .U, .U]) (st_for S pass_body (it_seq S (ex_callV A S 1 h_known_headings (es_cons (ex_var S 0) es_nil))) (vs := [3]) (tg_name S.hN 3 L)
    (ss_cons (own1 := [.V, .V, .L, .V, .V, .U]) (st_set S 4 L (EM.ex (em_make A S 2 T.d_Walk i_Walk (es_cons (ex_var S 0) (es_cons (ex_var S 1) (es_cons (ex_var S 3) es_nil))))))
    (ss_cons (own1 := [.V, .V, .L, .V, .V, .V]) (st_set S 5 L (ex_and (ex_eq S (ex_fldV S T.d_Walk 0 (ex_var S 4)) (ex_gstr S 3 T.c_RING)) (ex_one (ex_eq S (ex_prop A S T.k_Card p_Card_see (ex_ix S (ex_prop A S T.k_Drawer p_Drawer_cards (ex_var S 0)) (ex_ix S (ex_fldV S T.d_Walk 1 (ex_var S 4)) (ex_neg ex_int)))) (ex_var S 3)))))
    (ss_cons (own1 := [.V, .V, .L, .V, .V, .V]) (st_if (EW.et (ew_and (et_val (ex_var S 5)) (ew_and1 (et_cmp (rl_eq S) od_eq (nomark _) (ex_var S 3) (ex_minM S 4 T.f_min (ex_fldV S T.d_Walk 2 (ex_var S 4))))))) (ss_cons (own1 := [.V, .V, .L, .V, .V, .V]) (st_append S 2 (ex_tuple S 5 T.f_tuple (ex_fldV S T.d_Walk 2 (ex_var S 4))))
    ss_nil) ss_nil)
    (ss_nil (by decide))))))
    (ss_freeze 2 (ss_cons (own1 := [.U, .U, .U, .U, .U, .U]) (st_ret (ex_var S 2) (by decide))
    ss_nil)))))
/-! check_heading -/
abbrev s_check_heading : Stmt := top 16
def d_check_heading : SM := (seqS (ifS (notB (asB (callD F_is_word (consD (vD 0) nilD)))) (seqS badS nxS) nxS) nxS)
def F_check_heading : FV := runV 1 1 d_check_heading
theorem t_check_heading {P : Program} {w : World} {K : PySem.W.Frag} {mg : Str → Option Value} {base : Heap} {f : Addr} (T : Txt K mg) {fd_is_word : FuncData} (h_is_word : FnV P w K mg base "is_word" (He.fAd K ("is_word", none)) fd_is_word (["value"] : List PySem.Str) 1 F_is_word) :
    STs (bodyF P w K mg base (["value"] : List PySem.Str) "check_heading" (defScope s_check_heading) f 1) K (ctlV 1) [.V] (defBody s_check_heading) d_check_heading [.U] := by
  have nd : ((["value"] : List PySem.Str)).Nodup := by decide +kernel
  have S : Sx (bodyF P w K mg base (["value"] : List PySem.Str) "check_heading" (defScope s_check_heading) f 1) K mg (["value"] : List PySem.Str) [true] (["is_word"] : List PySem.Str) 1 := sx_body (by decide +kernel) (by decide +kernel)
  have A : Fam (bodyF P w K mg base (["value"] : List PySem.Str) "check_heading" (defScope s_check_heading) f 1) P w base := fam_body
  have Q : Scp (bodyF P w K mg base (["value"] : List PySem.Str) "check_heading" (defScope s_check_heading) f 1) (["value"] : List PySem.Str) (defScope s_check_heading) := scp_body
  have L : Lx (bodyF P w K mg base (["value"] : List PySem.Str) "check_heading" (defScope s_check_heading) f 1) (["value"] : List PySem.Str) [false] := lx_body nd (by decide +kernel)
  unfold d_check_heading
  exact (ss_cons (own1 := [.V]) (st_if (et_not (et_val (ex_callV A S 0 h_is_word (es_cons (ex_var S 0) es_nil)))) (ss_cons (own1 := [.V]) st_bad
    ss_nil) ss_nil)
    (ss_nil (by decide)))
/-! walk -/
abbrev s_walk : Stmt := top 38
def d_walk : SM := (seqS (exprS (callD F_check_rule (consD (vD 1) nilD))) (seqS (exprS (callD F_check_heading (consD (vD 2) nilD))) (seqS (setS 3 (callD (makeM "Walk" F_Walk) (consD (vD 0) (consD (vD 1) (consD (vD 2) nilD))))) (seqS (retS (tupD (consD (op1 (fldD "Walk" 0) (vD 3)) (consD (callD tupleD (consD (op1 (fldD "Walk" 1) (vD 3)) nilD)) nilD)))) nxS))))
def F_walk : FV := runV 4 3 d_walk
theorem t_walk {P : Program} {w : World} {K : PySem.W.Frag} {mg : Str → Option Value} {base : Heap} {f : Addr} (T : Txt K mg) {fd_Walk : FuncData} (i_Walk : ClM P w K mg base "Walk" (He.fAd K ("Walk", some "__init__")) fd_Walk (["self", "drawer", "rule", "heading"] : List PySem.Str) 6 F_Walk) {fd_check_heading : FuncData} (h_check_heading : FnV P w K mg base "check_heading" (He.fAd K ("check_heading", none)) fd_check_heading (["value"] : List PySem.Str) 2 F_check_heading) {fd_check_rule : FuncData} (h_check_rule : FnV P w K mg base "check_rule" (He.fAd K ("check_rule", none)) fd_check_rule (["rule"] : List PySem.Str) 1 F_check_rule) :
    STs (bodyF P w K mg base (["drawer", "rule", "heading", "found"] : List PySem.Str) "walk" (defScope s_walk) f 7) K (ctlV 4) [.V, .V, .V, .U] (defBody s_walk) d_walk [.U, .U, .U, .U] := by
  have nd : ((["drawer", "rule", "heading", "found"] : List PySem.Str)).Nodup := by decide +kernel
  have S : Sx (bodyF P w K mg base (["drawer", "rule", "heading", "found"] : List PySem.Str) "walk" (defScope s_walk) f 7) K mg (["drawer", "rule", "heading", "found"] : List PySem.Str) [true, true, true, true] (["check_rule", "check_heading", "Walk", "tuple"] : List PySem.Str) 7 := sx_body (by decide +kernel) (by decide +kernel)
  have A : Fam (bodyF P w K mg base (["drawer", "rule", "heading", "found"] : List PySem.Str) "walk" (defScope s_walk) f 7) P w base := fam_body
  have Q : Scp (bodyF P w K mg base (["drawer", "rule", "heading", "found"] : List PySem.Str) "walk" (defScope s_walk) f 7) (["drawer", "rule", "heading", "found"] : List PySem.Str) (defScope s_walk) := scp_body
  have L : Lx (bodyF P w K mg base (["drawer", "rule", "heading", "found"] : List PySem.Str) "walk" (defScope s_walk) f 7) (["drawer", "rule", "heading", "found"] : List PySem.Str) [false, false, false, true] := lx_body nd (by decide +kernel)
  unfold d_walk
  exact (ss_cons (own1 := [.V, .V, .V, .U]) (st_expr (ex_callV A S 0 h_check_rule (es_cons (ex_var S 1) es_nil)))
    (ss_cons (own1 := [.V, .V, .V, .U]) (st_expr (ex_callV A S 1 h_check_heading (es_cons (ex_var S 2) es_nil)))
    (ss_cons (own1 := [.V, .V, .V, .V]) (st_set S 3 L (EM.ex (em_make A S 2 T.d_Walk i_Walk (es_cons (ex_var S 0) (es_cons (ex_var S 1) (es_cons (ex_var S 2) es_nil))))))
    (ss_cons (own1 := [.U, .U, .U, .U]) (st_ret (ex_tup (es_cons (ex_fldV S T.d_Walk 0 (ex_var S 3)) (es_cons (ex_tuple S 3 T.f_tuple (ex_fldV S T.d_Walk 1 (ex_var S 3))) es_nil))) (by decide))
    ss_nil))))
/-! law -/
abbrev s_law : Stmt := top 47
def b1_law : SM := (seqS (setS 7 (op2 ixD (callD F__law_looked (consD (vD 2) (consD (vD 4) (consD (vD 6) nilD)))) (kD (.int 0)))) (seqS (ifS (andB (asB (op2 notND (vD 7) (kD .non))) (asB (op2 neD (op2 ixD (op2 ixD (vD 2) (vD 7)) (kD (.int 2))) (kD (.str ""))))) (seqS (putDS 5 (vD 6) (op2 ixD (op2 ixD (vD 2) (vD 7)) (kD (.int 2)))) nxS) nxS) nxS))
def b2_law : SM := (seqS (ifS (andB (asB (op2 eqD (op2 getK (vD 8) (vD 6)) (vD 6))) (asB (inKS true 9 (vD 6)))) (seqS (putDS 9 (vD 6) (vD 10)) nxS) nxS) nxS)
def b3_law : SM := (seqS (setS 8 (lockM (dictM (lstM (lcD (bName 6) (itKeys (vD 8)) yesM (tupD (consD (vD 6) (consD (get2M (vD 5) (op2 getK (vD 8) (vD 6)) (kD (.str ""))) nilD))) [6]))))) (seqS (forS (bName 6) (itKeys (vD 8)) b2_law) nxS))
def b4_law : SM := (seqS (appS 12 (op2 getK (vD 5) (ixOwn 12 (op1 negD (kD (.int 1)))))) nxS)
def b5_law : SM := (seqS (setLS 12 (lstD (consD (vD 6) nilD))) (seqS (forS (bName 10) (rngD rng1 (consD (op2 (intOp (fun _ _ => true) fun i j => .int (i - j)) (op2 getK (vD 9) (vD 6)) (kD (.int 1))) nilD)) b4_law) (seqS (ifS (asB (op2 eqD (minM (vD 12)) (vD 6))) (seqS (appS 11 (callD tupleD (consD (vD 12) nilD))) nxS) nxS) nxS)))
def b6_law : SM := (seqS (setS 13 (op2 addD (vD 13) (lstM (listM (vD 12))))) nxS)
def b7_law : SM := (seqS (setS 14 (get2M (vD 5) (vD 14) (vD 14))) nxS)
def b8_law : SM := (seqS (setS 14 (vD 6)) (seqS (forS (bName 10) (rngD rng1 (consD (kD (.int 9)) nilD)) b7_law) (seqS (ifS (asB (op2 neD (op2 eqD (op2 ixD (callD F_walk (consD (vD 3) (consD (vD 4) (consD (vD 6) nilD)))) (kD (.int 0))) (kD (.str "ring"))) (op2 (inD false) (vD 14) (vD 13)))) (seqS (retS (kD (.bl false))) nxS) nxS) nxS)))
def b9_law : SM := (seqS (setS 5 (kD (.dk false [] []))) (seqS (forS (bName 6) (itD (callD F__law_known (consD (vD 2) nilD))) b1_law) (seqS (lockS 5) (seqS (parS [8, 9] (consD (lockM (dictM (lstM (lcD (bName 6) (itKeys (vD 5)) yesM (tupD (consD (vD 6) (consD (vD 6) nilD))) [6])))) (consD (kD (.dk false [] [])) nilD))) (seqS (forS (bName 10) (rngD rng2 (consD (kD (.int 1)) (consD (kD (.int 8)) nilD))) b3_law) (seqS (setLS 11 (lstD nilD)) (seqS (lockS 9) (seqS (forS (bName 6) (itD (lstM (sortKM (vD 9)))) b5_law) (seqS (ifS (asB (op2 neD (callD F_see_rings (consD (vD 3) (consD (vD 4) nilD))) (vD 11))) (seqS (retS (kD (.bl false))) nxS) nxS) (seqS (setS 13 (lstM (lstD nilD))) (seqS (forS (bName 12) (itD (vD 11)) b6_law) (seqS (forS (bName 6) (itD (callD F__law_known (consD (vD 2) nilD))) b8_law) nxS))))))))))))
def d_law : SM := (seqS (setLS 1 (lstD (consD (vD 0) (consD (kD (.int 0)) (consD (kD (.int 0)) (consD (kD (.int 0)) nilD)))))) (seqS (setS 2 (callR F__law_seeing 1 nilD)) (seqS (setS 3 (callD F__law_drawer (consD (vD 2) nilD))) (seqS (forS (bName 4) (itD (tupD (consD (kD (.str "all")) (consD (kD (.str "half")) (consD (kD (.str "leaf")) nilD))))) b9_law) (seqS (retS (kD (.bl true))) nxS)))))
def F_law : FV := runV 15 1 d_law
theorem t_law {P : Program} {w : World} {K : PySem.W.Frag} {mg : Str → Option Value} {base : Heap} {f : Addr} (T : Txt K mg) {fd__law_seeing : FuncData} (h__law_seeing : FnRr P w K mg base "_law_seeing" (He.fAd K ("_law_seeing", none)) fd__law_seeing (["_law_row"] : List PySem.Str) 3 F__law_seeing) {fd__law_drawer : FuncData} (h__law_drawer : FnV P w K mg base "_law_drawer" (He.fAd K ("_law_drawer", none)) fd__law_drawer (["_law_some"] : List PySem.Str) 5 F__law_drawer) {fd__law_known : FuncData} (h__law_known : FnV P w K mg base "_law_known" (He.fAd K ("_law_known", none)) fd__law_known (["_law_some"] : List PySem.Str) 1 F__law_known) {fd__law_looked : FuncData} (h__law_looked : FnV P w K mg base "_law_looked" (He.fAd K ("_law_looked", none)) fd__law_looked (["_law_some", "_law_rule", "_law_heading"] : List PySem.Str) 1 F__law_looked) {fd_see_rings : FuncData} (h_see_rings : FnV P w K mg base "see_rings" (He.fAd K ("see_rings", none)) fd_see_rings (["drawer", "rule"] : List PySem.Str) 8 F_see_rings) {fd_walk : FuncData} (h_walk : FnV P w K mg base "walk" (He.fAd K ("walk", none)) fd_walk (["drawer", "rule", "heading"] : List PySem.Str) 8 F_walk) :
    STs (bodyF P w K mg base (["_law_script", "_law_row", "_law_some", "_law_drawer_here", "_law_rule", "_law_steps_of", "_law_heading", "_law_place", "_law_here", "_law_rounds", "_law_turn", "_law_due", "_law_ring", "_law_members", "_law_spot"] : List PySem.Str) "law" (defScope s_law) f 8) K (ctlV 15) [.V, .U, .U, .U, .U, .U, .U, .U, .U, .U, .U, .U, .U, .U, .U] (defBody s_law) d_law [.U, .U, .U, .U, .U, .U, .U, .U, .U, .U, .U, .U, .U, .U, .U] := by
  have nd : ((["_law_script", "_law_row", "_law_some", "_law_drawer_here", "_law_rule", "_law_steps_of", "_law_heading", "_law_place", "_law_here", "_law_rounds", "_law_turn", "_law_due", "_law_ring", "_law_members", "_law_spot"] : List PySem.Str)).Nodup := by decide +kernel
  have S : Sx (bodyF P w K mg base (["_law_script", "_law_row", "_law_some", "_law_drawer_here", "_law_rule", "_law_steps_of", "_law_heading", "_law_place", "_law_here", "_law_rounds", "_law_turn", "_law_due", "_law_ring", "_law_members", "_law_spot"] : List PySem.Str) "law" (defScope s_law) f 8) K mg (["_law_script", "_law_row", "_law_some", "_law_drawer_here", "_law_rule", "_law_steps_of", "_law_heading", "_law_place", "_law_here", "_law_rounds", "_law_turn", "_law_due", "_law_ring", "_law_members", "_law_spot"] : List PySem.Str) [true, true, true, true, true, true, true, true, true, true, true, true, true, true, true] (["_law_seeing", "_law_drawer", "_law_known", "_law_looked", "dict", "range", "sorted", "min", "tuple", "see_rings", "list", "walk"] : List PySem.Str) 8 := sx_body (by decide +kernel) (by decide +kernel)
  have A : Fam (bodyF P w K mg base (["_law_script", "_law_row", "_law_some", "_law_drawer_here", "_law_rule", "_law_steps_of", "_law_heading", "_law_place", "_law_here", "_law_rounds", "_law_turn", "_law_due", "_law_ring", "_law_members", "_law_spot"] : List PySem.Str) "law" (defScope s_law) f 8) P w base := fam_body
  have Q : Scp (bodyF P w K mg base (["_law_script", "_law_row", "_law_some", "_law_drawer_here", "_law_rule", "_law_steps_of", "_law_heading", "_law_place", "_law_here", "_law_rounds", "_law_turn", "_law_due", "_law_ring", "_law_members", "_law_spot"] : List PySem.Str) "law" (defScope s_law) f 8) (["_law_script", "_law_row", "_law_some", "_law_drawer_here", "_law_rule", "_law_steps_of", "_law_heading", "_law_place", "_law_here", "_law_rounds", "_law_turn", "_law_due", "_law_ring", "_law_members", "_law_spot"] : List PySem.Str) (defScope s_law) := scp_body
  have L : Lx (bodyF P w K mg base (["_law_script", "_law_row", "_law_some", "_law_drawer_here", "_law_rule", "_law_steps_of", "_law_heading", "_law_place", "_law_here", "_law_rounds", "_law_turn", "_law_due", "_law_ring", "_law_members", "_law_spot"] : List PySem.Str) "law" (defScope s_law) f 8) (["_law_script", "_law_row", "_law_some", "_law_drawer_here", "_law_rule", "_law_steps_of", "_law_heading", "_law_place", "_law_here", "_law_rounds", "_law_turn", "_law_due", "_law_ring", "_law_members", "_law_spot"] : List PySem.Str) [false, true, true, true, true, true, true, true, true, true, true, true, true, true, true] := lx_body nd (by decide +kernel)
  unfold d_law
  exact (ss_cons (own1 := [.V, .L, .U, .U, .U, .U, .U, .U, .U, .U, .U, .U, .U, .U, .U]) (st_setL S 1 L (el_lst (es_cons (ex_var S 0) (es_cons ex_int (es_cons ex_int (es_cons ex_int es_nil))))))
    (ss_cons (own1 := [.V, .L, .V, .U, .U, .U, .U, .U, .U, .U, .U, .U, .U, .U, .U]) (st_set S 2 L (ex_callR A S 0 1 h__law_seeing es_nil))
    (ss_cons (own1 := [.V, .L, .V, .V, .U, .U, .U, .U, .U, .U, .U, .U, .U, .U, .U]) (st_set S 3 L (ex_callV A S 1 h__law_drawer (es_cons (ex_var S 2) es_nil)))
    (ss_cons (own1 := [.V, .L, .V, .V, .U, .U, .U, .U, .U, .U, .U, .U, .U, .U, .U]) (st_for S pass_body (it_seq S (ex_tup (es_cons ex_str (es_cons ex_str (es_cons ex_str es_nil))))) (vs := [4]) (tg_name S.hN 4 L)
    (ss_cons (own1 := [.V, .L, .V, .V, .V, .K, .U, .U, .U, .U, .U, .U, .U, .U, .U]) (st_setM S .K 5 L em_dnew (fun _ _ _ h => kd_dnew h) (hs := (by rintro _ ⟨_, _, _, _, _, _, _, rfl⟩; rfl)))
    (ss_cons (own1 := [.V, .L, .V, .V, .V, .K, .U, .U, .U, .U, .U, .U, .U, .U, .U]) (st_for S pass_body (it_seq S (ex_callV A S 2 h__law_known (es_cons (ex_var S 2) es_nil))) (vs := [6]) (tg_name S.hN 6 L)
    (ss_cons (own1 := [.V, .L, .V, .V, .V, .K, .V, .V, .U, .U, .U, .U, .U, .U, .U]) (st_set S 7 L (ex_ix S (ex_callV A S 3 h__law_looked (es_cons (ex_var S 2) (es_cons (ex_var S 4) (es_cons (ex_var S 6) es_nil)))) ex_int))
    (ss_cons (own1 := [.V, .L, .V, .V, .V, .K, .V, .V, .U, .U, .U, .U, .U, .U, .U]) (st_if (EW.et (ew_and (et_cmp (fun _ _ => op_notN) od_notN (nomark _) (ex_var S 7) ex_non) (ew_and1 (et_cmp (rl_ne S) od_ne (nomark _) (ex_ix S (ex_ix S (ex_var S 2) (ex_var S 7)) ex_int) ex_str)))) (ss_cons (own1 := [.V, .L, .V, .V, .V, .K, .V, .V, .U, .U, .U, .U, .U, .U, .U]) (st_putD S 5 (ex_var S 6) (ex_ix S (ex_ix S (ex_var S 2) (ex_var S 7)) ex_int))
    ss_nil) ss_nil)
    (ss_nil (by decide)))))
    (ss_lock 5 (ss_cons (own1 := [.V, .L, .V, .V, .V, .V, .U, .U, .V, .K, .U, .U, .U, .U, .U]) (st_parT S (eq_val (EM.exK (em_dict S 4 T.f_dict (EL.ex (el_lcB [("_law_heading", 6)] [false, false, false, false, false, false, true, false, false, false, false, false, false, false, false] [false, false, false, false, false, false, true, false, false, false, false, false, false, false, false] ([] : List PySem.Str) S A Q nd [.V, .L, .V, .V, .V, .V, .V, .U, .U, .U, .U, .U, .U, .U, .U] (it_keys (ex_var S 5)) (fun S1 L1 => (tg_name S1.hN 6 L1)) (fun S1 A1 Q1 => ets_nil) (fun S1 A1 Q1 => (ex_tup (es_cons (ex_var S1 6) (es_cons (ex_var S1 6) es_nil)))))))) (eq_new .K em_dnew eq_nil (fun _ _ _ h => kd_dnew h))) (nm_cons S.hN L 8 (nm_cons S.hN L 9 nm_nil)) (h3 := (by rintro _ ⟨_, _, _, _, _, _, _, rfl⟩; rfl)))
    (ss_cons (own1 := [.V, .L, .V, .V, .V, .V, .U, .U, .V, .K, .U, .U, .U, .U, .U]) (st_for S pass_body (it_range2 S 5 T.f_range (es_cons ex_int (es_cons ex_int es_nil))) (vs := [10]) (tg_name S.hN 10 L)
    (ss_cons (own1 := [.V, .L, .V, .V, .V, .V, .U, .U, .V, .K, .V, .U, .U, .U, .U]) (st_set S 8 L (EM.exK (em_dict S 4 T.f_dict (EL.ex (el_lcB [("_law_heading", 6)] [false, false, false, false, false, true, true, false, true, false, false, false, false, false, false] [false, false, false, false, false, false, true, false, false, false, false, false, false, false, false] ([] : List PySem.Str) S A Q nd [.V, .L, .V, .V, .V, .V, .V, .U, .V, .K, .V, .U, .U, .U, .U] (it_keys (ex_var S 8)) (fun S1 L1 => (tg_name S1.hN 6 L1)) (fun S1 A1 Q1 => ets_nil) (fun S1 A1 Q1 => (ex_tup (es_cons (ex_var S1 6) (es_cons (ex_get2K S1 (ex_var S1 5) (ex_getK S1 (ex_var S1 8) (ex_var S1 6)) ex_str) es_nil)))))))))
    (ss_cons (own1 := [.V, .L, .V, .V, .V, .V, .U, .U, .V, .K, .V, .U, .U, .U, .U]) (st_for S pass_body (it_keys (ex_var S 8)) (vs := [6]) (tg_name S.hN 6 L)
    (ss_cons (own1 := [.V, .L, .V, .V, .V, .V, .V, .U, .V, .K, .V, .U, .U, .U, .U]) (st_if (EW.et (ew_and (et_cmp (rl_eq S) od_eq (nomark _) (ex_getK S (ex_var S 8) (ex_var S 6)) (ex_var S 6)) (ew_and1 (et_notinKS S 9 (ex_var S 6))))) (ss_cons (own1 := [.V, .L, .V, .V, .V, .V, .V, .U, .V, .K, .V, .U, .U, .U, .U]) (st_putD S 9 (ex_var S 6) (ex_var S 10))
    ss_nil) ss_nil)
    (ss_nil (by decide))))
    (ss_nil (by decide)))))
    (ss_cons (own1 := [.V, .L, .V, .V, .V, .V, .U, .U, .V, .K, .U, .L, .U, .U, .U]) (st_setL S 11 L (el_lst es_nil))
    (ss_lock 9 (ss_cons (own1 := [.V, .L, .V, .V, .V, .V, .U, .U, .V, .V, .U, .L, .U, .U, .U]) (st_for S pass_body (it_seq S (EL.ex (el_sortK S 6 T.f_sorted (ex_var S 9)))) (vs := [6]) (tg_name S.hN 6 L)
    (ss_cons (own1 := [.V, .L, .V, .V, .V, .V, .V, .U, .V, .V, .U, .L, .L, .U, .U]) (st_setL S 12 L (el_lst (es_cons (ex_var S 6) es_nil)))
    (ss_cons (own1 := [.V, .L, .V, .V, .V, .V, .V, .U, .V, .V, .U, .L, .L, .U, .U]) (st_for S pass_body (it_range1 S 5 T.f_range (es_cons (ex_sub (ex_getK S (ex_var S 9) (ex_var S 6)) ex_int) es_nil)) (vs := [10]) (tg_name S.hN 10 L)
    (ss_cons (own1 := [.V, .L, .V, .V, .V, .V, .V, .U, .V, .V, .V, .L, .L, .U, .U]) (st_append S 12 (ex_getK S (ex_var S 5) (ex_ixOwn S 12 (ex_neg ex_int))))
    (ss_nil (by decide))))
    (ss_freeze 12 (ss_cons (own1 := [.V, .L, .V, .V, .V, .V, .V, .U, .V, .V, .U, .L, .V, .U, .U]) (st_if (et_cmp (rl_eq S) od_eq (nomark _) (ex_minM S 7 T.f_min (ex_var S 12)) (ex_var S 6)) (ss_cons (own1 := [.V, .L, .V, .V, .V, .V, .V, .U, .V, .V, .U, .L, .V, .U, .U]) (st_append S 11 (ex_tuple S 8 T.f_tuple (ex_var S 12)))
    ss_nil) ss_nil)
    (ss_nil (by decide)))))))
    (ss_freeze 11 (ss_cons (own1 := [.V, .L, .V, .V, .V, .V, .U, .U, .V, .V, .U, .V, .U, .U, .U]) (st_if (et_cmp (rl_ne S) od_ne (nomark _) (ex_callV A S 9 h_see_rings (es_cons (ex_var S 3) (es_cons (ex_var S 4) es_nil))) (ex_var S 11)) (ss_cons (own1 := [.V, .L, .V, .V, .V, .V, .U, .U, .V, .V, .U, .V, .U, .U, .U]) (st_ret ex_bl (by decide))
    ss_nil) ss_nil)
    (ss_cons (own1 := [.V, .L, .V, .V, .V, .V, .U, .U, .V, .V, .U, .V, .U, .V, .U]) (st_set S 13 L (EL.ex (el_lst es_nil)))
    (ss_cons (own1 := [.V, .L, .V, .V, .V, .V, .U, .U, .V, .V, .U, .V, .U, .V, .U]) (st_for S pass_body (it_seq S (ex_var S 11)) (vs := [12]) (tg_name S.hN 12 L)
    (ss_cons (own1 := [.V, .L, .V, .V, .V, .V, .U, .U, .V, .V, .U, .V, .V, .V, .U]) (st_set S 13 L (ex_add S (ex_var S 13) (EL.ex (el_list S 10 T.f_list (ex_var S 12)))))
    (ss_nil (by decide))))
    (ss_cons (own1 := [.V, .L, .V, .V, .V, .V, .U, .U, .V, .V, .U, .V, .U, .V, .U]) (st_for S pass_body (it_seq S (ex_callV A S 2 h__law_known (es_cons (ex_var S 2) es_nil))) (vs := [6]) (tg_name S.hN 6 L)
    (ss_cons (own1 := [.V, .L, .V, .V, .V, .V, .V, .U, .V, .V, .U, .V, .U, .V, .V]) (st_set S 14 L (ex_var S 6))
    (ss_cons (own1 := [.V, .L, .V, .V, .V, .V, .V, .U, .V, .V, .U, .V, .U, .V, .V]) (st_for S pass_body (it_range1 S 5 T.f_range (es_cons ex_int es_nil)) (vs := [10]) (tg_name S.hN 10 L)
    (ss_cons (own1 := [.V, .L, .V, .V, .V, .V, .V, .U, .V, .V, .V, .V, .U, .V, .V]) (st_set S 14 L (ex_get2K S (ex_var S 5) (ex_var S 14) (ex_var S 14)))
    (ss_nil (by decide))))
    (ss_cons (own1 := [.V, .L, .V, .V, .V, .V, .V, .U, .V, .V, .U, .V, .U, .V, .V]) (st_if (et_cmp (rl_ne S) od_ne (nomark _) (ex_eq S (ex_ix S (ex_callV A S 11 h_walk (es_cons (ex_var S 3) (es_cons (ex_var S 4) (es_cons (ex_var S 6) es_nil)))) ex_int) ex_str) (ex_in S (ex_var S 14) (ex_var S 13))) (ss_cons (own1 := [.V, .L, .V, .V, .V, .V, .V, .U, .V, .V, .U, .V, .U, .V, .V]) (st_ret ex_bl (by decide))
    ss_nil) ss_nil)
    (ss_nil (by decide))))))
    (ss_nil (by decide))))))))))))))))
    (ss_cons (own1 := [.U, .U, .U, .U, .U, .U, .U, .U, .U, .U, .U, .U, .U, .U, .U]) (st_ret ex_bl (by decide))
    ss_nil)))))
end MP.k09
/-! the plain side: what the denotations give, step by step -/
namespace MP
open PySem L2
@[simp] theorem look_zero (a : D) (l : List D) : look (a :: l) 0 = a := rfl
@[simp] theorem look_succ (a : D) (l : List D) (n : Nat) : look (a :: l) (n + 1) = look l n := rfl
section
variable {α β : Type} {m : M α} {f : α → M β} {s : α → SM} {ρ : Env} {a : α} {g h i : M D} {gs hs : M (List D)} {d : D} {x y z : SM} {c c' : M Bool}
@[simp] theorem bnd_ap : bnd m f ρ = (m ρ).bnd f := rfl
@[simp] theorem bnd_ok : (Res.ok a ρ).bnd f = f a ρ := rfl
@[simp] theorem bnd_bad : (Res.bad : Res α).bnd f = .bad := rfl
@[simp] theorem sbd_ap : sbd m s ρ = (m ρ).sb s := rfl
@[simp] theorem sb_ok : (Res.ok a ρ).sb s = s a ρ := rfl
@[simp] theorem sb_bad : (Res.bad : Res α).sb s = .bad := rfl
@[simp] theorem ret_ap : ret a ρ = .ok a ρ := rfl
@[simp] theorem ofO_some : ofO (some a) ρ = .ok a ρ := rfl
@[simp] theorem ofO_none : (ofO none : M α) ρ = .bad := rfl
@[simp] theorem vD_ap {i : Nat} : vD i ρ = .ok (look ρ i) ρ := rfl
@[simp] theorem kD_ap : kD d ρ = .ok d ρ := rfl
@[simp] theorem iteM {p : Prop} [Decidable p] {m m' : M α} : (if p then m else m') ρ = if p then m ρ else m' ρ := by split <;> rfl
@[simp] theorem iteS {p : Prop} [Decidable p] : (if p then x else y) ρ = if p then x ρ else y ρ := by split <;> rfl
@[simp] theorem op1_ap {f : D → Option D} : op1 f g ρ = (g ρ).bnd fun x => ofO (f x) := rfl
@[simp] theorem op2_ap {f : D → D → Option D} : op2 f g h ρ = (g ρ).bnd fun x => bnd h fun y => ofO (f x y) := rfl
def bl1 : D → M Bool := fun d => match d with
  | .bl b => ret b
  | _ => ofO none
@[simp] theorem bl1_bl {b : Bool} : bl1 (.bl b) ρ = .ok b ρ := rfl
@[simp] theorem asB_ap : asB g ρ = (g ρ).bnd bl1 := rfl
@[simp] theorem notB_ap : notB c ρ = (c ρ).bnd fun b => ret (!b) := rfl
@[simp] theorem andB_ap : andB c c' ρ = (c ρ).bnd fun b => if b then c' else ret false := rfl
@[simp] theorem orB_ap : orB c c' ρ = (c ρ).bnd fun b => if b then ret true else c' := rfl
@[simp] theorem andD_ap : andD g h ρ = (asB g ρ).bnd fun b => if b then h else ret (.bl false) := rfl
@[simp] theorem orD_ap : orD g h ρ = (asB g ρ).bnd fun b => if b then ret (.bl true) else h := rfl
@[simp] theorem notD_ap : notD g ρ = (asB g ρ).bnd fun b => ret (.bl (!b)) := rfl
@[simp] theorem ifD_ap : ifD c g h ρ = (c ρ).bnd fun b => if b then g else h := rfl
@[simp] theorem nilD_ap : nilD ρ = .ok [] ρ := rfl
@[simp] theorem consD_ap : consD g hs ρ = (g ρ).bnd fun x => bnd hs fun xs => ret (x :: xs) := rfl
@[simp] theorem starD_ap : starD g hs ρ = (g ρ).bnd fun x => bnd (ofO (itemsOf x)) fun as => bnd hs fun xs => ret (as ++ xs) := rfl
@[simp] theorem callD_ap {f : List D → Option D} : callD f gs ρ = (gs ρ).bnd fun xs => ofO (f xs) := rfl
@[simp] theorem tupD_ap : tupD gs ρ = (gs ρ).bnd fun xs => bnd (ofO (szO xs)) fun ys => ret (.tup ys) := rfl
@[simp] theorem lstD_ap : lstD gs ρ = (gs ρ).bnd fun xs => ofO (szO xs) := rfl
@[simp] theorem lstM_ap : lstM gs ρ = (gs ρ).bnd fun ds => ret (.lst ds) := rfl
@[simp] theorem listM_ap : listM g ρ = (g ρ).bnd fun d => ofO (itemsOf d) := rfl
@[simp] theorem itD_ap : itD g ρ = (g ρ).bnd fun d => ofO (seqOf d) := rfl
@[simp] theorem rngD_ap {f : List D → Option (List D)} : rngD f gs ρ = (gs ρ).bnd fun ds => ofO (f ds) := rfl
@[simp] theorem enumD_ap : enumD g ρ = (g ρ).bnd fun d => ofO ((itemsOf d).map (enumL 0)) := rfl
@[simp] theorem zipM_ap : zipM gs ρ = (gs ρ).bnd fun ds => ofO (zipO ds) := rfl
@[simp] theorem minM_ap : minM g ρ = (g ρ).bnd fun d => ofO (minO d) := rfl
@[simp] theorem slM_ap {l u : M (Option Int)} : slM g l u ρ = (g ρ).bnd fun d => bnd l fun l => bnd u fun u => ofO (slD d l u) := rfl
@[simp] theorem noP_ap : noP ρ = .ok none ρ := rfl
def int1 : D → M (Option Int) := fun d => match d with
  | .int i => ret (some i)
  | _ => ofO none
@[simp] theorem int1_int {i : Int} : int1 (.int i) ρ = .ok (some i) ρ := rfl
@[simp] theorem someP_ap : someP g ρ = (g ρ).bnd int1 := rfl
@[simp] theorem ixOwn_ap {j : Nat} : ixOwn j g ρ = (g ρ).bnd fun i ρ => ofO (ixD (look ρ j) i) ρ := rfl
@[simp] theorem lenOwn_ap {j : Nat} : lenOwn j ρ = ofO (lenD [look ρ j]) ρ := rfl
@[simp] theorem cmpOwn_ap {f : D → D → Option D} {j : Nat} : cmpOwn f j g ρ = (g ρ).bnd fun d ρ => ofO (f (look ρ j) d) ρ := rfl
def callR1 (ff : FRf) (j : Nat) (ds : List D) : M D := fun ρ => match look ρ j with
  | .lst rs => (match ff rs ds with
    | some (d, rs') => .ok d (ρ.set j (.lst rs'))
    | none => .bad)
  | _ => .bad
@[simp] theorem callR_ap {ff : FRf} {j : Nat} : callR ff j gs ρ = (gs ρ).bnd (callR1 ff j) := rfl
theorem callR1_of {ff : FRf} {j : Nat} {ds rs rs' : List D} (h1 : look ρ j = .lst rs) (h2 : ff rs ds = some (d, rs')) : callR1 ff j ds ρ = .ok d (ρ.set j (.lst rs')) := by unfold callR1; rw [h1]; simp only; rw [h2]
@[simp] theorem methD_ap {c : Str} {ff : FV} : methD c ff g gs ρ = (g ρ).bnd fun d => bnd (ofO (chkC c d)) fun e => bnd gs fun ds => ofO (ff (e :: ds)) := rfl
@[simp] theorem makeK_ap {c : Str} {fi : FI} {gD : List D → List D → List D} : makeK c fi gD gs hs ρ = (gs ρ).bnd fun xs => bnd hs fun ys => ofO (makeD c fi (gD xs ys)) := rfl
@[simp] theorem ek3_ap : ek3 g h i ρ = consD g (consD h (consD i nilD)) ρ := rfl
/-! statements -/
def SRes.sq (r : SRes) (h : SM) : SRes := match r with
  | .nx ρ => h ρ
  | r => r
@[simp] theorem sq_nx : (SRes.nx ρ).sq x = x ρ := rfl
@[simp] theorem sq_rt : (SRes.rt d ρ).sq x = .rt d ρ := rfl
@[simp] theorem sq_bk : (SRes.bk ρ).sq x = .bk ρ := rfl
@[simp] theorem sq_ct : (SRes.ct ρ).sq x = .ct ρ := rfl
@[simp] theorem sq_bad : SRes.bad.sq x = .bad := rfl
@[simp] theorem seqS_ap : seqS x y ρ = (x ρ).sq y := by unfold seqS SRes.sq; cases x ρ <;> rfl
@[simp] theorem nxS_ap : nxS ρ = .nx ρ := rfl
@[simp] theorem badS_ap : badS ρ = .bad := rfl
@[simp] theorem retS_ap : retS g ρ = (g ρ).sb fun d ρ => .rt d ρ := rfl
@[simp] theorem exprS_ap : exprS g ρ = (g ρ).sb fun _ ρ => .nx ρ := rfl
@[simp] theorem setS_ap {i : Nat} : setS i g ρ = (g ρ).sb fun d ρ => .nx (ρ.set i d) := rfl
@[simp] theorem setLS_ap {i : Nat} : setLS i gs ρ = (gs ρ).sb fun ds ρ => .nx (ρ.set i (.lst ds)) := rfl
@[simp] theorem ifS_ap : ifS c x y ρ = (c ρ).sb fun b => if b then x else y := rfl
@[simp] theorem setPar_ap {i j : Nat} : setPar i j g h ρ = (g ρ).sb fun x => sbd h fun y ρ => .nx ((ρ.set i x).set j y) := rfl
@[simp] theorem setParLL_ap {i j : Nat} : setParLL i j gs hs ρ = (gs ρ).sb fun x => sbd hs fun y ρ => .nx ((ρ.set i (.lst x)).set j (.lst y)) := rfl
@[simp] theorem setParVL_ap {i j : Nat} : setParVL i j g hs ρ = (g ρ).sb fun x => sbd hs fun y ρ => .nx ((ρ.set i x).set j (.lst y)) := rfl
@[simp] theorem setParLV_ap {i j : Nat} : setParLV i j gs h ρ = (gs ρ).sb fun x => sbd h fun y ρ => .nx ((ρ.set i (.lst x)).set j y) := rfl
@[simp] theorem setPar3_ap {i j k : Nat} : setPar3 i j k gs ρ = (gs ρ).sb fun ds ρ => match ds with
  | [x, y, z] => .nx (((ρ.set i x).set j y).set k z)
  | _ => .bad := rfl
@[simp] theorem setPar3L_ap {i j k : Nat} : setPar3L i j k gs hs ρ = (gs ρ).sb fun xs => sbd hs fun ys ρ => match ys with
  | [y, z] => .nx (((ρ.set i (.lst xs)).set j y).set k z)
  | _ => .bad := rfl
@[simp] theorem unpS_ap {b : Bd} : unpS b g ρ = (g ρ).sb fun d ρ => match b d ρ with
  | some ρ' => .nx ρ'
  | none => .bad := rfl
def app1 (j : Nat) (d : D) (ρ : Env) : SRes := match look ρ j with
  | .lst rs => if rs.length < 16000000 then .nx (ρ.set j (.lst (rs ++ [d]))) else .bad
  | _ => .bad
@[simp] theorem appS_ap {j : Nat} : appS j g ρ = (g ρ).sb (app1 j) := rfl
theorem app1_of {j : Nat} {rs : List D} (h : look ρ j = .lst rs) (hl : rs.length < 16000000) : app1 j d ρ = .nx (ρ.set j (.lst (rs ++ [d]))) := by unfold app1; rw [h]; simp only; rw [if_pos hl]
def ext1 (j : Nat) (ds : List D) (ρ : Env) : SRes := match look ρ j with
  | .lst rs => if rs.length + ds.length < 16000000 then .nx (ρ.set j (.lst (rs ++ ds))) else .bad
  | _ => .bad
@[simp] theorem extS_ap {j : Nat} : extS j gs ρ = (gs ρ).sb (ext1 j) := rfl
@[simp] theorem setIxS_ap {j : Nat} : setIxS j g h ρ = (h ρ).sb fun d => sbd g fun i ρ => match look ρ j with
  | .lst rs => (match i with
    | .int z => (match ixN rs.length z with
      | some n => .nx (ρ.set j (.lst (rs.set n d)))
      | none => .bad)
    | _ => .bad)
  | _ => .bad := rfl
@[simp] theorem slotS_ap {c : Str} {i : Nat} : slotS c i g ρ = (g ρ).sb fun d ρ => match look ρ 0 with
  | .ins c' fs => if c' = c ∧ fs.length = i then .nx (ρ.set 0 (.ins c' (fs ++ [d]))) else .bad
  | _ => .bad := rfl
@[simp] theorem forS_ap {b : Bd} {it : M (List D)} : forS b it x ρ = (it ρ).sb fun ds ρ => forL b x ds ρ := rfl
@[simp] theorem lcD_ap {b : Bd} {it : M (List D)} {vs : List Nat} : lcD b it c g vs ρ = (it ρ).bnd fun ds ρ => lcL b c g vs ds ρ [] := rfl
@[simp] theorem bName_ap {i : Nat} : bName i d ρ = some (ρ.set i d) := rfl
@[simp] theorem bNil_ap : bNil [] ρ = some ρ := rfl
@[simp] theorem bCons_ap {b : Bd} {cs : Bds} {r : List D} : bCons b cs (d :: r) ρ = (b d ρ).bind (cs r) := rfl
@[simp] theorem bTup_ap {n : Nat} {cs : Bds} {r : List D} : bTup n cs (.tup r) ρ = if r.length = n then cs r ρ else none := rfl
@[simp] theorem yesM_ap : yesM ρ = .ok true ρ := rfl
end
/-! primitives -/
@[simp] theorem intOp_ii {C : Int → Int → Bool} {f : Int → Int → D} {i j : Int} : intOp C f (.int i) (.int j) = if C i j then some (f i j) else none := rfl
@[simp] theorem addD_ii {i j : Int} : addD (.int i) (.int j) = some (.int (i + j)) := rfl
@[simp] theorem addD_tt {a b : List D} : addD (.tup a) (.tup b) = (szO (a ++ b)).map .tup := rfl
@[simp] theorem addD_ll {a b : List D} : addD (.lst a) (.lst b) = (szO (a ++ b)).map .lst := rfl
@[simp] theorem ltD_ii {i j : Int} : ltD (.int i) (.int j) = some (.bl (decide (i < j))) := rfl
@[simp] theorem leD_ii {i j : Int} : leD (.int i) (.int j) = some (.bl (decide (i ≤ j))) := rfl
@[simp] theorem gtD_ii {i j : Int} : gtD (.int i) (.int j) = some (.bl (decide (j < i))) := rfl
@[simp] theorem geD_ii {i j : Int} : geD (.int i) (.int j) = some (.bl (decide (j ≤ i))) := rfl
@[simp] theorem gtD_ss {i j : Str} : gtD (.str i) (.str j) = some (.bl (decide (j.cps.toList < i.cps.toList))) := rfl
@[simp] theorem ltD_ss {i j : Str} : ltD (.str i) (.str j) = some (.bl (decide (i.cps.toList < j.cps.toList))) := rfl
@[simp] theorem geD_ss {i j : Str} : geD (.str i) (.str j) = some (.bl (!decide (i.cps.toList < j.cps.toList))) := rfl
@[simp] theorem leD_ss {i j : Str} : leD (.str i) (.str j) = some (.bl (!decide (j.cps.toList < i.cps.toList))) := rfl
@[simp] theorem isND_non {d : D} : isND .non d = (match d with | .non => some (.bl true) | _ => none) := by cases d <;> rfl
@[simp] theorem lenD_l {ds : List D} : lenD [.lst ds] = some (.int ds.length) := rfl
@[simp] theorem lenD_t {ds : List D} : lenD [.tup ds] = some (.int ds.length) := rfl
@[simp] theorem intD_i {i : Int} : intD [.int i] = some (.int i) := rfl
@[simp] theorem tupleD_t {ds : List D} : tupleD [.tup ds] = some (.tup ds) := rfl
@[simp] theorem tupleD_l {ds : List D} : tupleD [.lst ds] = some (.tup ds) := rfl
@[simp] theorem items_t {ds : List D} : itemsOf (.tup ds) = some ds := rfl
@[simp] theorem items_l {ds : List D} : itemsOf (.lst ds) = some ds := rfl
@[simp] theorem slD_t {ds : List D} {l u : Option Int} : slD (.tup ds) l u = some (.tup (cutD ds l u)) := rfl
@[simp] theorem slD_l {ds : List D} {l u : Option Int} : slD (.lst ds) l u = some (.lst (cutD ds l u)) := rfl
@[simp] theorem ixD_t {ds : List D} {i : Int} : ixD (.tup ds) (.int i) = atI ds i := rfl
@[simp] theorem ixD_l {ds : List D} {i : Int} : ixD (.lst ds) (.int i) = atI ds i := rfl
@[simp] theorem isC_ins {c c' : Str} {ff : FV} {ds fs : List D} : isC c ff ds (.ins c' fs) = if c' = c then ff (.ins c' fs :: ds) else none := rfl
@[simp] theorem chkC_ins {c c' : Str} {fs : List D} : chkC c (.ins c' fs) = if c' = c then some (.ins c' fs) else none := rfl
@[simp] theorem fldD_ins {c c' : Str} {i : Nat} {fs : List D} : fldD c i (.ins c' fs) = if c' = c then fs[i]? else none := rfl
theorem szO_of {α : Type} {xs : List α} (h : xs.length ≤ 16000000) : szO xs = some xs := if_pos h
@[simp] theorem szO_nil {α : Type} : szO ([] : List α) = some [] := rfl
@[simp] theorem szO_1 {α : Type} {a : α} : szO [a] = some [a] := rfl
@[simp] theorem szO_2 {α : Type} {a b : α} : szO [a, b] = some [a, b] := rfl
@[simp] theorem szO_3 {α : Type} {a b c : α} : szO [a, b, c] = some [a, b, c] := rfl
@[simp] theorem szO_4 {α : Type} {a b c d : α} : szO [a, b, c, d] = some [a, b, c, d] := rfl
@[simp] theorem szO_5 {α : Type} {a b c d e : α} : szO [a, b, c, d, e] = some [a, b, c, d, e] := rfl
theorem atI_nat' {α : Type} {xs : List α} {n : Nat} (h : n < xs.length) : atI xs (n : Int) = xs[n]? := by
  unfold atI ixN
  rw [if_pos (by omega), if_pos (by omega)]
  simp
@[simp] theorem atI_0 {α : Type} {a : α} {l : List α} : atI (a :: l) 0 = some a := by
  have := atI_nat' (xs := a :: l) (n := 0) (by simp); simpa using this
@[simp] theorem atI_1 {α : Type} {a b : α} {l : List α} : atI (a :: b :: l) 1 = some b := by
  have := atI_nat' (xs := a :: b :: l) (n := 1) (by simp); simpa using this
@[simp] theorem atI_2 {α : Type} {a b c : α} {l : List α} : atI (a :: b :: c :: l) 2 = some c := by
  have := atI_nat' (xs := a :: b :: c :: l) (n := 2) (by simp); simpa using this
@[simp] theorem atI_3 {α : Type} {a b c d : α} {l : List α} : atI (a :: b :: c :: d :: l) 3 = some d := by
  have := atI_nat' (xs := a :: b :: c :: d :: l) (n := 3) (by simp); simpa using this
/-! ends -/
@[simp] theorem endV_rt {d : D} {ρ : Env} : endV (.rt d ρ) = some d := rfl
@[simp] theorem endV_nx {ρ : Env} : endV (.nx ρ) = some .non := rfl
@[simp] theorem endR_rt {d : D} {ρ : Env} : endR (.rt d ρ) = backR d ρ := rfl
@[simp] theorem backR_l {d : D} {rs : List D} {ρ : Env} : backR d (.lst rs :: ρ) = some (d, rs) := rfl
@[simp] theorem startD_ap {n : Nat} {ds : List D} : startD n ds = ds ++ List.replicate (n - ds.length) .non := rfl
/-! comprehensions and loops -/
@[simp] theorem forL_nil {b : Bd} {x : SM} {ρ : Env} : forL b x [] ρ = .nx ρ := rfl
def SRes.lp (r : SRes) (k : Env → SRes) : SRes := match r with
  | .nx ρ => k ρ
  | .ct ρ => k ρ
  | .bk ρ => .nx ρ
  | r => r
@[simp] theorem lp_nx {ρ : Env} {k : Env → SRes} : (SRes.nx ρ).lp k = k ρ := rfl
@[simp] theorem lp_ct {ρ : Env} {k : Env → SRes} : (SRes.ct ρ).lp k = k ρ := rfl
@[simp] theorem lp_bk {ρ : Env} {k : Env → SRes} : (SRes.bk ρ).lp k = .nx ρ := rfl
@[simp] theorem lp_rt {d : D} {ρ : Env} {k : Env → SRes} : (SRes.rt d ρ).lp k = .rt d ρ := rfl
theorem forL_cons {b : Bd} {x : SM} {d : D} {ds : List D} {ρ ρ1 : Env} (h : b d ρ = some ρ1) : forL b x (d :: ds) ρ = (x ρ1).lp fun ρ2 => forL b x ds ρ2 := by
  conv => lhs; unfold forL
  rw [h]
  simp only
  cases x ρ1 <;> rfl
theorem while_step {c : M Bool} {x : SM} {n : Nat} {ρ ρ1 : Env} (h : c ρ = .ok true ρ1) : whileS c x (n + 1) ρ = (x ρ1).lp fun ρ2 => whileS c x n ρ2 := by
  conv => lhs; unfold whileS
  rw [sbd_ap, h, sb_ok, if_pos rfl]
  cases x ρ1 <;> rfl
theorem while_end {c : M Bool} {x : SM} {n : Nat} {ρ ρ1 : Env} (h : c ρ = .ok false ρ1) : whileS c x (n + 1) ρ = .nx ρ1 := by
  conv => lhs; unfold whileS
  rw [sbd_ap, h, sb_ok, if_neg (by simp)]
theorem rng1_of {n : Int} (h0 : 0 ≤ n) (h : n ≤ 16000000) : rng1 [.int n] = some (rangeL 0 n) := by
  show (if n ≤ 16000000 ∧ -(2 ^ 62) ≤ n then some (rangeL 0 n) else none) = _
  rw [if_pos ⟨h, by omega⟩]
theorem rgD_of {n : Int} (h0 : 0 ≤ n) (h : n ≤ 16000000) : rgD (.int n) = some (rangeL 0 n) := by
  show (if 0 ≤ n ∧ n ≤ 16000000 then some (rangeL 0 n) else none) = _
  rw [if_pos ⟨h0, h⟩]
theorem rangeL_nat (n : Nat) : rangeL 0 (n : Int) = (List.range n).map fun (j : Nat) => D.int (j : Int) := by
  unfold rangeL
  simp
@[simp] theorem seqOf_l {ds : List D} : seqOf (.lst ds) = some ds := rfl
@[simp] theorem seqOf_t {ds : List D} : seqOf (.tup ds) = some ds := rfl
/-- the script's row: its items, the place, the seed, the rest -/
def rowD (ns : List Int) (i s r : Int) : List D := [.lst (ns.map D.int), .int i, .int s, .int r]
end MP
/-! plain lemmas for any law: sets of texts, truth lists, equality of data -/
namespace MP
open PySem L2
theorem keysD_strs : ∀ hs : List Str, keysD (hs.map D.str) = some (hs.map Sum.inr)
  | [] => rfl
  | h :: hs => by
    have : keysD ((h :: hs).map D.str) = (keysD (hs.map D.str)).map (Sum.inr h :: ·) := rfl
    rw [this, keysD_strs hs]; rfl
theorem sortS_mem {zs : List Str} {z : Str} : z ∈ sortS zs ↔ z ∈ zs := List.mem_mergeSort
theorem boolsOf_bl : ∀ bs : List Bool, boolsOf (bs.map D.bl) = some bs
  | [] => rfl
  | b :: bs => by
    have : boolsOf ((b :: bs).map D.bl) = (boolsOf (bs.map D.bl)).map (b :: ·) := rfl
    rw [this, boolsOf_bl bs]; rfl
theorem allD_bl (bs : List Bool) : allD [.lst (bs.map D.bl)] = some (.bl (bs.all id)) := by
  show (boolsOf (bs.map D.bl)).map _ = _
  rw [boolsOf_bl]; rfl
/-! equality -/
end MP
/-! plain lemmas for any law: cards, lookups, equality, comprehensions -/
namespace MP
open PySem L2
theorem lc_map {α : Type} {b : Bd} {c : M Bool} {g : M D} {vs : List Nat} {ρ : Env} (enc : α → D) (p : α → Bool) (f : α → D) : ∀ {L : List α} (_ : ∀ a ∈ L, ∃ ρ1, b (enc a) ρ = some ρ1 ∧ c ρ1 = .ok (p a) ρ1 ∧ (p a = true → g ρ1 = .ok (f a) ρ1) ∧ restore vs ρ ρ1 = ρ) (acc : List D), lcL b c g vs (L.map enc) ρ acc = .ok (acc ++ (L.filter p).map f) ρ
  | [], _, acc => by simp [lcL]
  | d :: ds, h, acc => by
    obtain ⟨ρ1, h1, h2, h3, h4⟩ := h d (by simp)
    have ih := lc_map (b := b) (c := c) (g := g) (vs := vs) (ρ := ρ) enc p f (L := ds) fun x hx => h x (by simp [hx])
    rw [List.map_cons]
    unfold lcL
    rw [h1]
    simp only
    rw [h2]
    cases hp : p d with
    | true =>
      simp only
      rw [h3 hp]
      simp only
      rw [h4, ih, List.filter_cons_of_pos hp]
      simp
    | false =>
      simp only
      rw [h4, ih, List.filter_cons_of_neg (by simp [hp])]
/-- all of them, from nothing on -/
theorem lc_mapA {α : Type} {b : Bd} {g : M D} {vs : List Nat} {ρ : Env} (enc f : α → D) {L : List α} (h : ∀ a ∈ L, ∃ ρ1, b (enc a) ρ = some ρ1 ∧ g ρ1 = .ok (f a) ρ1 ∧ restore vs ρ ρ1 = ρ) : lcL b yesM g vs (L.map enc) ρ [] = .ok (L.map f) ρ := by
  have := lc_map (b := b) (c := yesM) (g := g) (vs := vs) (ρ := ρ) enc (fun _ => true) f (L := L) (fun a ha => let ⟨r, h1, h2, h3⟩ := h a ha; ⟨r, h1, rfl, fun _ => h2, h3⟩) []
  rw [List.filter_eq_self.mpr fun _ _ => rfl, List.nil_append] at this
  exact this
theorem lc_mapF {α : Type} {b : Bd} {c : M Bool} {g : M D} {vs : List Nat} {ρ : Env} (enc : α → D) (p : α → Bool) (f : α → D) {L : List α} (h : ∀ a ∈ L, ∃ ρ1, b (enc a) ρ = some ρ1 ∧ c ρ1 = .ok (p a) ρ1 ∧ (p a = true → g ρ1 = .ok (f a) ρ1) ∧ restore vs ρ ρ1 = ρ) : lcL b c g vs (L.map enc) ρ [] = .ok ((L.filter p).map f) ρ := by
  have := lc_map enc p f h []
  rw [List.nil_append] at this
  exact this
theorem cut_from (ds : List D) (n : Nat) : cutD ds (some (n : Int)) none = ds.drop n := by
  unfold cutD
  rw [HT.sIx_none, HT.sIx_nat]
  by_cases h : n ≤ ds.length
  · rw [Nat.min_eq_left h, List.take_of_length_le (by simp)]
  · rw [Nat.min_eq_right (by omega), List.drop_of_length_le (by omega), List.drop_of_length_le (i := n) (by omega)]; simp
theorem eqv_str (a b : Str) : PyData.eqv (.str a) (.str b) = decide (a = b) := by
  have : PyData.eqv (.str a) (.str b) = (a == b) := by simp [PyData.eqv]
  rw [this]
  by_cases h : a = b
  · rw [beq_iff_eq.mpr h, decide_eq_true h]
  · rw [beq_eq_false_iff_ne.mpr h, decide_eq_false h]
theorem eqD_ss (a b : Str) : eqD (.str a) (.str b) = some (.bl (decide (a = b))) := by
  have h1 : okD (.str a) = true := rfl
  have h2 : okD (.str b) = true := rfl
  unfold eqD
  rw [h1, h2]
  simp [D.py, eqv_str]
theorem neD_ss (a b : Str) : neD (.str a) (.str b) = some (.bl (!decide (a = b))) := by
  have h1 : okD (.str a) = true := rfl
  have h2 : okD (.str b) = true := rfl
  unfold neD
  rw [h1, h2]
  simp [D.py, eqv_str]
theorem eqv_int (a b : Int) : PyData.eqv (.int a) (.int b) = decide (a = b) := by
  have : PyData.eqv (.int a) (.int b) = (a == b) := by simp [PyData.eqv]
  rw [this]
  by_cases h : a = b
  · rw [beq_iff_eq.mpr h, decide_eq_true h]
  · rw [beq_eq_false_iff_ne.mpr h, decide_eq_false h]
theorem eqD_ii (a b : Int) : eqD (.int a) (.int b) = some (.bl (decide (a = b))) := by
  have h1 : okD (.int a) = true := rfl
  have h2 : okD (.int b) = true := rfl
  unfold eqD
  rw [h1, h2]
  simp [D.py, eqv_int]
/-! equality with itself -/
mutual
theorem eqv_rf : ∀ d : D, d.plain = true → PyData.eqv d.py d.py = true
  | .non, _ => by simp [D.py, PyData.eqv]
  | .bl b, _ => by simp [D.py, PyData.eqv]
  | .int i, _ => by rw [D.py, eqv_int]; simp
  | .str s, _ => by rw [D.py, eqv_str]; simp
  | .tup ds, h => by rw [D.py, PyData.eqv]; exact eqvs_rf ds (by simpa [D.plain] using h)
  | .lst ds, h => by rw [D.py, PyData.eqv]; exact eqvs_rf ds (by simpa [D.plain] using h)
  | .dct _, h => by simp [D.plain] at h
  | .ins _ _, h => by simp [D.plain] at h
theorem eqvs_rf : ∀ ds : List D, plains ds = true → PyData.eqvAll (pys ds) (pys ds) = true
  | [], _ => by simp [pys, PyData.eqvAll]
  | d :: ds, h => by
    rw [plains, Bool.and_eq_true] at h
    rw [pys, PyData.eqvAll, eqv_rf d h.1, eqvs_rf ds h.2]; rfl
end
theorem neD_self {d : D} (h : okD d = true) : neD d d = some (.bl false) := by
  have hp : d.plain = true := by unfold okD at h; rw [Bool.and_eq_true] at h; exact h.1
  unfold neD
  rw [h, eqv_rf d hp]; rfl
/-! what is plain and flat enough: fl k d: depth at most k -/
mutual
def flt : Nat → D → Bool
  | _, .non | _, .bl _ | _, .int _ | _, .str _ => true
  | k + 1, .tup ds => flts k ds
  | k + 1, .lst ds => flts k ds
  | _, _ => false
def flts : Nat → List D → Bool
  | _, [] => true
  | k, d :: ds => flt k d && flts k ds
end
mutual
theorem flt_ok : ∀ (k : Nat) (d : D), flt k d = true → d.plain = true ∧ d.py.depth ≤ k
  | _, .non, _ => by simp [D.plain, D.py, PyData.depth]
  | _, .bl _, _ => by simp [D.plain, D.py, PyData.depth]
  | _, .int _, _ => by simp [D.plain, D.py, PyData.depth]
  | _, .str _, _ => by simp [D.plain, D.py, PyData.depth]
  | 0, .tup _, h => by simp [flt] at h
  | 0, .lst _, h => by simp [flt] at h
  | k + 1, .tup ds, h => by
    rw [flt] at h
    obtain ⟨a, b⟩ := flts_ok k ds h
    rw [D.plain, D.py, PyData.depth]
    exact ⟨a, by omega⟩
  | k + 1, .lst ds, h => by
    rw [flt] at h
    obtain ⟨a, b⟩ := flts_ok k ds h
    rw [D.plain, D.py, PyData.depth]
    exact ⟨a, by omega⟩
  | _, .dct _, h => by simp [flt] at h
  | _, .ins _ _, h => by simp [flt] at h
theorem flts_ok : ∀ (k : Nat) (ds : List D), flts k ds = true → plains ds = true ∧ PyData.depthAll (pys ds) ≤ k
  | _, [], _ => by simp [plains, pys, PyData.depthAll]
  | k, d :: ds, h => by
    rw [flts, Bool.and_eq_true] at h
    obtain ⟨a, b⟩ := flt_ok k d h.1
    obtain ⟨c, e⟩ := flts_ok k ds h.2
    rw [plains, pys, PyData.depthAll, a, c]
    exact ⟨rfl, by omega⟩
end
theorem okD_flt {k : Nat} {d : D} (hk : k ≤ 64) (h : flt k d = true) : okD d = true := by
  obtain ⟨a, b⟩ := flt_ok k d h
  unfold okD
  rw [a]
  simp
  omega
theorem flts_map {α : Type} {k : Nat} {f : α → D} : ∀ {l : List α}, (∀ a ∈ l, flt k (f a) = true) → flts k (l.map f) = true
  | [], _ => by simp [flts]
  | a :: l, h => by rw [List.map_cons, flts, h a (by simp), flts_map fun b hb => h b (by simp [hb])]; rfl
theorem flt_mapT {α : Type} {k : Nat} {f : α → D} {l : List α} (h : ∀ a ∈ l, flt k (f a) = true) : flt (k + 1) (.tup (l.map f)) = true := by rw [flt]; exact flts_map h
theorem flt_mapL {α : Type} {k : Nat} {f : α → D} {l : List α} (h : ∀ a ∈ l, flt k (f a) = true) : flt (k + 1) (.lst (l.map f)) = true := by rw [flt]; exact flts_map h
@[simp] theorem flt_non {k : Nat} : flt k .non = true := by cases k <;> rfl
@[simp] theorem flt_bl {k : Nat} {b : Bool} : flt k (.bl b) = true := by cases k <;> rfl
@[simp] theorem flt_int {k : Nat} {i : Int} : flt k (.int i) = true := by cases k <;> rfl
@[simp] theorem flt_str {k : Nat} {s : Str} : flt k (.str s) = true := by cases k <;> rfl
/-! ### numbers -/
abbrev inat (n : Nat) : D := .int (n : Int)
def encO : Option Nat → D
  | none => .non
  | some n => .int n
def encL (l : List Nat) : List D := l.map fun (n : Nat) => D.int (n : Int)
def encR (r : Option Nat × List Nat) : D := .tup [encO r.1, .tup (encL r.2)]
@[simp] theorem encL_len (l : List Nat) : (encL l).length = l.length := by simp [encL]
theorem encL_snoc (l : List Nat) (n : Nat) : encL l ++ [.int (n : Int)] = encL (l ++ [n]) := by simp [encL]
theorem last_at (s : List Nat) (x : Nat) : atI (encL (s ++ [x])) (-1) = some (.int x) := by
  unfold atI ixN
  rw [if_neg (by omega)]
  have h1 : (1 : Int) ≤ (s.length : Int) + 1 := by omega
  have h2 : (-1 + ((s.length : Int) + 1)).toNat = s.length := by omega
  simp [encL, h1, h2]
theorem rg_enc (i : Nat) (hi : i < 1000) : rgD (.int ((i : Int) + 1)) = some (encL (List.range (i + 1))) := by
  have e : ((i : Int) + 1) = ((i + 1 : Nat) : Int) := by omega
  rw [rgD_of (by omega) (by omega), e, rangeL_nat]
  rfl
theorem rg_enc' (i : Nat) (hi : i < 1000) : rgD (.int (i : Int)) = some (encL (List.range i)) := by
  rw [rgD_of (by omega) (by omega), rangeL_nat]
  rfl
theorem rng1_nat (n : Nat) (hn : n ≤ 16000000) : rng1 [.int (n : Int)] = some ((List.range n).map inat) := by
  rw [rng1_of (by omega) (by omega), rangeL_nat]
theorem rangeL_len' (n : Nat) : (rangeL 0 ((n : Int) + 1)).length = n + 1 := by
  have : ((n : Int) + 1) = ((n + 1 : Nat) : Int) := by omega
  rw [this, rangeL_nat]
  simp
/-! ### cards -/
structure C where
  h : Str
  bs : List Int
  see : Str
  al : List Str
def sm (c : C) : D := .tup [.str c.h, .tup (c.bs.map D.int), .str c.see, .tup (c.al.map D.str)]
def cd (c : C) : D := .ins "Card" [sm c]
def dr (cs : List C) : D := .ins "Drawer" [.tup (cs.map cd)]
theorem sm_at (cs : List C) {i : Nat} (hi : i < cs.length) : atI (cs.map sm) (i : Int) = some (sm cs[i]) := by
  rw [atI_nat' (by simpa using hi)]; simp [hi]
theorem cd_at (cs : List C) {i : Nat} (hi : i < cs.length) : atI (cs.map cd) (i : Int) = some (cd cs[i]) := by
  rw [atI_nat' (by simpa using hi)]; simp [hi]
theorem ixsm (c : C) : ixD (sm c) (.int 0) = some (.str c.h) := by simp [sm]
/-! ### lookups -/
abbrev ltS (a b : Str) : Prop := a.cps.toList < b.cps.toList
/-- from the i-th card on -/
def scan (leaf : Bool) (h : Str) : List Str → Nat → Option Nat × List Nat
  | [], i => (none, List.range i)
  | x :: r, i => if x = h then (some i, List.range (i + 1)) else if leaf = true ∧ ltS h x then (none, List.range (i + 1)) else scan leaf h r (i + 1)
/-- by halves, from lo on, below hi -/
def half (hs : List Str) (h : Str) (lo hi : Nat) (met : List Nat) : Option Nat × List Nat :=
  if _hlt : lo < hi then
    if hs.getD ((lo + hi - 1) / 2) h = h then (some ((lo + hi - 1) / 2), met ++ [(lo + hi - 1) / 2])
    else if ltS h (hs.getD ((lo + hi - 1) / 2) h) then half hs h lo ((lo + hi - 1) / 2) (met ++ [(lo + hi - 1) / 2])
    else half hs h ((lo + hi - 1) / 2 + 1) hi (met ++ [(lo + hi - 1) / 2])
  else (none, met)
termination_by hi - lo
decreasing_by all_goals omega
def lk (rule : Str) (hs : List Str) (h : Str) : Option Nat × List Nat := if rule = "half" then half hs h 0 hs.length [] else scan (decide (rule = "leaf")) h hs 0
theorem scan_found {leaf : Bool} {h : Str} : ∀ {r : List Str} {i p : Nat}, (scan leaf h r i).1 = some p → i ≤ p ∧ r[p - i]? = some h
  | [], i, p, e => by simp [scan] at e
  | x :: r, i, p, e => by
    unfold scan at e
    split at e
    · next hx => simp at e; subst e; simp [hx]
    · split at e
      · simp at e
      · obtain ⟨a, b⟩ := scan_found (r := r) e
        refine ⟨by omega, ?_⟩
        rw [show p - i = (p - (i + 1)) + 1 by omega]
        simpa using b
theorem half_found {hs : List Str} {h : Str} : ∀ (n lo hi : Nat) (met : List Nat) (p : Nat), hi - lo ≤ n → hi ≤ hs.length → (half hs h lo hi met).1 = some p → hs[p]? = some h
  | 0, lo, hi, met, p, hn, _, e => by
    rw [half, dif_neg (by omega)] at e; simp at e
  | n + 1, lo, hi, met, p, hn, hl, e => by
    rw [half] at e
    by_cases hlt : lo < hi
    · rw [dif_pos hlt] at e
      split at e
      · next hx =>
        simp at e; subst e
        have : (lo + hi - 1) / 2 < hs.length := by omega
        rw [List.getD_eq_getElem?_getD, List.getElem?_eq_getElem this] at hx
        rw [List.getElem?_eq_getElem this]
        exact congrArg some hx
      · split at e
        · exact half_found n _ _ _ p (by omega) (by omega) e
        · exact half_found n _ _ _ p (by omega) hl e
    · rw [dif_neg hlt] at e; simp at e
theorem lk_found {rule : Str} {hs : List Str} {h : Str} {p : Nat} (e : (lk rule hs h).1 = some p) : hs[p]? = some h := by
  unfold lk at e
  split at e
  · exact half_found hs.length 0 hs.length [] p (by omega) (by omega) e
  · obtain ⟨_, b⟩ := scan_found e
    simpa using b
theorem lk_lt {rule : Str} {hs : List Str} {h : Str} {p : Nat} (e : (lk rule hs h).1 = some p) : p < hs.length := (List.getElem?_eq_some_iff.mp (lk_found e)).1
/-! ### sets -/
theorem foldl_addK : ∀ (ks l : List Key), (ks.reverse ++ l).Nodup → (ks.foldl addK l).length = ks.length + l.length
  | [], l, _ => by simp
  | k :: ks, l, h => by
    have h1 : k ∉ l := fun z => by
      rw [List.nodup_append] at h
      exact h.2.2 k (by simp) k z rfl
    have e : addK l k = k :: l ∨ addK l k = l ++ [k] := by
      unfold addK; rw [if_neg (by simpa using h1)]; first | exact .inl rfl | exact .inr rfl
    rw [List.foldl_cons]
    rcases e with e | e
    · rw [e, foldl_addK ks (k :: l) (by simpa using h)]; simp; omega
    · have p : (ks.reverse ++ (l ++ [k])).Perm (ks.reverse ++ [k] ++ l) := by
        rw [List.append_assoc]
        exact List.Perm.append_left _ List.perm_append_comm
      have h2 : (ks.reverse ++ [k] ++ l).Nodup := by simpa using h
      rw [e, foldl_addK ks (l ++ [k]) (p.nodup_iff.mpr h2)]; simp; omega
theorem lenSet_strs {l : List Str} (h : l.Nodup) (hl : l.length < 4000) : lenSetD (.tup (l.map D.str)) = some (.int l.length) := by
  unfold lenSetD itemsKO
  rw [items_t]
  simp only [Option.bind_some, keysD_strs]
  rw [if_pos (by simpa using hl)]
  simp only [Option.map_some]
  have : (uniqK (l.map (Sum.inr : Str → Key))).length = l.length := by
    unfold uniqK
    rw [foldl_addK _ _ (by
      rw [List.append_nil, (List.reverse_perm _).nodup_iff]
      rw [List.nodup_iff_pairwise_ne, List.pairwise_map]; exact h.imp fun {a b} n z => n (by cases z; rfl))]
    simp
  rw [this]
/-! ### sorted sets of texts -/
def addS (l : List Str) (k : Str) : List Str := if k ∈ l then l else k :: l
def uniqS (hs : List Str) : List Str := hs.foldl addS []
def srtSet (hs : List Str) : List Str := sortS (uniqS hs)
theorem uniqK_strs (hs : List Str) : uniqK (hs.map Sum.inr) = (uniqS hs).map Sum.inr := by
  have key : ∀ (hs l : List Str), (hs.map (Sum.inr : Str → Key)).foldl addK (l.map Sum.inr) = (hs.foldl addS l).map Sum.inr := fun hs => by
    induction hs with
    | nil => intro l; rfl
    | cons h hs ih =>
      intro l
      rw [List.map_cons, List.foldl_cons, List.foldl_cons, ← ih]
      congr 1
      unfold addK addS
      by_cases q : h ∈ l
      · rw [if_pos q, if_pos (by simpa using q)]
      · rw [if_neg q, if_neg (by simpa using q)]; rfl
  exact key hs []
theorem uniqS_nd (hs : List Str) : (uniqS hs).Nodup := by
  have key : ∀ (hs l : List Str), l.Nodup → (hs.foldl addS l).Nodup := fun hs => by
    induction hs with
    | nil => exact fun l h => h
    | cons k ks ih =>
      intro l h
      rw [List.foldl_cons]
      refine ih _ ?_
      unfold addS
      split
      · exact h
      · next q => exact List.nodup_cons.mpr ⟨q, h⟩
  exact key hs [] List.nodup_nil
theorem uniqS_mem {hs : List Str} {z : Str} : z ∈ uniqS hs ↔ z ∈ hs := by
  have : (Sum.inr z : Key) ∈ uniqK (hs.map Sum.inr) ↔ (Sum.inr z : Key) ∈ hs.map Sum.inr := uniq_mem
  rw [uniqK_strs] at this
  simpa using this
theorem uniqS_len (hs : List Str) : (uniqS hs).length ≤ hs.length := by
  have := uniq_len (hs.map (Sum.inr : Str → Key))
  rw [uniqK_strs] at this
  simpa using this
theorem srtSet_mem {hs : List Str} {z : Str} : z ∈ srtSet hs ↔ z ∈ hs := sortS_mem.trans uniqS_mem
theorem srtSet_len (hs : List Str) : (srtSet hs).length ≤ hs.length := by
  unfold srtSet sortS
  rw [List.length_mergeSort]
  exact uniqS_len hs
theorem srtSet_pw (hs : List Str) : (srtSet hs).Pairwise fun a b => leS a b = true := List.pairwise_mergeSort leS_trans leS_total _
theorem srtSet_nd (hs : List Str) : (srtSet hs).Nodup := (List.mergeSort_perm _ _).nodup_iff.mpr (uniqS_nd hs)
theorem srtSet_congr {a b : List Str} (h : ∀ z, z ∈ a ↔ z ∈ b) : srtSet a = srtSet b := by
  refine List.Perm.eq_of_pairwise (le := fun a b => leS a b = true) (fun x y _ _ h1 h2 => leS_anti h1 h2) (srtSet_pw a) (srtSet_pw b) ?_
  rw [List.perm_ext_iff_of_nodup (srtSet_nd a) (srtSet_nd b)]
  intro z
  rw [srtSet_mem, srtSet_mem]
  exact h z
theorem sortSet_L (hs : List Str) (hl : hs.length < 4000) (hu : (uniqS hs).length < 64) : sortSetD (.lst (hs.map D.str)) = some ((srtSet hs).map D.str) := by
  unfold sortSetD itemsKO
  rw [items_l]
  simp only [Option.bind_some, keysD_strs]
  rw [if_pos (by simpa using hl)]
  simp only [Option.bind_some]
  unfold sortKD
  rw [uniqK_strs, if_pos (by simpa using hu)]
  have : ∀ l : List Str, strsK (l.map Sum.inr) = some l := fun l => by
    induction l with
    | nil => rfl
    | cons x l ih =>
      have : strsK ((x :: l).map Sum.inr) = (strsK (l.map Sum.inr)).map (x :: ·) := rfl
      rw [this, ih]; rfl
  rw [this]
  rfl
end MP
/-! the plain side: instances with a dict, lists that are read at once, parallel assignment -/
namespace MP
open PySem L2
section
variable {α β : Type} {ρ : Env} {g h i : M D} {gs hs : M (List D)} {d : D} {x y z : SM} {c c' : Str} {l : Env → Option (List D)} {p : Env → Option D}
@[simp] theorem fldO_ap {i j : Nat} : fldO c i j ρ = ofO (fldD c i (look ρ j)) ρ := rfl
@[simp] theorem fld_ins {i : Nat} {fs : List D} : fldD c i (.ins c fs) = fs[i]? := if_pos rfl
@[simp] theorem setF_ap {i j : Nat} : setF c i j g ρ = (g ρ).sb fun d ρ => match look ρ j with
  | .ins c' fs => if c' = c ∧ i ≤ fs.length then .nx (ρ.set j (.ins c' (putI i d fs))) else .bad
  | _ => .bad := rfl
@[simp] theorem setFL_ap {i j : Nat} : setFL c i j gs ρ = (gs ρ).sb fun ds ρ => match look ρ j with
  | .ins c' fs => if c' = c ∧ i ≤ fs.length then .nx (ρ.set j (.ins c' (putI i (.lst ds) fs))) else .bad
  | _ => .bad := rfl
@[simp] theorem putI_0 {α : Type} {d : α} : putI 0 d [] = [d] := rfl
@[simp] theorem putI_0c {α : Type} {d a : α} {l : List α} : putI 0 d (a :: l) = d :: l := rfl
@[simp] theorem putI_s {α : Type} {n : Nat} {d a : α} {l : List α} : putI (n + 1) d (a :: l) = a :: putI n d l := by
  unfold putI
  simp only [List.length_cons, Nat.add_lt_add_iff_right]
  split <;> simp
@[simp] theorem boxL_ap {i j : Nat} : boxL c i j ρ = lstO (fldD c i (look ρ j)) := rfl
@[simp] theorem slotL_ap {j : Nat} : slotL j ρ = lstO (some (look ρ j)) := rfl
@[simp] theorem lstO_l {rs : List D} : lstO (some (.lst rs)) = some rs := rfl
@[simp] theorem blO_b {b : Bool} : blO (some (.bl b)) = some (.bl b) := rfl
@[simp] theorem inOL_ap {b : Bool} : inOL b g l ρ = (g ρ).bnd fun x ρ => ofO (blO ((l ρ).bind fun rs => inD b x (.lst rs))) ρ := rfl
@[simp] theorem ixOL_ap : ixOL l p ρ = ofO ((l ρ).bind fun rs => (p ρ).bind fun i => ixD (.lst rs) i) ρ := rfl
@[simp] theorem lenOL_ap : lenOL l ρ = ofO ((l ρ).map fun rs => .int rs.length) ρ := rfl
@[simp] theorem starOL_ap : starOL l gs ρ = (ofO (l ρ) ρ).bnd fun as => bnd gs fun xs => ret (as ++ xs) := rfl
@[simp] theorem nilOL_ap {b : Bool} : nilOL b l ρ = ofO ((l ρ).bind fun rs => if okD (.lst rs) then some (.bl (xor b rs.isEmpty)) else none) ρ := rfl
@[simp] theorem setBox_ap {i j : Nat} : setBox i j d ρ = (match look ρ j with
  | .ins c fs => ρ.set j (.ins c (fs.set i d))
  | _ => ρ) := rfl
@[simp] theorem appF_ap {i j : Nat} : appF c i j p ρ = (match boxL c i j ρ with
  | some rs => (match p ρ with
    | some d => if rs.length < 16000000 then .nx (setBox i j (.lst (rs ++ [d])) ρ) else .bad
    | none => .bad)
  | none => .bad) := rfl
@[simp] theorem popF_ap {i j : Nat} {z : Int} : popF c i j z ρ = (match boxL c i j ρ with
  | some rs => (match seqIndex? z rs.length with
    | some m => (match rs[m]? with
      | some y => .ok y (setBox i j (.lst (rs.eraseIdx m)) ρ)
      | none => .bad)
    | none => .bad)
  | none => .bad) := rfl
@[simp] theorem augF_ap {i j : Nat} : augF c i j g ρ = (fldO c i j ρ).sb fun x => sbd g fun y ρ => match x, y with
  | .int p, .int q => (match look ρ j with
    | .ins c' fs => if c' = c ∧ i ≤ fs.length then .nx (ρ.set j (.ins c' (putI i (.int (p + q)) fs))) else .bad
    | _ => .bad)
  | _, _ => .bad := rfl
@[simp] theorem ofC_ap {j : Nat} : ofC c j ρ = (match look ρ j with
  | .ins c' _ => if c' = c then .ok () ρ else .bad
  | _ => .bad) := rfl
def callM1 (fl : Bool) (ff : FMf) (j : Nat) (ds : List D) : M D := fun ρ => match ff (look ρ j) ds with
  | some (d, d1) => if (!fl || fullB d1) = true then .ok d (ρ.set j d1) else .bad
  | none => .bad
@[simp] theorem callM_ap {fl : Bool} {ff : FMf} {j : Nat} : callM c fl ff j gs ρ = (ofC c j ρ).bnd fun _ => bnd gs (callM1 fl ff j) := rfl
theorem callM1_of {fl : Bool} {ff : FMf} {j : Nat} {ds : List D} {d1 : D} (h : ff (look ρ j) ds = some (d, d1)) (hf : (!fl || fullB d1) = true) : callM1 fl ff j ds ρ = .ok d (ρ.set j d1) := by
  unfold callM1; rw [h]; simp only; rw [if_pos hf]
@[simp] theorem onIns_ins {ff : FMf} {fs ds : List D} : onIns ff (.ins c fs) ds = ff (.ins c fs) ds := rfl
@[simp] theorem endM_nx : endM (.nx ρ) = some (.non, look ρ 0) := rfl
@[simp] theorem endM_rt : endM (.rt d ρ) = some (d, look ρ 0) := rfl
@[simp] theorem parS_ap {is : List Nat} : parS is gs ρ = (gs ρ).sb fun ds ρ => .nx (setAll ρ is ds) := rfl
@[simp] theorem setAll_nil {α : Type} {l : List α} {xs : List α} : setAll l [] xs = l := by cases xs <;> rfl
@[simp] theorem setAll_cons {α : Type} {l : List α} {i : Nat} {is : List Nat} {a : α} {xs : List α} : setAll l (i :: is) (a :: xs) = setAll (l.set i a) is xs := rfl
def ext2 (j : Nat) (d : D) (ρ : Env) : SRes := match itemsOf d, look ρ j with
  | some ds, .lst rs => if rs.length + ds.length < 16000000 then .nx (ρ.set j (.lst (rs ++ ds))) else .bad
  | _, _ => .bad
@[simp] theorem extV_ap {j : Nat} : extV j g ρ = (g ρ).sb (ext2 j) := rfl
theorem ext2_of {j : Nat} {rs ds : List D} (h : look ρ j = .lst rs) (hd : itemsOf d = some ds) (hl : rs.length + ds.length < 16000000) : ext2 j d ρ = .nx (ρ.set j (.lst (rs ++ ds))) := by
  unfold ext2; rw [h, hd]; simp only; rw [if_pos hl]
end
/-! texts in lists -/
theorem any_strs (k : Str) : ∀ s : List Str, ((s.map D.str).any fun y => eqF y (.str k)) = decide (k ∈ s)
  | [] => rfl
  | a :: s => by
    rw [List.map_cons, List.any_cons, any_strs k s]
    have : eqF (.str a) (.str k) = decide (a = k) := by
      show (a == k) = _
      by_cases e : a = k
      · subst e; simp
      · rw [decide_eq_false e]; exact beq_eq_false_iff_ne.mpr e
    rw [this]
    by_cases e : a = k
    · subst e; simp
    · have e' : ¬ k = a := fun z => e z.symm
      simp [e, e']
theorem all_flat_strs (s : List Str) : (s.map D.str).all flatD = true := by
  rw [List.all_eq_true]
  intro x hx
  obtain ⟨a, _, rfl⟩ := List.mem_map.mp hx
  rfl
theorem in_strL (b : Bool) (k : Str) (s : List Str) : inD b (.str k) (.lst (s.map D.str)) = some (.bl (xor b (decide (k ∈ s)))) := by
  unfold inD
  simp only [flatD, all_flat_strs, any_strs]
  rfl
/-! ### walks -/
def see (cs : List C) (p : Nat) : Str := ((cs[p]?).map C.see).getD ""
/-- how it ends, the places, the headings, the looks -/
structure Wr where
  w : Str
  st : List Nat
  so : List Str
  ef : Nat
def wk (rule : Str) (cs : List C) : Nat → Str → List Str → List Nat → Nat → Option Wr
  | 0, _, _, _, _ => none
  | n + 1, h, so, st, ef => if h ∈ so then some ⟨"ring", st, so, ef⟩ else
    match (lk rule (cs.map C.h) h).1 with
    | none => some ⟨"lost", st, so ++ [h], ef + (lk rule (cs.map C.h) h).2.length⟩
    | some p => if see cs p = "" then some ⟨"entry", st ++ [p], so ++ [h], ef + (lk rule (cs.map C.h) h).2.length⟩
      else wk rule cs n (see cs p) (so ++ [h]) (st ++ [p]) (ef + (lk rule (cs.map C.h) h).2.length)
theorem nd_len : ∀ (a b : List Str), a.Nodup → (∀ x ∈ a, x ∈ b) → a.length ≤ b.length
  | [], b, _, _ => by simp
  | x :: a, b, nd, h => by
    obtain ⟨n1, n2⟩ := List.nodup_cons.mp nd
    have hx : x ∈ b := h x (by simp)
    have := nd_len a (b.erase x) n2 fun y hy => (List.mem_erase_of_ne (fun (e : y = x) => n1 (by rw [← e]; exact hy))).mpr (h y (by simp [hy]))
    rw [List.length_erase_of_mem hx] at this
    have : 0 < b.length := List.length_pos_of_mem hx
    simp only [List.length_cons]
    omega
theorem see_mem {cs : List C} {p : Nat} (h : see cs p ≠ "") : see cs p ∈ cs.map C.see := by
  unfold see at h ⊢
  cases e : cs[p]? with
  | none => rw [e] at h; exact (h rfl).elim
  | some c => exact List.mem_map.mpr ⟨c, List.mem_of_getElem? e, rfl⟩
theorem wk_some {rule : Str} {cs : List C} {U : List Str} (hU : ∀ x ∈ cs.map C.see, x ∈ U) : ∀ (n : Nat) (h : Str) (so : List Str) (st : List Nat) (ef : Nat), so.Nodup → (∀ x ∈ so, x ∈ U) → h ∈ U → U.length < n + so.length → ∃ r, wk rule cs n h so st ef = some r
  | 0, h, so, st, ef, nd, hs, _, hl => by
    have := nd_len so U nd hs
    omega
  | n + 1, h, so, st, ef, nd, hs, hh, hl => by
    unfold wk
    by_cases hm : h ∈ so
    · rw [if_pos hm]; exact ⟨_, rfl⟩
    · rw [if_neg hm]
      cases e : (lk rule (cs.map C.h) h).1 with
      | none => exact ⟨_, rfl⟩
      | some p =>
        dsimp only
        by_cases es : see cs p = ""
        · rw [if_pos es]; exact ⟨_, rfl⟩
        · rw [if_neg es]
          refine wk_some hU n _ _ _ _ ?_ ?_ (hU _ (see_mem es)) (by simp; omega)
          · rw [List.nodup_append]
            exact ⟨nd, by simp, fun a ha b hb e => hm (by simp at hb; rw [← hb, ← e]; exact ha)⟩
          · intro x hx
            rcases List.mem_append.mp hx with hx | hx
            · exact hs x hx
            · simp at hx; rw [hx]; exact hh
/-- the walk from a heading -/
def wl (rule : Str) (cs : List C) (h : Str) : Wr := (wk rule cs (cs.length + 2) h [] [] 0).getD ⟨"", [], [], 0⟩
theorem wl_eq (rule : Str) (cs : List C) (h : Str) : wk rule cs (cs.length + 2) h [] [] 0 = some (wl rule cs h) := by
  obtain ⟨r, e⟩ := wk_some (rule := rule) (cs := cs) (U := h :: cs.map C.see) (fun x hx => by simp only [List.mem_cons]; exact .inr hx) (cs.length + 2) h [] [] 0 (by simp) (by simp) (by simp) (by simp)
  unfold wl
  rw [e]; rfl
def encWr (r : Wr) : D := .ins "Walk" [.str r.w, .lst (encL r.st), .lst (r.so.map D.str), .int r.ef]
/-- (how it ends, the place of the entry card) -/
def ld (r : Wr) : Str × Option Nat := (r.w, if r.w = "entry" then r.st.getLast? else none)
theorem last_of {s : List Nat} {x : Nat} (h : s.getLast? = some x) : atI (encL s) (-1) = some (.int x) := by
  obtain ⟨t, rfl⟩ : ∃ t, s = t ++ [x] := List.getLast?_eq_some_iff.mp h
  exact last_at t x
end MP
/-! the plain side: dicts -/
namespace MP
open PySem L2
section
variable {ρ : Env} {g h i : M D} {gs : M (List D)} {d : D}
@[simp] theorem lockM_ap : lockM g ρ = (g ρ).bnd fun d => ofO (lkD d) := rfl
@[simp] theorem lkD_k {ks : List Key} {ds : List D} : lkD (.dk false ks ds) = some (.dk true ks ds) := rfl
@[simp] theorem lockS_ap {j : Nat} : lockS j ρ = (match lkD (look ρ j) with
  | some d => .nx (ρ.set j d)
  | none => .bad) := rfl
@[simp] theorem dictM_ap : dictM g ρ = (g ρ).bnd fun d => ofO (dictO d) := rfl
@[simp] theorem listK_ap : listK g ρ = (g ρ).bnd fun d => ofO (dkKeys d) := rfl
@[simp] theorem sortKM_ap : sortKM g ρ = (g ρ).bnd fun d => ofO (sortK d) := rfl
@[simp] theorem itKeys_ap : itKeys g ρ = (g ρ).bnd fun d => ofO (keysOf d) := rfl
@[simp] theorem itVals_ap : itVals g ρ = (g ρ).bnd fun d => ofO (valsOf d) := rfl
@[simp] theorem itItems_ap : itItems g ρ = (g ρ).bnd fun d => ofO (itemsD d) := rfl
@[simp] theorem dkKeys_k {lk : Bool} {ks : List Key} {ds : List D} : dkKeys (.dk lk ks ds) = some (ks.map keyD) := rfl
@[simp] theorem keysOf_k {ks : List Key} {ds : List D} : keysOf (.dk true ks ds) = some (ks.map keyD) := rfl
@[simp] theorem itemsD_k {ks : List Key} {ds : List D} : itemsD (.dk true ks ds) = some ((ks.zip ds).map fun p => .tup [keyD p.1, p.2]) := rfl
@[simp] theorem dcD_ap {b : Bd} {it : M (List D)} {c : M Bool} {gk gv : M D} {vs : List Nat} : dcD b it c gk gv vs ρ = (it ρ).bnd fun ds => bnd (fun ρ => dcL b c gk gv vs ds ρ [] []) fun p => ret (.dk false p.1 p.2) := rfl
@[simp] theorem inKS_ap {neg : Bool} {j : Nat} : inKS neg j g ρ = (g ρ).bnd fun x ρ => ofO (inK neg x (look ρ j)) ρ := rfl
@[simp] theorem getKS_ap {j : Nat} : getKS j g ρ = (g ρ).bnd fun x ρ => ofO (getK (look ρ j) x) ρ := rfl
@[simp] theorem get2S_ap {j : Nat} : get2S j g h ρ = (g ρ).bnd fun x => bnd h fun y ρ => ofO (get2K (look ρ j) x y) ρ := rfl
@[simp] theorem lenKS_ap {j : Nat} : lenKS j ρ = ofO (lenK [look ρ j]) ρ := rfl
@[simp] theorem putDS_ap {j : Nat} : putDS j g h ρ = (h ρ).sb fun d => sbd g fun x ρ => match keyK x, look ρ j with
  | some k, .dk false ks ds => if ds.length < 16000000 then .nx (ρ.set j (.dk false (putKs ks k) (putXs ks ds k d))) else .bad
  | _, _ => .bad := rfl
@[simp] theorem keyK_s {s : Str} : keyK (.str s) = some (.inr s) := rfl
@[simp] theorem keyK_i {s : Int} : keyK (.int s) = some (.inl s) := rfl
end
abbrev kS : Str → Key := Sum.inr
theorem keyD_strs (ks : List Str) : (ks.map kS).map keyD = ks.map D.str := by rw [List.map_map]; rfl
theorem kS_mem {ks : List Str} {k : Str} : kS k ∈ ks.map kS ↔ k ∈ ks := by
  rw [List.mem_map]
  exact ⟨fun ⟨a, h, e⟩ => by cases e; exact h, fun h => ⟨k, h, rfl⟩⟩
theorem strKs_map : ∀ ks : List Str, strKs (ks.map kS) = some ks
  | [] => rfl
  | k :: ks => by
    show (strKs (ks.map kS)).map (k :: ·) = _
    rw [strKs_map ks]; rfl
theorem putKs_new {ks : List Key} {k : Key} (h : k ∉ ks) : putKs ks k = ks ++ [k] := if_neg h
theorem putXs_new {α : Type} {ks : List Key} {xs : List α} {k : Key} {y : α} (h : k ∉ ks) : putXs ks xs k y = xs ++ [y] := if_neg h
theorem mrg_strs (f : Str → D) : ∀ {L acc : List Str} (_ : (acc ++ L).Nodup), mrg (L.map fun a => (kS a, f a)) (acc.map kS) (acc.map f) = ((acc ++ L).map kS, (acc ++ L).map f)
  | [], acc, _ => by simp [mrg]
  | a :: L, acc, nd => by
    have hn : kS a ∉ acc.map kS := fun z => by
      have := kS_mem.mp z
      rw [List.nodup_append] at nd
      exact nd.2.2 a this a (by simp) rfl
    have ih := mrg_strs f (L := L) (acc := acc ++ [a]) (by simpa using nd)
    rw [List.map_cons, mrg, putKs_new hn, putXs_new hn]
    have e1 : acc.map kS ++ [kS a] = (acc ++ [a]).map kS := by simp
    have e2 : acc.map f ++ [f a] = (acc ++ [a]).map f := by simp
    rw [e1, e2, ih]
    simp
theorem pairs_strs (f : Str → D) : ∀ L : List Str, pairsO (L.map fun a => .tup [.str a, f a]) = some (L.map fun a => (kS a, f a))
  | [] => rfl
  | a :: L => by
    rw [List.map_cons, pairsO, pairs_strs f L]
    rfl
theorem dict_strs (f : Str → D) {L : List Str} (nd : L.Nodup) (hl : L.length < 1000) : dictO (.lst (L.map fun a => .tup [.str a, f a])) = some (.dk false (L.map kS) (L.map f)) := by
  unfold dictO
  simp only [pairs_strs]
  have := mrg_strs f (L := L) (acc := []) (by simpa using nd)
  simp only [List.map_nil, List.nil_append] at this
  rw [this, if_pos (by simp; omega)]
theorem valA_strs (f : Str → D) : ∀ {L : List Str} {a : Str}, a ∈ L → valA (L.map kS) (L.map f) (kS a) = some (f a)
  | [], _, h => by simp at h
  | x :: L, a, h => by
    rw [List.map_cons, List.map_cons, valA_cons]
    by_cases e : x = a
    · subst e; simp
    · have e2 : ¬ (kS x = kS a) := fun z => e (by cases z; rfl)
      rw [if_neg e2]
      exact valA_strs f ((List.mem_cons.mp h).resolve_left fun q => e q.symm)
end MP
/-! lookups in filed rows of headings -/
namespace MP
open PySem L2
theorem not_lt_le {a b : Str} (h : ¬ ltS a b) : leS b a = true := by
  unfold leS
  have : decide (a.cps.toList < b.cps.toList) = false := decide_eq_false h
  rw [this]; rfl
theorem nd_at {hs : List Str} (nd : hs.Nodup) {p q : Nat} {h : Str} (h1 : hs[p]? = some h) (h2 : hs[q]? = some h) : p = q := by
  obtain ⟨a, e1⟩ := List.getElem?_eq_some_iff.mp h1
  obtain ⟨b, e2⟩ := List.getElem?_eq_some_iff.mp h2
  rcases Nat.lt_trichotomy p q with z | z | z
  · exact (List.pairwise_iff_getElem.mp nd p q a b z (by rw [e1, e2])).elim
  · exact z
  · exact (List.pairwise_iff_getElem.mp nd q p b a z (by rw [e1, e2])).elim
theorem see_at (cs : List C) {p : Nat} (hp : p < cs.length) : see cs p = cs[p].see := by simp [see, hp]
end MP
/-! equality of plain data without truth values: it is that of the data -/
namespace MP
open PySem L2
mutual
def pur : D → Bool
  | .non | .int _ | .str _ => true
  | .tup ds | .lst ds => purs ds
  | _ => false
def purs : List D → Bool
  | [] => true
  | d :: ds => pur d && purs ds
end
noncomputable instance decD : DecidableEq D := fun _ _ => Classical.propDecidable _
theorem purs_all : ∀ ds : List D, (∀ d ∈ ds, pur d = true) → purs ds = true
  | [], _ => rfl
  | d :: ds, h => by rw [purs, h d (by simp), purs_all ds fun x hx => h x (by simp [hx])]; rfl
theorem purs_map {α : Type} (f : α → D) (l : List α) (h : ∀ a ∈ l, pur (f a) = true) : purs (l.map f) = true := purs_all _ fun d hd => by
  obtain ⟨a, ha, rfl⟩ := List.mem_map.mp hd
  exact h a ha
@[simp] theorem purs_strs (l : List Str) : purs (l.map D.str) = true := purs_map _ _ fun _ _ => rfl
@[simp] theorem purs_ints (l : List Int) : purs (l.map D.int) = true := purs_map _ _ fun _ _ => rfl
@[simp] theorem purs_encL (l : List Nat) : purs (encL l) = true := purs_map _ _ fun _ _ => rfl
theorem flts_all {k : Nat} : ∀ ds : List D, (∀ d ∈ ds, flt k d = true) → flts k ds = true
  | [], _ => by cases k <;> rfl
  | d :: ds, h => by rw [flts, h d (by simp), flts_all ds fun x hx => h x (by simp [hx])]; rfl
@[simp] theorem flts_strs (k : Nat) (l : List Str) : flts k (l.map D.str) = true := flts_all _ fun d hd => by
  obtain ⟨a, _, rfl⟩ := List.mem_map.mp hd
  cases k <;> rfl
@[simp] theorem flts_ints (k : Nat) (l : List Int) : flts k (l.map D.int) = true := flts_all _ fun d hd => by
  obtain ⟨a, _, rfl⟩ := List.mem_map.mp hd
  cases k <;> rfl
end MP
/-! the plain side: dicts in fields, displays -/
namespace MP
open PySem L2
section
variable {c : Str} {ρ : Env} {g h : M D} {d : D} {pk pv : Env → Option D} {r : M (List (D × D))}
@[simp] theorem boxD_ap {i j : Nat} : boxD c i j ρ = fldD c i (look ρ j) := rfl
@[simp] theorem lenFD_ap {i j : Nat} : lenFD c i j ρ = (fldD c i (look ρ j)).bind fun d => lenK [d] := rfl
@[simp] theorem inFD_ap {b : Bool} {i j : Nat} : inFD b c i j g ρ = (g ρ).bnd fun x ρ => ofO ((fldD c i (look ρ j)).bind fun d => inK b x d) ρ := rfl
@[simp] theorem setFM_ap {i j : Nat} : setFM c i j g ρ = (g ρ).sb fun d ρ => match look ρ j with
  | .ins c' fs => if c' = c ∧ i ≤ fs.length then .nx (ρ.set j (.ins c' (putI i d fs))) else .bad
  | _ => .bad := rfl
@[simp] theorem putFD_ap {i j : Nat} : putFD c i j pk pv ρ = (match fldD c i (look ρ j), pk ρ, pv ρ with
  | some (.dk false ks ds), some x, some d => (match keyK x with
    | some k => if ds.length < 16000000 then .nx (setBox i j (.dk false (putKs ks k) (putXs ks ds k d)) ρ) else .bad
    | none => .bad)
  | _, _, _ => .bad) := rfl
@[simp] theorem setdFD_ap {i j : Nat} : setdFD c i j pk pv ρ = (match fldD c i (look ρ j), pk ρ, pv ρ with
  | some (.dk false ks ds), some x, some d => (match keyK x with
    | some k => if ds.length < 16000000 then (if k ∈ ks then .nx ρ else .nx (setBox i j (.dk false (putKs ks k) (putXs ks ds k d)) ρ)) else .bad
    | none => .bad)
  | _, _, _ => .bad) := rfl
@[simp] theorem nilP_ap : nilP ρ = .ok [] ρ := rfl
@[simp] theorem consP_ap : consP g h r ρ = (g ρ).bnd fun x => bnd h fun y => bnd r fun ps => ret ((x, y) :: ps) := rfl
@[simp] theorem dispM_ap : dispM r ρ = (r ρ).bnd fun ds => ofO (dispO ds) := rfl
@[simp] theorem lenK_k {lk : Bool} {ks : List Key} {ds : List D} : lenK [.dk lk ks ds] = some (.int ks.length) := rfl
end
@[simp] theorem isDk_k {lk : Bool} {ks : List Key} {ds : List D} : get2M.isDk (.dk lk ks ds) = some (.dk lk ks ds) := rfl
@[simp] theorem get2M_ap {g h i : M D} {ρ : Env} : get2M g h i ρ = (g ρ).bnd fun d => bnd (ofO (get2M.isDk d)) fun d => bnd h fun x => bnd i fun y => ofO (get2K d x y) := rfl
/-! a gathering -/
structure Gt where
  ag : List Str
  wk : List Str
  vi : List Nat
  gk : List Int
  gv : List Nat
def putG (n : Nat) (g : List Int × List Nat) (b : Int) : List Int × List Nat := if b ∈ g.1 then g else (g.1 ++ [b], g.2 ++ [n])
def putsG (n : Nat) (bs : List Int) (g : List Int × List Nat) : List Int × List Nat := bs.foldl (putG n) g
def alsoAt (cs : List C) (p : Nat) : List Str := match cs[p]? with
  | some c => c.al
  | none => []
def booksAt (cs : List C) (p : Nat) : List Int := match cs[p]? with
  | some c => c.bs
  | none => []
def nextAg (way : Str) (ag al : List Str) : List Str := if way = "broad" then ag ++ al else if way = "deep" then al ++ ag else al
def visitG (cs : List C) (way : Str) (g : Gt) (p : Nat) : Gt :=
  ⟨nextAg way g.ag (alsoAt cs p), g.wk, g.vi ++ [p], (putsG g.wk.length (booksAt cs p) (g.gk, g.gv)).1, (putsG g.wk.length (booksAt cs p) (g.gk, g.gv)).2⟩
def stepG (rule : Str) (cs : List C) (way : Str) (g : Gt) : Gt := match g.ag with
  | [] => g
  | h :: r => if h ∈ g.wk then { g with ag := r } else
    match (ld (wl rule cs h)).2 with
    | some p => if p ∈ g.vi then { g with ag := r, wk := g.wk ++ [h] } else visitG cs way { g with ag := r, wk := g.wk ++ [h] } p
    | none => { g with ag := r, wk := g.wk ++ [h] }
def gatN (rule : Str) (cs : List C) (way : Str) (pat : Nat) : Nat → Gt → Option Gt
  | 0, _ => none
  | n + 1, g => if g.ag = [] ∨ pat ≤ g.wk.length then some g else gatN rule cs way pat n (stepG rule cs way g)
theorem putG_len {n : Nat} {g : List Int × List Nat} {b : Int} (h : g.1.length = g.2.length) : (putG n g b).1.length = (putG n g b).2.length := by
  unfold putG; split
  · exact h
  · simp [h]
theorem putsG_len {n : Nat} : ∀ {bs : List Int} {g : List Int × List Nat}, g.1.length = g.2.length → (putsG n bs g).1.length = (putsG n bs g).2.length
  | [], _, h => h
  | b :: bs, g, h => putsG_len (bs := bs) (g := putG n g b) (putG_len h)
theorem putG_mem {n : Nat} {g : List Int × List Nat} {b x : Int} : x ∈ (putG n g b).1 ↔ x ∈ g.1 ∨ x = b := by
  unfold putG; split
  · rename_i h
    exact ⟨.inl, fun z => z.elim id fun e => by rw [e]; exact h⟩
  · simp
theorem putsG_mem {n : Nat} {x : Int} : ∀ {bs : List Int} {g : List Int × List Nat}, x ∈ (putsG n bs g).1 ↔ x ∈ g.1 ∨ x ∈ bs
  | [], g => by simp [putsG]
  | b :: bs, g => by
    have := putsG_mem (n := n) (x := x) (bs := bs) (g := putG n g b)
    rw [putG_mem] at this
    show x ∈ (putsG n bs (putG n g b)).1 ↔ _
    rw [this, List.mem_cons, or_assoc]
theorem putG_nd {n : Nat} {g : List Int × List Nat} {b : Int} (h : g.1.Nodup) : (putG n g b).1.Nodup := by
  unfold putG; split
  · exact h
  · rename_i hb
    rw [List.nodup_append]
    exact ⟨h, by simp, fun a ha c hc e => by simp at hc; subst hc; subst e; exact hb ha⟩
theorem putsG_nd {n : Nat} : ∀ {bs : List Int} {g : List Int × List Nat}, g.1.Nodup → (putsG n bs g).1.Nodup
  | [], _, h => h
  | b :: bs, g, h => putsG_nd (bs := bs) (g := putG n g b) (putG_nd h)
end MP
/-! gatherings: they end, what they keep -/
namespace MP
open PySem L2
theorem wk_lt {rule : Str} {cs : List C} : ∀ {n : Nat} {h : Str} {so : List Str} {st : List Nat} {ef : Nat} {r : Wr}, wk rule cs n h so st ef = some r → (∀ p ∈ st, p < cs.length) → ∀ p ∈ r.st, p < cs.length
  | 0, _, _, _, _, _, h, _ => by cases h
  | n + 1, h, so, st, ef, r, e, hs => by
    have hq : ∀ q, (lk rule (cs.map C.h) h).1 = some q → ∀ p ∈ st ++ [q], p < cs.length := fun q z p hp => by
      rcases List.mem_append.mp hp with y | y
      · exact hs p y
      · simp at y
        have := lk_lt z
        simp at this
        omega
    unfold wk at e
    split at e
    · cases e; exact hs
    · split at e
      · cases e; exact hs
      · rename_i q hl
        split at e
        · cases e; exact hq q hl
        · exact wk_lt e (hq q hl)
theorem ld_lt {rule : Str} {cs : List C} {h : Str} {p : Nat} (e : (ld (wl rule cs h)).2 = some p) : p < cs.length := by
  unfold ld at e
  dsimp only at e
  split at e
  · exact wk_lt (wl_eq rule cs h) (by simp) p (List.mem_of_getLast? e)
  · cases e
structure GOk (cs : List C) (g : Gt) : Prop where
  nv : g.vi.Nodup
  lv : ∀ p ∈ g.vi, p < cs.length
  nw : g.wk.Nodup
  lg : g.gk.length = g.gv.length
  ng : g.gk.Nodup
theorem nd_lenN : ∀ (a b : List Nat), a.Nodup → (∀ x ∈ a, x ∈ b) → a.length ≤ b.length
  | [], b, _, _ => by simp
  | x :: a, b, nd, h => by
    obtain ⟨n1, n2⟩ := List.nodup_cons.mp nd
    have hx : x ∈ b := h x (by simp)
    have := nd_lenN a (b.erase x) n2 fun y hy => (List.mem_erase_of_ne (fun (e : y = x) => n1 (by rw [← e]; exact hy))).mpr (h y (by simp [hy]))
    rw [List.length_erase_of_mem hx] at this
    have : 0 < b.length := List.length_pos_of_mem hx
    simp only [List.length_cons]
    omega
theorem GOk.vl {cs : List C} {g : Gt} (h : GOk cs g) : g.vi.length ≤ cs.length := by
  have := nd_lenN g.vi (List.range cs.length) h.nv fun x hx => List.mem_range.mpr (h.lv x hx)
  simpa using this
theorem nd_snoc {α : Type} {l : List α} {x : α} (h : l.Nodup) (hx : x ∉ l) : (l ++ [x]).Nodup := by
  rw [List.nodup_append]
  exact ⟨h, by simp, fun a ha b hb e => hx (by simp at hb; rw [← hb, ← e]; exact ha)⟩
theorem alsoAt_len {cs : List C} {A : Nat} (hA : ∀ c ∈ cs, c.al.length ≤ A) (p : Nat) : (alsoAt cs p).length ≤ A := by
  unfold alsoAt
  cases e : cs[p]? with
  | none => simp
  | some c => exact hA c (List.mem_of_getElem? e)
theorem nextAg_len (way : Str) (ag al : List Str) : (nextAg way ag al).length ≤ ag.length + al.length := by
  unfold nextAg; split
  · simp
  · split
    · simp; omega
    · omega
def mesG (A : Nat) (cs : List C) (g : Gt) : Nat := g.ag.length + A * (cs.length - g.vi.length)
theorem visit_ok {cs : List C} {way : Str} {g : Gt} {p : Nat} (h : GOk cs g) (hp : p < cs.length) (hn : p ∉ g.vi) : GOk cs (visitG cs way g p) :=
  ⟨nd_snoc h.nv hn, fun q hq => by
    rcases List.mem_append.mp hq with y | y
    · exact h.lv q y
    · simp at y; omega, h.nw, putsG_len h.lg, putsG_nd h.ng⟩
theorem step_ok {rule : Str} {cs : List C} {way : Str} {g : Gt} (h : GOk cs g) : GOk cs (stepG rule cs way g) := by
  unfold stepG
  split
  · exact h
  · rename_i x r e
    split
    · exact ⟨h.nv, h.lv, h.nw, h.lg, h.ng⟩
    · rename_i hx
      have g1 : GOk cs { g with ag := r, wk := g.wk ++ [x] } := ⟨h.nv, h.lv, nd_snoc h.nw hx, h.lg, h.ng⟩
      split
      · rename_i p hp
        split
        · exact g1
        · rename_i hv
          exact visit_ok g1 (ld_lt hp) hv
      · exact g1
theorem step_mes {rule : Str} {cs : List C} {way : Str} {g : Gt} {A : Nat} (hA : ∀ c ∈ cs, c.al.length ≤ A) (h : GOk cs g) (ha : g.ag ≠ []) : mesG A cs (stepG rule cs way g) < mesG A cs g := by
  unfold stepG
  split
  · rename_i e; exact (ha e).elim
  · rename_i x r e
    have e0 : g.ag.length = r.length + 1 := by rw [e]; rfl
    split
    · unfold mesG; dsimp only; omega
    · split
      · rename_i p hp
        split
        · unfold mesG; dsimp only; omega
        · rename_i hv
          have v1 := (visit_ok (way := way) (g := { g with ag := r, wk := g.wk ++ [x] }) (p := p) ⟨h.nv, h.lv, nd_snoc h.nw ‹_›, h.lg, h.ng⟩ (ld_lt hp) hv).vl
          have a1 := nextAg_len way r (alsoAt cs p)
          have a2 := alsoAt_len hA p
          unfold visitG at v1
          unfold mesG visitG
          dsimp only at v1 ⊢
          rw [List.length_append, List.length_singleton] at v1 ⊢
          have : cs.length - g.vi.length = (cs.length - (g.vi.length + 1)) + 1 := by omega
          rw [this, Nat.mul_succ]
          omega
      · unfold mesG; dsimp only; omega
theorem step_wk {rule : Str} {cs : List C} {way : Str} {g : Gt} : (stepG rule cs way g).wk.length ≤ g.wk.length + 1 := by
  unfold stepG
  split
  · omega
  · split
    · simp
    · split
      · split
        · simp
        · simp [visitG]
      · simp
/-- a gathering ends -/
theorem gat_ends {rule : Str} {cs : List C} {way : Str} {pat A : Nat} (hA : ∀ c ∈ cs, c.al.length ≤ A) : ∀ (n : Nat) (g : Gt), GOk cs g → mesG A cs g < n → ∃ r, gatN rule cs way pat n g = some r
  | 0, g, _, h => by omega
  | n + 1, g, ok, h => by
    unfold gatN
    by_cases hc : g.ag = [] ∨ pat ≤ g.wk.length
    · rw [if_pos hc]; exact ⟨_, rfl⟩
    · rw [if_neg hc]
      have := step_mes (rule := rule) (way := way) hA ok (fun e => hc (.inl e))
      exact gat_ends hA n _ (step_ok ok) (by omega)
def g0 (h : Str) : Gt := ⟨[h], [], [], [], []⟩
theorem g0_ok (cs : List C) (h : Str) : GOk cs (g0 h) := ⟨by simp [g0], by simp [g0], by simp [g0], by simp [g0], by simp [g0]⟩
/-- the gathering -/
def gt (rule : Str) (cs : List C) (way : Str) (pat : Nat) (h : Str) : Gt := (gatN rule cs way pat 400 (g0 h)).getD (g0 h)
theorem gt_eq {rule : Str} {cs : List C} {way : Str} {pat A : Nat} {h : Str} (hA : ∀ c ∈ cs, c.al.length ≤ A) (hl : A * cs.length < 399) : gatN rule cs way pat 400 (g0 h) = some (gt rule cs way pat h) := by
  obtain ⟨r, e⟩ := gat_ends (rule := rule) (way := way) (pat := pat) hA 400 (g0 h) (g0_ok cs h) (by unfold mesG g0; simp; omega)
  unfold gt
  rw [e]; rfl
/-- all bounds of a gathering under way -/
structure GB (cs : List C) (g : Gt) : Prop where
  ok : GOk cs g
  m : g.wk.length + mesG 4 cs g < 66
  k : g.gk.length ≤ 6 * g.vi.length
theorem putG_le {n : Nat} {g : List Int × List Nat} {b : Int} : (putG n g b).1.length ≤ g.1.length + 1 := by unfold putG; split <;> simp
theorem putsG_le {n : Nat} : ∀ {bs : List Int} {g : List Int × List Nat}, (putsG n bs g).1.length ≤ g.1.length + bs.length
  | [], _ => by simp [putsG]
  | b :: bs, g => by
    have := putsG_le (n := n) (bs := bs) (g := putG n g b)
    have h1 := putG_le (n := n) (g := g) (b := b)
    show (putsG n bs (putG n g b)).1.length ≤ _
    simp only [List.length_cons]
    omega
theorem booksAt_len {cs : List C} {A : Nat} (hA : ∀ c ∈ cs, c.bs.length ≤ A) (p : Nat) : (booksAt cs p).length ≤ A := by
  unfold booksAt
  cases e : cs[p]? with
  | none => simp
  | some c => exact hA c (List.mem_of_getElem? e)
theorem GB.step {rule : Str} {cs : List C} {way : Str} {g : Gt} (hA : ∀ c ∈ cs, c.al.length ≤ 4) (hB : ∀ c ∈ cs, c.bs.length ≤ 6) (h : GB cs g) (ha : g.ag ≠ []) : GB cs (stepG rule cs way g) := by
  have s1 := step_mes (rule := rule) (way := way) hA h.ok ha
  have s2 := step_wk (rule := rule) (cs := cs) (way := way) (g := g)
  have hm := h.m
  refine ⟨step_ok h.ok, by omega, ?_⟩
  have hk := h.k
  unfold stepG
  split
  · exact hk
  · split
    · exact hk
    · split
      · split
        · exact hk
        · unfold visitG
          dsimp only
          have := putsG_le (n := (g.wk ++ [‹Str›]).length) (bs := booksAt cs ‹Nat›) (g := (g.gk, g.gv))
          have b1 := booksAt_len hB ‹Nat›
          dsimp only at this
          simp only [List.length_append, List.length_singleton] at this ⊢
          omega
      · exact hk
theorem g0_GB {cs : List C} (hn : cs.length ≤ 16) (h : Str) : GB cs (g0 h) := ⟨g0_ok cs h, by unfold mesG g0; simp; omega, by simp [g0]⟩
theorem GB.ag {cs : List C} {g : Gt} (h : GB cs g) : g.ag.length < 400 := by have := h.m; unfold mesG at this; omega
theorem GB.wk {cs : List C} {g : Gt} (h : GB cs g) : g.wk.length < 400 := by have := h.m; omega
theorem GB.vi {cs : List C} {g : Gt} (hn : cs.length ≤ 16) (h : GB cs g) : g.vi.length ≤ 16 := by have := h.ok.vl; omega
theorem GB.gk {cs : List C} {g : Gt} (hn : cs.length ≤ 16) (h : GB cs g) : g.gk.length ≤ 96 := by have := h.vi hn; have := h.k; omega
theorem gat_GB {rule : Str} {cs : List C} {way : Str} {pat : Nat} (hA : ∀ c ∈ cs, c.al.length ≤ 4) (hB : ∀ c ∈ cs, c.bs.length ≤ 6) : ∀ {n : Nat} {g r : Gt}, gatN rule cs way pat n g = some r → GB cs g → GB cs r
  | 0, g, r, e, _ => by cases e
  | n + 1, g, r, e, ok => by
    unfold gatN at e
    split at e
    · cases e; exact ok
    · rename_i hc
      exact gat_GB hA hB e (ok.step hA hB fun z => hc (.inl z))
theorem gt_GB {rule : Str} {cs : List C} {way : Str} {pat : Nat} {h : Str} (hA : ∀ c ∈ cs, c.al.length ≤ 4) (hB : ∀ c ∈ cs, c.bs.length ≤ 6) (hn : cs.length ≤ 16) : GB cs (gt rule cs way pat h) :=
  gat_GB hA hB (gt_eq (rule := rule) (way := way) (pat := pat) (h := h) hA (by omega)) (g0_GB hn h)
end MP
/-! ints: sorted sets, sorted lists, sets' sizes; the same for places -/
namespace MP
open PySem PySem.Spec PyProof.Rows L2 PySem.SeqAt PySem.W
def addI (l : List Int) (k : Int) : List Int := if k ∈ l then l else k :: l
def uniqI (hs : List Int) : List Int := hs.foldl addI []
def srtI (hs : List Int) : List Int := sortI (uniqI hs)
theorem uniqK_ints (hs : List Int) : uniqK (hs.map Sum.inl) = (uniqI hs).map Sum.inl := by
  have key : ∀ (hs l : List Int), (hs.map (Sum.inl : Int → Key)).foldl addK (l.map Sum.inl) = (hs.foldl addI l).map Sum.inl := fun hs => by
    induction hs with
    | nil => intro l; rfl
    | cons h hs ih =>
      intro l
      rw [List.map_cons, List.foldl_cons, List.foldl_cons, ← ih]
      congr 1
      unfold addK addI
      by_cases q : h ∈ l
      · rw [if_pos q, if_pos (by simpa using q)]
      · rw [if_neg q, if_neg (by simpa using q)]; rfl
  exact key hs []
theorem uniqI_nd (hs : List Int) : (uniqI hs).Nodup := by
  have key : ∀ (hs l : List Int), l.Nodup → (hs.foldl addI l).Nodup := fun hs => by
    induction hs with
    | nil => exact fun l h => h
    | cons k ks ih =>
      intro l h
      rw [List.foldl_cons]
      refine ih _ ?_
      unfold addI
      split
      · exact h
      · next q => exact List.nodup_cons.mpr ⟨q, h⟩
  exact key hs [] List.nodup_nil
theorem uniqI_mem {hs : List Int} {z : Int} : z ∈ uniqI hs ↔ z ∈ hs := by
  have : (Sum.inl z : Key) ∈ uniqK (hs.map Sum.inl) ↔ (Sum.inl z : Key) ∈ hs.map Sum.inl := uniq_mem
  rw [uniqK_ints] at this
  simpa using this
theorem sortI_mem {hs : List Int} {z : Int} : z ∈ sortI hs ↔ z ∈ hs := List.mem_mergeSort
theorem sortI_perm (hs : List Int) : (sortI hs).Perm hs := List.mergeSort_perm _ _
theorem sortI_pw (hs : List Int) : (sortI hs).Pairwise (· ≤ ·) := by
  have := List.pairwise_mergeSort (le := fun x y : Int => decide (x ≤ y)) (fun a b c h1 h2 => by simp at *; omega) (fun a b => by simp; omega) hs
  exact this.imp fun h => by simpa using h
theorem sortI_lt {hs : List Int} (nd : hs.Nodup) : (sortI hs).Pairwise (· < ·) := by
  have h1 := sortI_pw hs
  have h2 : (sortI hs).Nodup := (sortI_perm hs).nodup_iff.mpr nd
  exact (h1.and h2).imp fun ⟨a, b⟩ => by omega
theorem srtI_mem {hs : List Int} {z : Int} : z ∈ srtI hs ↔ z ∈ hs := sortI_mem.trans uniqI_mem
theorem srtI_lt (hs : List Int) : (srtI hs).Pairwise (· < ·) := sortI_lt (uniqI_nd hs)
/-- .. with None behind it filtered: places -/
def ofN (l : List Nat) : List Int := l.map Int.ofNat
theorem ofN_mem {l : List Nat} {n : Nat} : (n : Int) ∈ ofN l ↔ n ∈ l := by
  unfold ofN
  rw [List.mem_map]
  exact ⟨fun ⟨a, h, e⟩ => by cases e; exact h, fun h => ⟨n, h, rfl⟩⟩
def srtN (l : List Nat) : List Nat := (srtI (ofN l)).map Int.toNat
theorem srtN_ofN (l : List Nat) : ofN (srtN l) = srtI (ofN l) := by
  unfold srtN ofN
  rw [List.map_map]
  have : ∀ z ∈ srtI (l.map Int.ofNat), (Int.ofNat ∘ Int.toNat) z = id z := fun z hz => by
    rw [srtI_mem] at hz
    obtain ⟨a, _, rfl⟩ := List.mem_map.mp hz
    rfl
  rw [List.map_congr_left this, List.map_id]
theorem srtN_mem {l : List Nat} {n : Nat} : n ∈ srtN l ↔ n ∈ l := by
  rw [← ofN_mem, srtN_ofN, srtI_mem, ofN_mem]
theorem srtN_lt (l : List Nat) : (srtN l).Pairwise (· < ·) := by
  have := srtI_lt (ofN l)
  rw [← srtN_ofN] at this
  unfold ofN at this
  rw [List.pairwise_map] at this
  exact this.imp fun h => Int.ofNat_lt.mp h
theorem ltN_nd {l : List Nat} (h : l.Pairwise (· < ·)) : l.Nodup := by
  rw [List.nodup_iff_pairwise_ne]
  exact h.imp fun h => by omega
/-! sorted lists of ints -/
end MP
/-! what a heading reaches -/
namespace MP
open PySem L2
/-- the landing of a heading -/
def Ld (rule : Str) (cs : List C) (x : Str) : Option Nat := (ld (wl rule cs x)).2
inductive Hrc (rule : Str) (cs : List C) (h : Str) : Str → Prop
  | base : Hrc rule cs h h
  | step {x y : Str} {p : Nat} : Hrc rule cs h x → Ld rule cs x = some p → y ∈ alsoAt cs p → Hrc rule cs h y
def Prc (rule : Str) (cs : List C) (h : Str) (p : Nat) : Prop := ∃ x, Hrc rule cs h x ∧ Ld rule cs x = some p
theorem Prc.lt {rule : Str} {cs : List C} {h : Str} {p : Nat} (r : Prc rule cs h p) : p < cs.length := by
  obtain ⟨x, _, e⟩ := r; exact ld_lt e
structure Grc (rule : Str) (cs : List C) (h : Str) (g : Gt) : Prop where
  ag : ∀ x ∈ g.ag, Hrc rule cs h x
  wk : ∀ x ∈ g.wk, Hrc rule cs h x
  vi : ∀ p ∈ g.vi, Prc rule cs h p
  gk : ∀ b, b ∈ g.gk ↔ ∃ p ∈ g.vi, b ∈ booksAt cs p
theorem nextAg_mem {way : Str} {ag al : List Str} {x : Str} (h : x ∈ nextAg way ag al) : x ∈ ag ∨ x ∈ al := by
  unfold nextAg at h
  split at h
  · exact List.mem_append.mp h
  · split at h
    · exact (List.mem_append.mp h).symm
    · exact .inr h
theorem Grc.step {rule way : Str} {cs : List C} {h : Str} {g : Gt} (r : Grc rule cs h g) : Grc rule cs h (stepG rule cs way g) := by
  unfold stepG
  split
  · exact r
  · rename_i x t e
    have hx : Hrc rule cs h x := r.ag x (by rw [e]; simp)
    have ht : ∀ y ∈ t, Hrc rule cs h y := fun y hy => r.ag y (by rw [e]; simp [hy])
    have hw : ∀ y ∈ g.wk ++ [x], Hrc rule cs h y := fun y hy => by
      rcases List.mem_append.mp hy with z | z
      · exact r.wk y z
      · simp at z; rw [z]; exact hx
    split
    · exact ⟨ht, r.wk, r.vi, r.gk⟩
    · split
      · rename_i p hp
        split
        · exact ⟨ht, hw, r.vi, r.gk⟩
        · have pp : Prc rule cs h p := ⟨x, hx, hp⟩
          refine ⟨fun y hy => ?_, hw, fun q hq => ?_, fun b => ?_⟩
          · rcases nextAg_mem hy with z | z
            · exact ht y z
            · exact .step hx hp z
          · rcases List.mem_append.mp hq with z | z
            · exact r.vi q z
            · simp at z; rw [z]; exact pp
          · show b ∈ (putsG _ (booksAt cs p) (g.gk, g.gv)).1 ↔ ∃ q ∈ g.vi ++ [p], b ∈ booksAt cs q
            rw [putsG_mem]
            dsimp only
            rw [r.gk b]
            constructor
            · rintro (⟨q, h1, h2⟩ | z)
              · exact ⟨q, by simp [h1], h2⟩
              · exact ⟨p, by simp, z⟩
            · rintro ⟨q, h1, h2⟩
              rcases List.mem_append.mp h1 with z | z
              · exact .inl ⟨q, z, h2⟩
              · simp at z; rw [z] at h2; exact .inr h2
      · exact ⟨ht, hw, r.vi, r.gk⟩
structure Gcc (rule : Str) (cs : List C) (h : Str) (g : Gt) : Prop where
  h0 : h ∈ g.ag ∨ h ∈ g.wk
  a : ∀ p ∈ g.vi, ∀ y ∈ alsoAt cs p, y ∈ g.ag ∨ y ∈ g.wk
  w : ∀ x ∈ g.wk, ∀ p, Ld rule cs x = some p → p ∈ g.vi
theorem Gcc.step {rule way : Str} {cs : List C} {h : Str} {g : Gt} (hw : way = "broad" ∨ way = "deep") (r : Gcc rule cs h g) : Gcc rule cs h (stepG rule cs way g) := by
  have hn : ∀ (ag al : List Str) (x : Str), x ∈ ag ∨ x ∈ al → x ∈ nextAg way ag al := fun ag al x q => by
    unfold nextAg
    rcases hw with rfl | rfl
    · rw [if_pos rfl]; exact List.mem_append.mpr q
    · rw [if_neg (by decide), if_pos rfl]; exact List.mem_append.mpr q.symm
  unfold stepG
  split
  · exact r
  · rename_i x t e
    have sp : ∀ y, y ∈ g.ag ∨ y ∈ g.wk → y ∈ t ∨ y ∈ g.wk ++ [x] := fun y q => by
      rcases q with q | q
      · rw [e] at q
        rcases List.mem_cons.mp q with z | z
        · exact .inr (by simp [z])
        · exact .inl z
      · exact .inr (by simp [q])
    split
    · rename_i hx
      have sp : ∀ y, y ∈ g.ag ∨ y ∈ g.wk → y ∈ t ∨ y ∈ g.wk := fun y q => by
        rcases q with q | q
        · rw [e] at q
          rcases List.mem_cons.mp q with z | z
          · rw [z]; exact .inr hx
          · exact .inl z
        · exact .inr q
      exact ⟨sp h r.h0, fun p hp y hy => sp y (r.a p hp y hy), r.w⟩
    · have hw1 : ∀ P : Nat → Prop, (∀ p, Ld rule cs x = some p → P p) → (∀ p, p ∈ g.vi → P p) → ∀ y ∈ g.wk ++ [x], ∀ p, Ld rule cs y = some p → P p := fun P h1 h2 y hy p hp => by
        rcases List.mem_append.mp hy with z | z
        · exact h2 p (r.w y z p hp)
        · simp at z; rw [z] at hp; exact h1 p hp
      split
      · rename_i p hp
        split
        · rename_i hv
          exact ⟨sp h r.h0, fun p hp y hy => sp y (r.a p hp y hy), hw1 _ (fun q hq => by have : some p = some q := hp.symm.trans hq; cases this; exact hv) fun _ z => z⟩
        · refine ⟨?_, fun q hq y hy => ?_, hw1 _ (fun q hq => ?_) fun q hq => ?_⟩
          · rcases sp h r.h0 with z | z
            · exact .inl (hn _ _ _ (.inl z))
            · exact .inr z
          · rcases List.mem_append.mp hq with z | z
            · rcases sp y (r.a q z y hy) with z | z
              · exact .inl (hn _ _ _ (.inl z))
              · exact .inr z
            · simp at z; rw [z] at hy; exact .inl (hn _ _ _ (.inr hy))
          · have : some p = some q := hp.symm.trans hq
            cases this
            show p ∈ g.vi ++ [p]
            simp
          · show q ∈ g.vi ++ [p]
            simp [hq]
      · rename_i hp
        exact ⟨sp h r.h0, fun p hp y hy => sp y (r.a p hp y hy), hw1 _ (fun q hq => by have : none = some q := hp.symm.trans hq; cases this) fun _ z => z⟩
theorem gat_inv {rule way : Str} {cs : List C} {pat : Nat} (I : Gt → Prop) (hs : ∀ g, I g → I (stepG rule cs way g)) : ∀ {n : Nat} {g r : Gt}, gatN rule cs way pat n g = some r → I g → I r
  | 0, _, _, e, _ => by cases e
  | n + 1, g, r, e, h => by
    unfold gatN at e
    split at e
    · cases e; exact h
    · exact gat_inv I hs e (hs g h)
structure Few (cs : List C) : Prop where
  a : ∀ c ∈ cs, c.al.length ≤ 4
  b : ∀ c ∈ cs, c.bs.length ≤ 6
  n : cs.length ≤ 16
section
variable {rule way : Str} {cs : List C} {pat : Nat} {h : Str} (F : Few cs)
theorem Few.eq (F : Few cs) : gatN rule cs way pat 400 (g0 h) = some (gt rule cs way pat h) := gt_eq F.a (by have := F.n; omega)
theorem Few.gb (F : Few cs) : GB cs (gt rule cs way pat h) := gt_GB F.a F.b F.n
theorem gt_GR (F : Few cs) : Grc rule cs h (gt rule cs way pat h) := gat_inv _ (fun _ r => r.step) F.eq ⟨fun x hx => by simp [g0] at hx; rw [hx]; exact .base, by simp [g0], by simp [g0], by simp [g0]⟩
/-- straight ones to some -/
theorem gt_sub (F : Few cs) (b : Int) (hb : b ∈ (gt rule cs way pat h).gk) : ∃ p, Prc rule cs h p ∧ b ∈ booksAt cs p := by
  obtain ⟨p, h1, h2⟩ := ((gt_GR F).gk b).mp hb
  exact ⟨p, (gt_GR F).vi p h1, h2⟩
end
/-! the law's own reach, level by level -/
def lvN (met : List Nat) (level : List (Option Nat)) : List Nat := (srtN (level.filterMap id)).filter fun p => !decide (p ∈ met)
def latN (rule : Str) (cs : List C) (ps : List Nat) : List (Option Nat) := ps.flatMap fun p => (alsoAt cs p).map (Ld rule cs)
def rcN (rule : Str) (cs : List C) : Nat → List Nat → List (Option Nat) → Option (List Nat)
  | 0, _, _ => none
  | n + 1, met, level => if level = [] then some met else rcN rule cs n (met ++ lvN met level) (latN rule cs (lvN met level))
section
variable {rule : Str} {cs : List C} {h : Str}
theorem lvN_mem {met : List Nat} {level : List (Option Nat)} {p : Nat} : p ∈ lvN met level ↔ some p ∈ level ∧ p ∉ met := by
  unfold lvN
  rw [List.mem_filter, srtN_mem, List.mem_filterMap]
  constructor
  · rintro ⟨⟨a, h1, h2⟩, h3⟩
    exact ⟨by rw [← show a = some p from h2]; exact h1, by simpa using h3⟩
  · rintro ⟨h1, h2⟩
    exact ⟨⟨some p, h1, rfl⟩, by simpa using h2⟩
theorem lvN_nd (met : List Nat) (level : List (Option Nat)) : (lvN met level).Nodup := (ltN_nd (srtN_lt _)).filter _
theorem latN_mem {ps : List Nat} {q : Nat} : some q ∈ latN rule cs ps ↔ ∃ p ∈ ps, ∃ y ∈ alsoAt cs p, Ld rule cs y = some q := by
  unfold latN
  rw [List.mem_flatMap]
  constructor
  · rintro ⟨p, h1, h2⟩
    obtain ⟨y, h3, h4⟩ := List.mem_map.mp h2
    exact ⟨p, h1, y, h3, h4⟩
  · rintro ⟨p, h1, y, h3, h4⟩
    exact ⟨p, h1, List.mem_map.mpr ⟨y, h3, h4⟩⟩
structure RcI (rule : Str) (cs : List C) (h : Str) (met : List Nat) (level : List (Option Nat)) : Prop where
  nd : met.Nodup
  sm : ∀ p ∈ met, Prc rule cs h p
  sl : ∀ p, some p ∈ level → Prc rule cs h p
  c0 : ∀ p, Ld rule cs h = some p → p ∈ met ∨ some p ∈ level
  ca : ∀ p ∈ met, ∀ y ∈ alsoAt cs p, ∀ q, Ld rule cs y = some q → q ∈ met ∨ some q ∈ level
theorem RcI.init : RcI rule cs h [] [Ld rule cs h] := ⟨by simp, by simp, fun p hp => ⟨h, .base, (by simpa using hp : some p = Ld rule cs h).symm⟩, fun p hp => .inr (by simp [hp]), by simp⟩
theorem RcI.step {met : List Nat} {level : List (Option Nat)} (r : RcI rule cs h met level) : RcI rule cs h (met ++ lvN met level) (latN rule cs (lvN met level)) := by
  have up : ∀ p, p ∈ met ∨ some p ∈ level → p ∈ met ++ lvN met level := fun p q => by
    by_cases hm : p ∈ met
    · simp [hm]
    · exact List.mem_append.mpr (.inr (lvN_mem.mpr ⟨q.resolve_left hm, hm⟩))
  have sm : ∀ p ∈ met ++ lvN met level, Prc rule cs h p := fun p hp => by
    rcases List.mem_append.mp hp with z | z
    · exact r.sm p z
    · exact r.sl p (lvN_mem.mp z).1
  refine ⟨?_, sm, fun q hq => ?_, fun p hp => .inl (up p (r.c0 p hp)), fun p hp y hy q hq => ?_⟩
  · rw [List.nodup_append]
    exact ⟨r.nd, lvN_nd _ _, fun a ha b hb e => (lvN_mem.mp hb).2 (by rw [← e]; exact ha)⟩
  · obtain ⟨p, hp, y, hy, e⟩ := latN_mem.mp hq
    obtain ⟨x, hx, ex⟩ := r.sl p (lvN_mem.mp hp).1
    exact ⟨y, .step hx ex hy, e⟩
  · rcases List.mem_append.mp hp with z | z
    · exact .inl (up q (r.ca p z y hy q hq))
    · exact .inr (latN_mem.mpr ⟨p, z, y, hy, hq⟩)
theorem RcI.len {met : List Nat} {level : List (Option Nat)} (r : RcI rule cs h met level) : met.length ≤ cs.length := by
  have := nd_lenN met (List.range cs.length) r.nd fun x hx => List.mem_range.mpr (r.sm x hx).lt
  simpa using this
/-- the places that are met -/
def rc (rule : Str) (cs : List C) (h : Str) : List Nat := (rcN rule cs 20 [] [Ld rule cs h]).getD []
end
end MP
/-! comprehensions over one name, lists of perhaps-places -/
namespace MP
open PySem L2
@[simp] theorem sortM_ap {g : M D} {ρ : Env} : sortM g ρ = (g ρ).bnd fun d => ofO (sortO d) := rfl
theorem restore_set {ρ : Env} {i : Nat} {d : D} (hi : i < ρ.length) : restore [i] ρ (ρ.set i d) = ρ := by
  unfold restore look
  simp [List.getD_eq_getElem?_getD, List.getElem?_eq_getElem hi]
theorem lcM {α : Type} {i : Nat} {g : M D} {ρ : Env} (enc f : α → D) {L : List α} (hi : i < ρ.length) (h : ∀ a ∈ L, g (ρ.set i (enc a)) = .ok (f a) (ρ.set i (enc a))) : lcL (bName i) yesM g [i] (L.map enc) ρ [] = .ok (L.map f) ρ :=
  lc_mapA enc f fun a ha => ⟨ρ.set i (enc a), rfl, h a ha, restore_set hi⟩
theorem lcF {α : Type} {i : Nat} {c : M Bool} {g : M D} {ρ : Env} (enc : α → D) (p : α → Bool) (f : α → D) {L : List α} (hi : i < ρ.length) (h : ∀ a ∈ L, c (ρ.set i (enc a)) = .ok (p a) (ρ.set i (enc a))) (h2 : ∀ a ∈ L, p a = true → g (ρ.set i (enc a)) = .ok (f a) (ρ.set i (enc a))) : lcL (bName i) c g [i] (L.map enc) ρ [] = .ok ((L.filter p).map f) ρ :=
  lc_mapF enc p f fun a ha => ⟨ρ.set i (enc a), rfl, h a ha, fun q => h2 a ha q, restore_set hi⟩
/-- things kept as they are -/
theorem lcK {α : Type} {i : Nat} {c : M Bool} {ρ : Env} (enc : α → D) (p : α → Bool) {L : List α} (hi : i < ρ.length) (h : ∀ a ∈ L, c (ρ.set i (enc a)) = .ok (p a) (ρ.set i (enc a))) : lcL (bName i) c (vD i) [i] (L.map enc) ρ [] = .ok ((L.filter p).map enc) ρ :=
  lcF enc p enc hi h fun a _ _ => by
    show Res.ok (look (ρ.set i (enc a)) i) _ = _
    rw [look_set hi, if_pos rfl]
@[simp] theorem purs_encO (l : List (Option Nat)) : purs (l.map encO) = true := purs_map _ _ fun o _ => by cases o <;> rfl
/-! few different books -/
theorem nd_lenI : ∀ (a b : List Int), a.Nodup → (∀ x ∈ a, x ∈ b) → a.length ≤ b.length
  | [], b, _, _ => by simp
  | x :: a, b, nd, h => by
    obtain ⟨n1, n2⟩ := List.nodup_cons.mp nd
    have hx : x ∈ b := h x (by simp)
    have := nd_lenI a (b.erase x) n2 fun y hy => (List.mem_erase_of_ne (fun (e : y = x) => n1 (by rw [← e]; exact hy))).mpr (h y (by simp [hy]))
    rw [List.length_erase_of_mem hx] at this
    have : 0 < b.length := List.length_pos_of_mem hx
    simp only [List.length_cons]
    omega
theorem uniq_sub {l m : List Int} (h : ∀ x ∈ l, x ∈ m) : (uniqI l).length ≤ (uniqI m).length := nd_lenI _ _ (uniqI_nd l) fun x hx => uniqI_mem.mpr (h x (uniqI_mem.mp hx))
structure Fu (cs : List C) : Prop extends Few cs where
  u : (uniqI (cs.flatMap C.bs)).length < 64
theorem booksAt_all {cs : List C} {p : Nat} {b : Int} (h : b ∈ booksAt cs p) : b ∈ cs.flatMap C.bs := by
  unfold booksAt at h
  cases e : cs[p]? with
  | none => rw [e] at h; cases h
  | some c => rw [e] at h; exact List.mem_flatMap.mpr ⟨c, List.mem_of_getElem? e, h⟩
section
variable {cs : List C} (F : Fu cs)
theorem Fu.sub (F : Fu cs) {l : List Int} (h : ∀ b ∈ l, b ∈ cs.flatMap C.bs) : (uniqI l).length < 64 := by
  have := uniq_sub h
  have := F.u
  omega
theorem Fu.nd (F : Fu cs) {l : List Int} (nd : l.Nodup) (h : ∀ b ∈ l, b ∈ cs.flatMap C.bs) : l.length < 64 := by
  have := nd_lenI l (uniqI (cs.flatMap C.bs)) nd fun x hx => uniqI_mem.mpr (h x hx)
  have := F.u
  omega
theorem Fu.gk (F : Fu cs) {rule way h : Str} {pat : Nat} : (gt rule cs way pat h).gk.length < 64 := F.nd F.gb.ok.ng fun b hb => by
  obtain ⟨p, _, h2⟩ := gt_sub F.toFew b hb
  exact booksAt_all h2
theorem Fu.rc (F : Fu cs) {rule h : Str} : (uniqI ((rc rule cs h).flatMap (booksAt cs))).length < 64 := F.sub fun b hb => by
  obtain ⟨p, _, h2⟩ := List.mem_flatMap.mp hb
  exact booksAt_all h2
end
end MP
/-! patience: what is gathered with less is gathered with more, by the same walks -/
namespace MP
open PySem L2
section
variable {rule way : Str} {cs : List C}
/-- g2 has what g1 has, and more by later walks -/
def Ext (n : Nat) (g1 g2 : Gt) : Prop := g1.wk.length ≤ g2.wk.length ∧ ∃ ks vs, g2.gk = g1.gk ++ ks ∧ g2.gv = g1.gv ++ vs ∧ ks.length = vs.length ∧ ∀ v ∈ vs, n < v
theorem Ext.refl {n : Nat} {g : Gt} : Ext n g g := ⟨Nat.le_refl _, [], [], by simp, by simp, rfl, by simp⟩
theorem Ext.trans {n : Nat} {a b c : Gt} (x : Ext n a b) (y : Ext n b c) : Ext n a c := by
  obtain ⟨w1, k1, v1, e1, f1, l1, h1⟩ := x
  obtain ⟨w2, k2, v2, e2, f2, l2, h2⟩ := y
  refine ⟨Nat.le_trans w1 w2, k1 ++ k2, v1 ++ v2, by rw [e2, e1]; simp, by rw [f2, f1]; simp, by simp [l1, l2], fun v hv => ?_⟩
  rcases List.mem_append.mp hv with z | z
  · exact h1 v z
  · exact h2 v z
variable {h : Str}
end
/-- the value of a key -/
def valN : List Int → List Nat → Int → Option Nat
  | k :: ks, v :: vs, b => if k = b then some v else valN ks vs b
  | _, _, _ => none
end MP
/-! what leads to what, over further headings: closures -/
namespace MP
open PySem L2
@[simp] theorem popM_ap {j : Nat} {ρ : Env} : popM j ρ = (match look ρ j with
  | .lst rs => (match rs[rs.length - 1]? with
    | some y => .ok y (ρ.set j (.lst rs.dropLast))
    | none => .bad)
  | _ => .bad) := rfl
section
variable (w : Nat → List Nat)
inductive Tc (k : Nat) : Nat → Prop
  | one {j : Nat} : j ∈ w k → Tc k j
  | step {g j : Nat} : Tc k g → j ∈ w g → Tc k j
structure DfI (k : Nat) (st met : List Nat) : Prop where
  nd : met.Nodup
  ss : ∀ x ∈ st, Tc w k x
  sm : ∀ x ∈ met, Tc w k x
  c0 : ∀ y ∈ w k, y ∈ st ∨ y ∈ met
  cm : ∀ x ∈ met, ∀ y ∈ w x, y ∈ st ∨ y ∈ met
variable {w}
theorem DfI.init (k : Nat) : DfI w k (w k) [] := ⟨by simp, fun x hx => .one hx, by simp, fun y hy => .inl hy, by simp⟩
theorem last_split {st : List Nat} {x : Nat} (h : st.getLast? = some x) : st = st.dropLast ++ [x] := by
  obtain ⟨ys, rfl⟩ := List.getLast?_eq_some_iff.mp h
  simp
theorem DfI.old {k : Nat} {st met : List Nat} {x : Nat} (I : DfI w k st met) (h : st.getLast? = some x) (hm : x ∈ met) : DfI w k st.dropLast met := by
  have sp : ∀ y, y ∈ st ∨ y ∈ met → y ∈ st.dropLast ∨ y ∈ met := fun y q => by
    rcases q with q | q
    · rw [last_split h] at q
      rcases List.mem_append.mp q with z | z
      · exact .inl z
      · simp at z; rw [z]; exact .inr hm
    · exact .inr q
  exact ⟨I.nd, fun y hy => I.ss y (by rw [last_split h]; simp [hy]), I.sm, fun y hy => sp y (I.c0 y hy), fun z hz y hy => sp y (I.cm z hz y hy)⟩
theorem DfI.new {k : Nat} {st met : List Nat} {x : Nat} (I : DfI w k st met) (h : st.getLast? = some x) (hm : x ∉ met) : DfI w k (st.dropLast ++ w x) (met ++ [x]) := by
  have hx : Tc w k x := I.ss x (by rw [last_split h]; simp)
  have sp : ∀ y, y ∈ st ∨ y ∈ met → y ∈ st.dropLast ++ w x ∨ y ∈ met ++ [x] := fun y q => by
    rcases q with q | q
    · rw [last_split h] at q
      rcases List.mem_append.mp q with z | z
      · exact .inl (by simp [z])
      · exact .inr (by simp at z; simp [z])
    · exact .inr (by simp [q])
  refine ⟨nd_snoc I.nd hm, fun y hy => ?_, fun y hy => ?_, fun y hy => sp y (I.c0 y hy), fun z hz y hy => ?_⟩
  · rcases List.mem_append.mp hy with z | z
    · exact I.ss y (by rw [last_split h]; simp [z])
    · exact .step hx z
  · rcases List.mem_append.mp hy with z | z
    · exact I.sm y z
    · simp at z; rw [z]; exact hx
  · rcases List.mem_append.mp hz with q | q
    · exact sp y (I.cm z q y hy)
    · simp at q; rw [q] at hy; exact .inl (by simp [hy])
theorem Tc.lt {N k x : Nat} (hw : ∀ p, ∀ q ∈ w p, q < N) (t : Tc w k x) : x < N := by
  cases t with
  | one h => exact hw _ _ h
  | step _ h => exact hw _ _ h
theorem DfI.len {N k : Nat} {st met : List Nat} (hw : ∀ p, ∀ q ∈ w p, q < N) (I : DfI w k st met) : met.length ≤ N := by
  have := nd_lenN met (List.range N) I.nd fun x hx => List.mem_range.mpr ((I.sm x hx).lt hw)
  simpa using this
/-! round by round -/
end
end MP
/-! drawers that are alike: walks, reaches of the one are those of the other -/
namespace MP
open PySem L2
inductive F2 {α β : Type} (R : α → β → Prop) : List α → List β → Prop
  | nil : F2 R [] []
  | cons {a : α} {b : β} {l : List α} {m : List β} : R a b → F2 R l m → F2 R (a :: l) (b :: m)
section
variable {α β : Type} {R : α → β → Prop}
theorem F2.snoc : ∀ {l : List α} {m : List β} {a : α} {b : β}, F2 R l m → R a b → F2 R (l ++ [a]) (m ++ [b])
  | _, _, _, _, .nil, h => .cons h .nil
  | _, _, _, _, .cons r t, h => .cons r (t.snoc h)
theorem F2.len : ∀ {l : List α} {m : List β}, F2 R l m → l.length = m.length
  | _, _, .nil => rfl
  | _, _, .cons _ t => congrArg (· + 1) t.len
theorem F2.eq : ∀ {l m : List α}, F2 (fun a b : α => a = b) l m → l = m
  | _, _, .nil => rfl
  | _, _, .cons r t => by rw [r, t.eq]
end
/-- cs by r1 and ds by r2 are alike on the headings of U: headings x there are f x here, cards c there are g c here, places are related by pl, looks by E -/
structure Sm (r1 r2 : Str) (cs ds : List C) (U : Str → Prop) (f : Str → Str) (g : C → C) (pl : Nat → Nat → Prop) (E : Nat → Nat → Prop) : Prop where
  inj : ∀ x y, U x → U y → f x = f y → x = y
  no : ∀ x, U x → (lk r1 (cs.map C.h) x).1 = none → (lk r2 (ds.map C.h) (f x)).1 = none
  so : ∀ x p, U x → (lk r1 (cs.map C.h) x).1 = some p → ∃ q c, (lk r2 (ds.map C.h) (f x)).1 = some q ∧ cs[p]? = some c ∧ ds[q]? = some (g c) ∧ pl p q
  se : ∀ x p c, U x → (lk r1 (cs.map C.h) x).1 = some p → cs[p]? = some c → (c.see = "" → (g c).see = "") ∧ (c.see ≠ "" → (g c).see = f c.see ∧ f c.see ≠ "" ∧ U c.see)
  al : ∀ x p c, U x → (lk r1 (cs.map C.h) x).1 = some p → cs[p]? = some c → (g c).al = c.al.map f ∧ ∀ y ∈ c.al, U y
  ef : ∀ x, U x → E (lk r1 (cs.map C.h) x).2.length (lk r2 (ds.map C.h) (f x)).2.length
  e0 : E 0 0
  ea : ∀ a b c d, E a b → E c d → E (a + c) (b + d)
section
variable {r1 r2 : Str} {cs ds : List C} {U : Str → Prop} {f : Str → Str} {g : C → C} {pl : Nat → Nat → Prop} {E : Nat → Nat → Prop}
theorem see_some {cs : List C} {p : Nat} {c : C} (h : cs[p]? = some c) : see cs p = c.see := by unfold see; rw [h]; rfl
theorem Sm.mem (S : Sm r1 r2 cs ds U f g pl E) {x : Str} {so : List Str} (hx : U x) (hs : ∀ y ∈ so, U y) : f x ∈ so.map f ↔ x ∈ so := by
  rw [List.mem_map]
  exact ⟨fun ⟨y, h1, h2⟩ => by rw [← S.inj y x (hs y h1) hx h2]; exact h1, fun h => ⟨x, h, rfl⟩⟩
theorem Sm.wk (S : Sm r1 r2 cs ds U f g pl E) : ∀ {n : Nat} {h : Str} {so : List Str} {st st' : List Nat} {ef ef' : Nat} {r : Wr}, wk r1 cs n h so st ef = some r → U h → (∀ y ∈ so, U y) → F2 pl st st' → E ef ef' →
    ∃ r', MP.wk r2 ds n (f h) (so.map f) st' ef' = some r' ∧ r'.w = r.w ∧ r'.so = r.so.map f ∧ F2 pl r.st r'.st ∧ E r.ef r'.ef ∧ (∀ p c, r.w = "entry" → r.st.getLast? = some p → cs[p]? = some c → ∃ x, U x ∧ (lk r1 (cs.map C.h) x).1 = some p)
  | 0, _, _, _, _, _, _, _, e, _, _, _, _ => by cases e
  | n + 1, h, so, st, st', ef, ef', r, e, hh, hs, hp, he => by
    unfold MP.wk at e ⊢
    have m := S.mem hh hs
    by_cases hm : h ∈ so
    · rw [if_pos hm] at e
      cases e
      rw [if_pos (m.mpr hm)]
      exact ⟨_, rfl, rfl, rfl, hp, he, fun p c w _ _ => absurd (show ("ring" : Str) = "entry" from w) (by decide)⟩
    · rw [if_neg hm] at e
      rw [if_neg fun z => hm (m.mp z)]
      have ee := S.ea _ _ _ _ he (S.ef h hh)
      have sm : so.map f ++ [f h] = (so ++ [h]).map f := by simp
      have us : ∀ y ∈ so ++ [h], U y := fun y hy => by
        rcases List.mem_append.mp hy with z | z
        · exact hs y z
        · simp at z; rw [z]; exact hh
      cases hl : (lk r1 (cs.map C.h) h).1 with
      | none =>
        rw [hl] at e
        rw [S.no h hh hl]
        cases e
        exact ⟨_, rfl, rfl, sm, hp, ee, fun p c w _ _ => absurd (show ("lost" : Str) = "entry" from w) (by decide)⟩
      | some p =>
        rw [hl] at e
        obtain ⟨q, c, h1, h2, h3, h4⟩ := S.so h p hh hl
        rw [h1]
        dsimp only at e ⊢
        rw [see_some h2] at e
        rw [see_some h3]
        obtain ⟨s1, s2⟩ := S.se h p c hh hl h2
        by_cases es : c.see = ""
        · rw [if_pos es] at e
          cases e
          rw [if_pos (s1 es)]
          refine ⟨_, rfl, rfl, sm, hp.snoc h4, ee, fun p' c' _ l _ => ⟨h, hh, ?_⟩⟩
          simp at l
          rw [← l]; exact hl
        · obtain ⟨s3, s4, s5⟩ := s2 es
          rw [if_neg es] at e
          rw [s3, if_neg s4, sm]
          exact S.wk e s5 us (hp.snoc h4) ee
end
/-! by the rule all: the first cards -/
end MP
/-! drawers without some cards; ascending tuples of places -/
namespace MP
open PySem L2
def okx (s : List Nat) (p : Nat) : Bool := match s.getLast? with
  | none => true
  | some l => decide (l < p)
def ext (n : Nat) (s : List Nat) : List (List Nat) := ((List.range n).filter (okx s)).map fun p => s ++ [p]
/-! kept cards, one after another -/
end MP
/-! rings of headings -/
namespace MP
open PySem L2
/-- the heading to which a heading leads -/
def stp (rule : Str) (cs : List C) (x : Str) : Option Str := match (lk rule (cs.map C.h) x).1 with
  | none => none
  | some p => if see cs p = "" then none else some (see cs p)
section
variable {s : Str → Option Str}
def itN (s : Str → Option Str) : Nat → Str → Option Str
  | 0, x => some x
  | n + 1, x => (itN s n x).bind s
theorem itN_add {x : Str} : ∀ (a b : Nat), itN s (a + b) x = (itN s a x).bind (itN s b)
  | a, 0 => by simp [itN]
  | a, b + 1 => by
    show (itN s (a + b) x).bind s = _
    rw [itN_add a b, Option.bind_assoc]
    rfl
theorem itN_none {x : Str} {a : Nat} (h : itN s a x = none) (b : Nat) : itN s (a + b) x = none := by rw [itN_add, h]; rfl
theorem itN_some {x y : Str} {a b : Nat} (h : itN s b x = some y) (hab : a ≤ b) : ∃ z, itN s a x = some z := by
  cases e : itN s a x with
  | some z => exact ⟨z, rfl⟩
  | none =>
    have := itN_none e (b - a)
    rw [show a + (b - a) = b by omega, h] at this
    cases this
/-- x comes again after t steps, and not before -/
structure Per (s : Str → Option Str) (t : Nat) (x : Str) : Prop where
  pos : 1 ≤ t
  on : itN s t x = some x
  mn : ∀ j, 1 ≤ j → j < t → itN s j x ≠ some x
theorem per_of {x : Str} : ∀ (n t : Nat), t ≤ n → 1 ≤ t → itN s t x = some x → ∃ u, Per s u x ∧ u ≤ t
  | 0, t, h1, h2, _ => by omega
  | n + 1, t, h1, h2, h3 => by
    by_cases h : ∃ j, 1 ≤ j ∧ j < t ∧ itN s j x = some x
    · obtain ⟨j, a, b, c⟩ := h
      obtain ⟨u, p, q⟩ := per_of n j (by omega) a c
      exact ⟨u, p, by omega⟩
    · exact ⟨t, ⟨h2, h3, fun j a b c => h ⟨j, a, b, c⟩⟩, Nat.le_refl _⟩
theorem Per.mul {t : Nat} {x : Str} (p : itN s t x = some x) : ∀ k, itN s (t * k) x = some x
  | 0 => rfl
  | k + 1 => by rw [Nat.mul_succ, itN_add, Per.mul p k]; exact p
theorem Per.all {t : Nat} {x : Str} (p : Per s t x) (n : Nat) : ∃ y, itN s n x = some y := by
  have := Per.mul p.on (n + 1)
  refine itN_some this ?_
  have := p.pos
  have h : 1 * (n + 1) ≤ t * (n + 1) := Nat.mul_le_mul_right _ this
  omega
theorem Per.uniq {t u : Nat} {x : Str} (p : Per s t x) (q : Per s u x) : t = u := by
  rcases Nat.lt_trichotomy t u with h | h | h
  · exact (q.mn t p.pos h p.on).elim
  · exact h
  · exact (p.mn u q.pos h q.on).elim
/-- all that is come to comes again -/
theorem Per.shift {t n : Nat} {x y : Str} (p : Per s t x) (h : itN s n x = some y) : itN s t y = some y := by
  have a : itN s (n + t) x = itN s t y := by rw [itN_add, h]; rfl
  have b : itN s (t + n) x = itN s n x := by rw [itN_add, p.on]; rfl
  rw [← a, Nat.add_comm, b, h]
theorem Per.back {t n : Nat} {x y : Str} (p : Per s t x) (h : itN s n x = some y) : ∃ m, itN s m y = some x := by
  have e := Per.mul p.on (n + 1)
  have hl : n ≤ t * (n + 1) := by
    have h : 1 * (n + 1) ≤ t * (n + 1) := Nat.mul_le_mul_right _ p.pos
    omega
  refine ⟨t * (n + 1) - n, ?_⟩
  have : itN s (n + (t * (n + 1) - n)) x = itN s (t * (n + 1) - n) y := by rw [itN_add, h]; rfl
  rw [← this, show n + (t * (n + 1) - n) = t * (n + 1) by omega, e]
theorem Per.move {t n : Nat} {x y : Str} (p : Per s t x) (h : itN s n x = some y) : Per s t y := by
  refine ⟨p.pos, p.shift h, fun j a b c => ?_⟩
  obtain ⟨m, hm⟩ := p.back h
  have p' : Per s j y ∨ True := .inr trivial
  have e : itN s j x = some x := by
    have a1 : itN s (m + j) y = itN s j x := by rw [itN_add, hm]; rfl
    have a2 : itN s (j + m) y = itN s m y := by rw [itN_add, c]; rfl
    rw [← a1, Nat.add_comm, a2, hm]
  exact p.mn j a b e
theorem Per.inj {t i j : Nat} {x : Str} (p : Per s t x) (hi : i < t) (hj : j < t) (h : itN s i x = itN s j x) : i = j := by
  have key : ∀ a b, a < b → b < t → itN s a x = itN s b x → False := fun a b hab hb e => by
    obtain ⟨y, hy⟩ := p.all a
    have p' := p.move hy
    have : itN s (a + (b - a)) x = itN s (b - a) y := by rw [itN_add, hy]; rfl
    rw [show a + (b - a) = b by omega, ← e, hy] at this
    exact p'.mn (b - a) (by omega) (by omega) this.symm
  rcases Nat.lt_trichotomy i j with q | q | q
  · exact (key i j q hj h).elim
  · exact q
  · exact (key j i q hi h.symm).elim
/-- the row of what is come to -/
def row_ (s : Str → Option Str) (n : Nat) (x : Str) : List Str := (List.range n).map fun i => (itN s i x).getD ""
theorem row_mem {n : Nat} {x y : Str} (hall : ∀ i < n, ∃ z, itN s i x = some z) : y ∈ row_ s n x ↔ ∃ i < n, itN s i x = some y := by
  unfold row_
  rw [List.mem_map]
  constructor
  · rintro ⟨i, hi, e⟩
    obtain ⟨z, hz⟩ := hall i (List.mem_range.mp hi)
    rw [hz] at e
    exact ⟨i, List.mem_range.mp hi, by rw [hz]; exact congrArg some e⟩
  · rintro ⟨i, hi, e⟩
    exact ⟨i, List.mem_range.mpr hi, by rw [e]; rfl⟩
theorem row_succ (n : Nat) (x : Str) : row_ s (n + 1) x = row_ s n x ++ [(itN s n x).getD ""] := by
  unfold row_
  rw [List.range_succ, List.map_append]; rfl
/-- the members of a ring are those of the ring of each of them -/
theorem row_same {t : Nat} {x y : Str} (p : Per s t x) (hy : y ∈ row_ s t x) (z : Str) : z ∈ row_ s t y ↔ z ∈ row_ s t x := by
  have one : ∀ {x y : Str}, Per s t x → y ∈ row_ s t x → ∀ z, z ∈ row_ s t y → z ∈ row_ s t x := fun {x y} p hy z hz => by
    obtain ⟨i, hi, e⟩ := (row_mem fun i _ => p.all i).mp hy
    have p' := p.move e
    obtain ⟨j, hj, e2⟩ := (row_mem fun i _ => p'.all i).mp hz
    have a : itN s (i + j) x = some z := by rw [itN_add, e]; exact e2
    refine (row_mem fun i _ => p.all i).mpr ?_
    by_cases h : i + j < t
    · exact ⟨i + j, h, a⟩
    · refine ⟨i + j - t, by omega, ?_⟩
      have : itN s (t + (i + j - t)) x = itN s (i + j - t) x := by rw [itN_add, p.on]; rfl
      rw [← this, show t + (i + j - t) = i + j by omega, a]
  constructor
  · exact one p hy z
  · obtain ⟨i, hi, e⟩ := (row_mem fun i _ => p.all i).mp hy
    have p' := p.move e
    have hx : x ∈ row_ s t y := by
      refine (row_mem fun i _ => p'.all i).mpr ?_
      by_cases h0 : i = 0
      · subst h0
        exact ⟨0, p.pos, by cases e; rfl⟩
      · refine ⟨t - i, by omega, ?_⟩
        have : itN s (i + (t - i)) x = itN s (t - i) y := by rw [itN_add, e]; rfl
        rw [← this, show i + (t - i) = t by omega, p.on]
    exact one p' hx z
end
/-- how a walk goes -/
structure WkI (rule : Str) (cs : List C) (h : Str) (r : Wr) : Prop where
  so : ∃ m, 1 ≤ m ∧ r.so = row_ (stp rule cs) m h ∧ (∀ i < m, ∃ z, itN (stp rule cs) i h = some z) ∧ r.so.Nodup ∧
    ((r.w = "ring" ∧ ∃ y, itN (stp rule cs) m h = some y ∧ y ∈ r.so ∧ ∃ p, r.st.getLast? = some p ∧ see cs p = y) ∨ (r.w ≠ "ring" ∧ itN (stp rule cs) m h = none))
theorem wk_rows {rule : Str} {cs : List C} {h : Str} : ∀ {n k : Nat} {x : Str} {so : List Str} {st : List Nat} {ef : Nat} {r : Wr}, wk rule cs n x so st ef = some r → so = row_ (stp rule cs) k h → (∀ i < k, ∃ z, itN (stp rule cs) i h = some z) → so.Nodup → itN (stp rule cs) k h = some x → (k = 0 ∨ ∃ p, st.getLast? = some p ∧ see cs p = x) → WkI rule cs h r
  | 0, _, _, _, _, _, _, e, _, _, _, _, _ => by cases e
  | n + 1, k, x, so, st, ef, r, e, hs, ha, nd, hx, hl => by
    unfold wk at e
    by_cases hm : x ∈ so
    · rw [if_pos hm] at e
      cases e
      have hk : k ≠ 0 := fun z => by subst z; rw [hs] at hm; simp [row_] at hm
      refine ⟨k, by omega, hs, ha, nd, .inl ⟨rfl, x, hx, hm, hl.resolve_left hk⟩⟩
    · rw [if_neg hm] at e
      have hs2 : so ++ [x] = row_ (stp rule cs) (k + 1) h := by rw [row_succ, hx, hs]; rfl
      have ha2 : ∀ i < k + 1, ∃ z, itN (stp rule cs) i h = some z := fun i hi => by
        by_cases z : i = k
        · subst z; exact ⟨x, hx⟩
        · exact ha i (by omega)
      have nd2 : (so ++ [x]).Nodup := nd_snoc nd hm
      have nx : itN (stp rule cs) (k + 1) h = stp rule cs x := by show (itN (stp rule cs) k h).bind _ = _; rw [hx]; rfl
      cases hk : (lk rule (cs.map C.h) x).1 with
      | none =>
        rw [hk] at e
        cases e
        refine ⟨k + 1, by omega, hs2, ha2, nd2, .inr ⟨by show ("lost" : Str) ≠ "ring"; decide, ?_⟩⟩
        rw [nx]; unfold stp; rw [hk]
      | some p =>
        rw [hk] at e
        dsimp only at e
        by_cases es : see cs p = ""
        · rw [if_pos es] at e
          cases e
          refine ⟨k + 1, by omega, hs2, ha2, nd2, .inr ⟨by show ("entry" : Str) ≠ "ring"; decide, ?_⟩⟩
          rw [nx]; unfold stp; rw [hk]; dsimp only; rw [if_pos es]
        · rw [if_neg es] at e
          exact wk_rows e hs2 ha2 nd2 (by rw [nx]; unfold stp; rw [hk]; dsimp only; rw [if_neg es]) (.inr ⟨p, by simp, rfl⟩)
theorem wl_rows (rule : Str) (cs : List C) (h : Str) : WkI rule cs h (wl rule cs h) := wk_rows (k := 0) (wl_eq rule cs h) rfl (by simp) (by simp) rfl (.inl rfl)
/-- the ring goes through its first heading -/
def rnd (rule : Str) (cs : List C) (h : Str) : Bool := decide ((wl rule cs h).w = "ring") && decide ((((wl rule cs h).st.getLast?).map (see cs)) = some h)
theorem rnd_iff {rule : Str} {cs : List C} {h : Str} : rnd rule cs h = true ↔ ∃ t, Per (stp rule cs) t h ∧ (wl rule cs h).so = row_ (stp rule cs) t h := by
  obtain ⟨m, hm, e1, ha, nd, e2⟩ := (wl_rows rule cs h).so
  have nodup : ∀ i j, i < m → j < m → itN (stp rule cs) i h = itN (stp rule cs) j h → i = j := fun i j hi hj e => by
    rw [e1] at nd
    have gi : (row_ (stp rule cs) m h)[i]? = some ((itN (stp rule cs) i h).getD "") := by simp [row_, hi]
    have gj : (row_ (stp rule cs) m h)[j]? = some ((itN (stp rule cs) j h).getD "") := by simp [row_, hj]
    rw [← e] at gj
    exact nd_at nd gi gj
  unfold rnd
  rw [Bool.and_eq_true, decide_eq_true_eq, decide_eq_true_eq]
  constructor
  · rintro ⟨w, l⟩
    rcases e2 with ⟨_, y, hy, _, p, hp, hse⟩ | ⟨n, _⟩
    · rw [hp] at l
      have : see cs p = h := by simpa using l
      rw [hse] at this
      subst this
      refine ⟨m, ⟨hm, hy, fun j a b c => ?_⟩, e1⟩
      have := nodup j 0 b (by omega) (c.trans rfl)
      omega
    · exact (n w).elim
  · rintro ⟨t, p, et⟩
    rcases e2 with ⟨w, y, hy, hys, q, hq, hse⟩ | ⟨_, n⟩
    · refine ⟨w, ?_⟩
      rw [hq]
      rw [e1] at hys
      obtain ⟨j, hj, ej⟩ := (row_mem ha).mp hys
      have : y = h := by
        by_cases j0 : j = 0
        · subst j0; cases ej; rfl
        · obtain ⟨z, hz⟩ := p.back ej
          have pj := p.move ej
          -- it m h = it j h: m - j steps lead back
          have b1 : itN (stp rule cs) (j + (m - j)) h = itN (stp rule cs) (m - j) y := by rw [itN_add, ej]; rfl
          rw [show j + (m - j) = m by omega, hy] at b1
          have b2 : itN (stp rule cs) (m - j) h = some h := by
            have a1 : itN (stp rule cs) (z + (m - j)) y = itN (stp rule cs) (m - j) h := by rw [itN_add, hz]; rfl
            have a2 : itN (stp rule cs) ((m - j) + z) y = itN (stp rule cs) z y := by rw [itN_add, ← b1]; rfl
            rw [← a1, Nat.add_comm, a2, hz]
          have := nodup (m - j) 0 (by omega) (by omega) (b2.trans rfl)
          omega
      simp [hse, this]
    · obtain ⟨y, hy⟩ := p.all m
      rw [n] at hy; cases hy
/-- a walk ends in a ring if it never comes to an end -/
theorem ring_iff {rule : Str} {cs : List C} {h : Str} {N : Nat} (hN : (wl rule cs h).so.length ≤ N) : ((wl rule cs h).w = "ring" → ∃ y t, itN (stp rule cs) N h = some y ∧ Per (stp rule cs) t y) ∧ ((wl rule cs h).w ≠ "ring" → itN (stp rule cs) N h = none) := by
  obtain ⟨m, hm, e1, ha, nd, e2⟩ := (wl_rows rule cs h).so
  have lm : (wl rule cs h).so.length = m := by rw [e1]; simp [row_]
  rw [lm] at hN
  constructor
  · intro w
    rcases e2 with ⟨_, y, hy, hys, _⟩ | ⟨n, _⟩
    · rw [e1] at hys
      obtain ⟨j, hj, ej⟩ := (row_mem ha).mp hys
      have b1 : itN (stp rule cs) (j + (m - j)) h = itN (stp rule cs) (m - j) y := by rw [itN_add, ej]; rfl
      rw [show j + (m - j) = m by omega, hy] at b1
      obtain ⟨u, p, _⟩ := per_of (m - j) (m - j) (Nat.le_refl _) (by omega) b1.symm
      obtain ⟨z, hz⟩ := p.all (N - j)
      refine ⟨z, u, ?_, p.move hz⟩
      have : itN (stp rule cs) (j + (N - j)) h = itN (stp rule cs) (N - j) y := by rw [itN_add, ej]; rfl
      rw [show j + (N - j) = N by omega, hz] at this
      exact this
    · exact (n w).elim
  · intro w
    rcases e2 with ⟨z, _⟩ | ⟨_, n⟩
    · exact (w z).elim
    · have := itN_none n (N - m)
      rwa [show m + (N - m) = N by omega] at this
/-! the least of texts -/
def minS : Str → List Str → Str
  | a, [] => a
  | a, y :: l => minS (if ltS y a then y else a) l
theorem minS_mem : ∀ (l : List Str) (a : Str), minS a l ∈ a :: l
  | [], a => by simp [minS]
  | y :: l, a => by
    have := minS_mem l (if ltS y a then y else a)
    rw [minS]
    rcases List.mem_cons.mp this with z | z
    · rw [z]; split <;> simp
    · exact List.mem_cons_of_mem _ (List.mem_cons_of_mem _ z)
theorem ltS_irr (a : Str) : ¬ ltS a a := List.lt_irrefl _
theorem minS_le : ∀ (l : List Str) (a : Str), (∀ y ∈ a :: l, leS (minS a l) y = true)
  | [], a, y, hy => by
    simp at hy; subst hy
    rw [minS]
    exact not_lt_le (ltS_irr y)
  | z :: l, a, y, hy => by
    rw [minS]
    have ih := minS_le l (if ltS z a then z else a)
    have h1 : leS (minS (if ltS z a then z else a) l) (if ltS z a then z else a) = true := ih _ (by simp)
    rcases List.mem_cons.mp hy with rfl | hy
    · refine leS_trans _ _ _ h1 ?_
      split
      · rename_i h; exact not_lt_le fun q => absurd (List.lt_trans q h) (ltS_irr _)
      · exact not_lt_le (ltS_irr _)
    · rcases List.mem_cons.mp hy with rfl | hy
      · refine leS_trans _ _ _ h1 ?_
        split
        · exact not_lt_le (ltS_irr _)
        · rename_i h; exact not_lt_le h
      · exact ih y (by simp [hy])
def mnS : List Str → Str
  | [] => ""
  | a :: l => minS a l
theorem mnS_mem {l : List Str} (h : l ≠ []) : mnS l ∈ l := by
  cases l with
  | nil => exact (h rfl).elim
  | cons a l => exact minS_mem l a
theorem mnS_le {l : List Str} {y : Str} (h : y ∈ l) : leS (mnS l) y = true := by
  cases l with
  | nil => cases h
  | cons a l => exact minS_le l a y h
theorem mnS_congr {a b : List Str} (ha : a ≠ []) (h : ∀ z, z ∈ a ↔ z ∈ b) : mnS a = mnS b := by
  have hb : b ≠ [] := fun z => by
    cases a with
    | nil => exact ha rfl
    | cons x a => have := (h x).mp (by simp); rw [z] at this; cases this
  exact leS_anti (mnS_le ((h _).mpr (mnS_mem hb))) (mnS_le ((h _).mp (mnS_mem ha)))
open PySem PySem.Spec PyProof.Rows L2 PySem.SeqAt PySem.W in
theorem dataLt_ss (a b : Str) : dataLt (D.str a).py (D.str b).py = decide (ltS a b) := by
  rw [D.py, D.py, dataLt_str]
open PySem PySem.Spec PyProof.Rows L2 PySem.SeqAt PySem.W in
theorem minDD_strs : ∀ (l : List Str) (a : Str), minDD (.str a) (l.map D.str) = .str (minS a l)
  | [], a => rfl
  | y :: l, a => by
    have e : minDD (.str a) ((y :: l).map D.str) = minDD (if dataLt (D.str y).py (D.str a).py then .str y else .str a) (l.map D.str) := rfl
    have h := dataLt_ss y a
    have e2 : (if dataLt (D.str y).py (D.str a).py then D.str y else D.str a) = .str (if ltS y a then y else a) := by
      by_cases q : ltS y a
      · rw [decide_eq_true q] at h; rw [if_pos h, if_pos q]
      · rw [decide_eq_false q] at h; rw [h, if_neg q]; rfl
    rw [e, e2, minDD_strs l, minS]
theorem pys_mem' : ∀ {ds : List D} {x : PyData}, x ∈ pys ds → ∃ d ∈ ds, x = d.py
  | [], x, h => by cases h
  | d :: ds, x, h => by
    rw [pys] at h
    rcases List.mem_cons.mp h with rfl | h
    · exact ⟨d, by simp, rfl⟩
    · obtain ⟨e, he, q⟩ := pys_mem' h
      exact ⟨e, by simp [he], q⟩
theorem alikeB_strs (l : List Str) : alikeB (pys (l.map D.str)) = true := by
  unfold alikeB
  simp only [Bool.and_eq_true, List.all_eq_true]
  refine ⟨fun x hx y hy => ?_, fun x hx => ?_⟩
  · obtain ⟨d, hd, rfl⟩ := pys_mem' hx
    obtain ⟨d', hd', rfl⟩ := pys_mem' hy
    obtain ⟨a, _, rfl⟩ := List.mem_map.mp hd
    obtain ⟨b, _, rfl⟩ := List.mem_map.mp hd'
    rfl
  · obtain ⟨d, hd, rfl⟩ := pys_mem' hx
    obtain ⟨a, _, rfl⟩ := List.mem_map.mp hd
    rfl
theorem min_strs {l : List Str} (h : l ≠ []) : minO (.lst (l.map D.str)) = some (.str (mnS l)) := by
  cases l with
  | nil => exact (h rfl).elim
  | cons a l =>
    have h1 : okD (.lst ((a :: l).map D.str)) = true := okD_flt (k := 1) (by omega) (flt_mapL fun _ _ => flt_str)
    have h3 := alikeB_strs (a :: l)
    unfold okD at h1
    rw [D.plain, D.py, PyData.depth, Bool.and_eq_true, decide_eq_true_eq] at h1
    rw [List.map_cons] at h1 h3 ⊢
    show (if plains (D.str a :: l.map D.str) && decide (PyData.depthAll (pys (D.str a :: l.map D.str)) ≤ 64) && alikeB (pys (D.str a :: l.map D.str)) then some (minDD (.str a) (l.map D.str)) else none) = _
    rw [h1.1, h3, decide_eq_true (by omega)]
    rw [if_pos (by rfl), minDD_strs]
    rfl
/-- the rings of known headings -/
def rgs (rule : Str) (cs : List C) (K : List Str) : List (List Str) := (K.filter fun h => rnd rule cs h && decide (h = mnS (wl rule cs h).so)).map fun h => (wl rule cs h).so
def encRg (l : List (List Str)) : D := .lst (l.map fun r => .tup (r.map D.str))
theorem wl_so_ne (rule : Str) (cs : List C) (h : Str) : (wl rule cs h).so ≠ [] := by
  obtain ⟨m, hm, e, _⟩ := (wl_rows rule cs h).so
  rw [e]
  intro z
  have := congrArg List.length z
  simp [row_] at this
  omega
theorem wl_ring_last {rule : Str} {cs : List C} {h : Str} (hr : (wl rule cs h).w = "ring") : ∃ p, (wl rule cs h).st.getLast? = some p ∧ see cs p ≠ "" := by
  obtain ⟨m, hm, e, ha, nd, e2⟩ := (wl_rows rule cs h).so
  rcases e2 with ⟨_, y, hy, hys, p, hp, hs⟩ | ⟨n, _⟩
  · refine ⟨p, hp, ?_⟩
    rw [hs]
    obtain ⟨k, rfl⟩ : ∃ k, m = k + 1 := ⟨m - 1, by omega⟩
    have hy : (itN (stp rule cs) k h).bind (stp rule cs) = some y := hy
    cases q : itN (stp rule cs) k h with
    | none => rw [q] at hy; cases hy
    | some z =>
      rw [q] at hy
      have hy : stp rule cs z = some y := hy
      unfold stp at hy
      split at hy
      · cases hy
      · split at hy
        · cases hy
        · rename_i n; cases hy; exact n
  · exact (n hr).elim
end MP
namespace MP.k09
open PySem L2 MP
/-! draws -/
theorem taken_spec (ns : List Int) (i s r m : Int) (hi : 0 ≤ i) (hm : 0 < m) (hm2 : m < 1073741824) : ∃ n i' s' r', F__law_taken (rowD ns i s r) [.int m] = some (.int n, rowD ns i' s' r') ∧ 0 ≤ n ∧ n < m ∧ 0 ≤ i' := by
  unfold F__law_taken runR d__law_taken
  have md : ∀ x : Int, 0 ≤ x % m ∧ x % m < m := fun x => ⟨Int.emod_nonneg x (by omega), Int.emod_lt_of_pos x hm⟩
  by_cases hr : 0 < r
  · simp [rowD, hr, hm, ixN, divC, hm2]
    exact ⟨_, _, ⟨rfl, rfl⟩, (md r).1, (md r).2, hi⟩
  · by_cases hl : (ns.length : Int) < i + 1
    · simp [rowD, hr, hm, ixN, divC, hm2, hl, mulC]
      exact ⟨_, _, ⟨rfl, rfl⟩, (md _).1, (md _).2, by omega⟩
    · obtain ⟨j, rfl⟩ : ∃ j : Nat, i = j := ⟨i.toNat, by omega⟩
      have hj : j < ns.length := by omega
      have e : atI (ns.map D.int) (j : Int) = some (.int ns[j]) := by rw [atI_nat' (by simpa using hj)]; simp [hj]
      by_cases hb : (10 : Int) ^ 18 ≤ ns[j]
      · simp [rowD, hr, hm, ixN, divC, hm2, hl, mulC, e, powC] at hb ⊢
        simp [hb, hm]
        exact ⟨_, _, ⟨rfl, rfl⟩, (md _).1, (md _).2, by omega⟩
      · have hb' : ¬ 1000000000000000000 ≤ ns[j] := by simpa using hb
        refine ⟨ns[j] % m, j + 1, (s * 48271 + ns[j] + 11) % 2147483647, 0, ?_, (md _).1, (md _).2, by omega⟩
        simp [rowD, hr, hm, ixN, divC, hm2, hl, mulC, e, powC, hb']
theorem takenN (ns : List Int) (i s r : Int) (m : Nat) (hi : 0 ≤ i) (hm : 0 < m) (hm2 : m < 1073741824) : ∃ (n : Nat) (i' s' r' : Int), F__law_taken (rowD ns i s r) [.int (m : Int)] = some (.int n, rowD ns i' s' r') ∧ n < m ∧ 0 ≤ i' := by
  obtain ⟨n, i', s', r', h1, h2, h3, h4⟩ := taken_spec ns i s r m hi (by omega) (by omega)
  exact ⟨n.toNat, i', s', r', by rw [h1, Int.toNat_of_nonneg h2], by omega, h4⟩
/-- as a step: any slots, the row at j -/
theorem takenC (ns : List Int) {i s r : Int} {m : Int} (m' : Nat) (j : Nat) {ρ : Env} (hρ : look ρ j = .lst (rowD ns i s r)) (hi : 0 ≤ i) (hm : 0 < m') (hm2 : m' < 1073741824) (em : m = m' := by rfl) :
    ∃ (n : Nat) (i' s' r' : Int), callR1 F__law_taken j [.int m] ρ = .ok (.int n) (ρ.set j (.lst (rowD ns i' s' r'))) ∧ n < m' ∧ 0 ≤ i' := by
  subst em
  obtain ⟨n, i', s', r', h1, h2, h3⟩ := takenN ns i s r m' hi hm hm2
  exact ⟨n, i', s', r', callR1_of hρ h1, h2, h3⟩
theorem pick_spec (ns : List Int) (i s r : Int) (xs : List D) (hi : 0 ≤ i) (hx : xs ≠ []) (hl : xs.length < 1000) : ∃ x i' s' r', F__law_pick (rowD ns i s r) [.lst xs] = some (x, rowD ns i' s' r') ∧ x ∈ xs ∧ 0 ≤ i' := by
  have hpos : 0 < xs.length := List.length_pos_iff.mpr hx
  obtain ⟨n, i', s', r', h1, h2, h3, h4⟩ := taken_spec ns i s r xs.length hi (by omega) (by omega)
  obtain ⟨j, rfl⟩ : ∃ j : Nat, n = j := ⟨n.toNat, by omega⟩
  have hj : j < xs.length := by omega
  unfold F__law_pick runR d__law_pick
  have e := callR1_of (ff := F__law_taken) (j := 0) (ds := [.int xs.length]) (ρ := [.lst (rowD ns i s r), .lst xs]) rfl h1
  simp [e, atI_nat' hj, hj]
  exact ⟨_, _, ⟨rfl, _, _, rfl⟩, List.getElem_mem hj, h4⟩
theorem pickC (ns : List Int) {i s r : Int} {ds : List D} (xs : List Str) (j : Nat) {ρ : Env} (hρ : look ρ j = .lst (rowD ns i s r)) (hi : 0 ≤ i) (hx : xs ≠ []) (hl : xs.length < 1000) (e : ds = [.lst (xs.map D.str)] := by rfl) :
    ∃ (x : Str) (i' s' r' : Int), callR1 F__law_pick j ds ρ = .ok (.str x) (ρ.set j (.lst (rowD ns i' s' r'))) ∧ x ∈ xs ∧ 0 ≤ i' := by
  subst e
  obtain ⟨x, i', s', r', h1, h2, h3⟩ := pick_spec ns i s r (xs.map D.str) hi (by simpa using hx) (by simpa using hl)
  obtain ⟨y, hy, rfl⟩ := List.mem_map.mp h2
  exact ⟨y, i', s', r', callR1_of hρ h1, hy, h3⟩
end MP.k09
namespace MP.k09
open PySem L2 MP
/-! things in a drawn order -/
end MP.k09
namespace MP.k09
open PySem L2 MP
/-! cards and drawers -/
def W (s : Str) : Prop := F_is_word [.str s] = some (.bl true)
theorem W_no : F_is_word [.str ""] = some (.bl false) := rfl
structure CardOk (c : C) : Prop where
  w : W c.h
  bl : c.bs.length ≤ 6
  br : ∀ b ∈ c.bs, 1 ≤ b ∧ b ≤ 999
  bp : c.bs.Pairwise (· < ·)
  se : c.see = "" ∨ (c.bs = [] ∧ c.al = [] ∧ W c.see ∧ c.see ≠ c.h)
  ll : c.al.length ≤ 4
  an : c.al.Nodup
  aw : ∀ a ∈ c.al, W a ∧ a ≠ c.h
theorem number_spec (p a b : Int) : F_is_number [.int p, .int a, .int b] = some (.bl (decide (a ≤ p ∧ p ≤ b))) := by
  have h1 : isiD "int" (.int p) = some (.bl true) := rfl
  have h2 : isiD "bool" (.int p) = some (.bl false) := rfl
  unfold F_is_number runV d_is_number
  by_cases e1 : a ≤ p
  · simp -implicitDefEqProofs [h1, h2, chain2, e1]
  · simp -implicitDefEqProofs [h1, h2, chain2, e1]
theorem eqT_nil {ds : List D} (h : okD (.tup ds) = true) : eqD (.tup ds) (.tup []) = some (.bl ds.isEmpty) := by
  have h2 : okD (.tup []) = true := rfl
  unfold eqD
  rw [h, h2]
  cases ds with
  | nil => rfl
  | cons d ds => simp [pys, D.py, PyData.eqv, PyData.eqvAll]
theorem zipL_ints : ∀ a b : List Int, zipL (a.map D.int) (b.map D.int) = (a.zip b).map fun p => .tup [.int p.1, .int p.2]
  | [], b => by cases b <;> rfl
  | x :: a, [] => rfl
  | x :: a, y :: b => by simp [zipL, zipL_ints a b]
theorem zip_tail {l : List Int} (h : l.Pairwise (· < ·)) : ∀ p ∈ l.zip (l.drop 1), p.1 < p.2 := by
  cases l with
  | nil => simp
  | cons x l =>
    have key : ∀ (l : List Int) (x : Int), (x :: l).Pairwise (· < ·) → ∀ p ∈ (x :: l).zip l, p.1 < p.2 := by
      intro l
      induction l with
      | nil => intro x _ p hp; simp at hp
      | cons y l ih =>
        intro x hx p hp
        rw [List.zip_cons_cons, List.mem_cons] at hp
        rcases hp with rfl | hp
        · exact (List.pairwise_cons.mp hx).1 y (by simp)
        · exact ih y (List.pairwise_cons.mp hx).2 p hp
    simpa using key l x h
theorem books_spec (bs : List Int) (h1 : bs.length ≤ 6) (h2 : ∀ b ∈ bs, 1 ≤ b ∧ b ≤ 999) (h3 : bs.Pairwise (· < ·)) : F_are_books [.tup (bs.map D.int)] = some (.bl true) := by
  have l1 := lc_mapA (b := bName 1) (g := callD F_is_number (consD (vD 1) (consD (kD (.int 1)) (consD (kD (.int 999)) nilD)))) (vs := [1]) (ρ := [.tup (bs.map D.int), .non, .non, .non]) D.int (fun _ => .bl true) (L := bs) fun b hb =>
    ⟨[.tup (bs.map D.int), .int b, .non, .non], rfl, by
      have := h2 b hb
      simp -implicitDefEqProofs [number_spec, this], rfl⟩
  have a1 : allD [.lst (bs.map fun _ => D.bl true)] = some (.bl true) := by
    have := allD_bl (bs.map fun _ => true)
    rw [List.map_map] at this
    rw [show (bs.map fun _ => D.bl true) = bs.map (D.bl ∘ fun _ => true) from rfl, this]
    simp
  have c : cutD (bs.map D.int) (some 1) none = (bs.drop 1).map D.int := by rw [show (1 : Int) = ((1 : Nat) : Int) from rfl, cut_from, List.map_drop]
  have z : zipO [.tup (bs.map D.int), .tup ((bs.drop 1).map D.int)] = some ((bs.zip (bs.drop 1)).map fun p => .tup [.int p.1, .int p.2]) := by
    show some (zipL _ _) = _; rw [zipL_ints]
  have l2 := lc_mapA (b := bTup 2 (bCons (bName 2) (bCons (bName 3) bNil))) (g := op2 ltD (vD 2) (vD 3)) (vs := [2, 3]) (ρ := [.tup (bs.map D.int), .non, .non, .non]) (fun p : Int × Int => .tup [.int p.1, .int p.2]) (fun _ => .bl true) (L := bs.zip (bs.drop 1)) fun p hp =>
    ⟨[.tup (bs.map D.int), .non, .int p.1, .int p.2], rfl, by
      have := zip_tail h3 p hp
      simp -implicitDefEqProofs [this], rfl⟩
  have a2 : allD [.lst ((bs.zip (bs.drop 1)).map fun _ => D.bl true)] = some (.bl true) := by
    have := allD_bl ((bs.zip (bs.drop 1)).map fun _ => true)
    rw [List.map_map] at this
    rw [show ((bs.zip (bs.drop 1)).map fun _ => D.bl true) = (bs.zip (bs.drop 1)).map (D.bl ∘ fun _ => true) from rfl, this]
    simp
  have n1 : ¬ (6 : Int) < bs.length := by omega
  unfold F_are_books runV d_are_books
  simp -implicitDefEqProofs only [List.length_cons, List.length_nil, startD_ap, List.cons_append, List.nil_append, Nat.reduceAdd, Nat.reduceSub, List.replicate, if_true, seqS_ap, ifS_ap, orB_ap, asB_ap, op2_ap, callD_ap, consD_ap, nilD_ap, vD_ap, kD_ap, look_zero, look_succ, bnd_ok, bnd_ap, ret_ap, ofO_some, lenD_t, List.length_map, gtD_ii, n1, decide_false, bl1_bl, Bool.false_eq_true, if_false, notB_ap, lstM_ap, lcD_ap, itD_ap, seqOf_t, l1, a1, Bool.not_true, sb_ok, nxS_ap, sq_nx, retS_ap, zipM_ap, slM_ap, someP_ap, int1_int, noP_ap, slD_t, c, z, l2, a2, sq_rt, endV_rt]
theorem others_spec (h : Str) (al : List Str) (h1 : al.length ≤ 4) (h2 : al.Nodup) (h3 : ∀ a ∈ al, W a ∧ a ≠ h) : F_are_others [.str h, .tup (al.map D.str)] = some (.bl true) := by
  have l1 := lc_mapA (b := bName 2) (g := andD (callD F_is_word (consD (vD 2) nilD)) (op2 neD (vD 2) (vD 0))) (vs := [2]) (ρ := [.str h, .tup (al.map D.str), .non]) D.str (fun _ => .bl true) (L := al) fun a ha =>
    ⟨[.str h, .tup (al.map D.str), .str a], rfl, by
      obtain ⟨q1, q2⟩ := h3 a ha
      have q1 : F_is_word [.str a] = some (.bl true) := q1
      simp -implicitDefEqProofs [q1, neD_ss, q2], rfl⟩
  have a1 : allD [.lst (al.map fun _ => D.bl true)] = some (.bl true) := by
    have := allD_bl (al.map fun _ => true)
    rw [List.map_map] at this
    rw [show (al.map fun _ => D.bl true) = al.map (D.bl ∘ fun _ => true) from rfl, this]
    simp
  have n1 : ¬ (4 : Int) < al.length := by omega
  have n2 : ¬ (al.length : Int) < al.length := by omega
  have s1 := lenSet_strs h2 (by omega)
  unfold F_are_others runV d_are_others
  simp -implicitDefEqProofs only [List.length_cons, List.length_nil, startD_ap, List.cons_append, List.nil_append, Nat.reduceAdd, Nat.reduceSub, List.replicate, if_true, seqS_ap, ifS_ap, orB_ap, asB_ap, op2_ap, op1_ap, callD_ap, consD_ap, nilD_ap, vD_ap, kD_ap, look_zero, look_succ, bnd_ok, bnd_ap, ret_ap, ofO_some, lenD_t, List.length_map, gtD_ii, ltD_ii, n1, n2, s1, decide_false, bl1_bl, Bool.false_eq_true, if_false, lstM_ap, lcD_ap, itD_ap, seqOf_t, l1, a1, sb_ok, nxS_ap, sq_nx, retS_ap, sq_rt, endV_rt]
theorem card_spec (c : C) (h : CardOk c) : F_Card [.str c.h, .tup (c.bs.map D.int), .str c.see, .tup (c.al.map D.str)] = some [sm c] := by
  have w1 : F_is_word [.str c.h] = some (.bl true) := h.w
  have b1 := books_spec c.bs h.bl h.br h.bp
  have o1 := others_spec c.h c.al h.ll h.an h.aw
  have k1 : eqD (.tup (c.bs.map D.int)) (.tup []) = some (.bl c.bs.isEmpty) := by
    rw [eqT_nil (okD_flt (k := 1) (by omega) (flt_mapT fun _ _ => flt_int))]; simp
  have k2 : eqD (.tup (c.al.map D.str)) (.tup []) = some (.bl c.al.isEmpty) := by
    rw [eqT_nil (okD_flt (k := 1) (by omega) (flt_mapT fun _ _ => flt_str))]; simp
  unfold F_Card runI d_Card
  rcases h.se with e | ⟨e1, e2, e3, e4⟩
  · have w2 := W_no
    rw [← e] at w2
    cases hb : c.bs.isEmpty <;> cases ha : c.al.isEmpty <;>
      simp -implicitDefEqProofs [w1, b1, o1, k1, k2, hb, ha, w2, neD_ss, e, endI, sm, W_no]
  · have e3 : F_is_word [.str c.see] = some (.bl true) := e3
    have b0 : F_are_books [.tup []] = some (.bl true) := by rw [e1] at b1; exact b1
    have o0 : F_are_others [.str c.h, .tup []] = some (.bl true) := by rw [e2] at o1; exact o1
    have t0 : eqD (.tup []) (.tup []) = some (.bl true) := rfl
    by_cases q : c.see = ""
    · rw [q] at e3; rw [W_no] at e3; simp at e3
    · simp -implicitDefEqProofs [w1, b0, o0, t0, e1, e2, e3, neD_ss, e4, q, endI, sm]
theorem mkCard (c : C) (h : CardOk c) : makeD "Card" F_Card [.str c.h, .tup (c.bs.map D.int), .str c.see, .tup (c.al.map D.str)] = some (cd c) := by
  unfold makeD; rw [card_spec c h]; rfl
theorem mkDrawer0 (cs : List D) (h : cs.length ≤ 16) : F_Drawer [.tup cs] = some [.tup cs] := by
  unfold F_Drawer runI d_Drawer
  have : ¬ (16 : Int) < cs.length := by omega
  simp [this, endI]
theorem mkDrawer (cs : List C) (hn : cs.length ≤ 16) : makeD "Drawer" F_Drawer [.tup (cs.map cd)] = some (dr cs) := by
  unfold makeD
  rw [mkDrawer0 _ (by simpa using hn)]
  rfl
end MP.k09
namespace MP.k09
open PySem L2 MP
theorem drawer_spec (cs : List C) (hh : ∀ c ∈ cs, CardOk c) (hn : cs.length ≤ 16) : F__law_drawer [.lst (cs.map sm)] = some (dr cs) := by
  have l1 := lc_mapA (b := bName 1) (g := makeK "Card" F_Card (fun x y => x ++ y) (consD (op2 ixD (vD 1) (kD (.int 0))) nilD) (ek3 (op2 ixD (vD 1) (kD (.int 1))) (op2 ixD (vD 1) (kD (.int 2))) (op2 ixD (vD 1) (kD (.int 3))))) (vs := [1]) (ρ := [.lst (cs.map sm), .non])
    sm cd (L := cs) (fun c hm => ⟨[.lst (cs.map sm), sm c], rfl, by
      have mk := mkCard c (hh c hm)
      have i0 : ixD (sm c) (.int 0) = some (.str c.h) := by simp [sm]
      have i1 : ixD (sm c) (.int 1) = some (.tup (c.bs.map D.int)) := by simp [sm]
      have i2 : ixD (sm c) (.int 2) = some (.str c.see) := by simp [sm]
      have i3 : ixD (sm c) (.int 3) = some (.tup (c.al.map D.str)) := by simp [sm]
      simp -implicitDefEqProofs [i0, i1, i2, i3, mk], rfl⟩)
  have mk := mkDrawer cs hn
  unfold F__law_drawer runV d__law_drawer
  simp -implicitDefEqProofs [l1, mk]
theorem heading_spec (c : C) : F_Card_heading [cd c] = some (.str c.h) := by
  unfold F_Card_heading runV d_Card_heading
  simp [cd, sm]
theorem cards_spec (cs : List C) : F_Drawer_cards [dr cs] = some (.tup (cs.map cd)) := by
  unfold F_Drawer_cards runV d_Drawer_cards
  simp [dr]
theorem hd_of (c : C) : isC "Card" F_Card_heading [] (cd c) = some (.str c.h) := by
  have : isC "Card" F_Card_heading [] (cd c) = F_Card_heading [cd c] := by unfold cd; rw [isC_ins, if_pos rfl]
  rw [this, heading_spec]
theorem cs_of (cs : List C) : isC "Drawer" F_Drawer_cards [] (dr cs) = some (.tup (cs.map cd)) := by
  have : isC "Drawer" F_Drawer_cards [] (dr cs) = F_Drawer_cards [dr cs] := by unfold dr; rw [isC_ins, if_pos rfl]
  rw [this, cards_spec]
theorem fl_row (cs : List C) : fldD "Drawer" 0 (dr cs) = some (.tup (cs.map cd)) := by unfold dr; rw [fldD_ins, if_pos rfl]; rfl
end MP.k09
namespace MP.k09
open PySem L2 MP
/-! the law's own lookup -/
theorem body_end (cs : List C) (rule h : Str) (lo hi : Nat) (met : List Nat) (t e : D) (hlt : hi ≤ lo) :
    b1__law_looked [.lst (cs.map sm), .str rule, .str h, .lst (encL met), .int lo, .int hi, t, e] = .rt (encR (none, met)) [.lst (cs.map sm), .str rule, .str h, .lst (encL met), .int lo, .int hi, t, e] := by
  have c1 : (hi : Int) ≤ lo := by omega
  unfold b1__law_looked
  simp [c1, encR, encO]
theorem body_half (cs : List C) (h : Str) (lo hi mid : Nat) (met : List Nat) (t e : D) (hlt : lo < hi) (hm : mid < cs.length) (em : ((lo : Int) + hi - 1) / 2 = mid) (hml : met.length < 2000) :
    b1__law_looked [.lst (cs.map sm), .str "half", .str h, .lst (encL met), .int lo, .int hi, t, e] =
      if cs[mid].h = h then .rt (encR (some mid, met ++ [mid])) [.lst (cs.map sm), .str "half", .str h, .lst (encL (met ++ [mid])), .int lo, .int hi, t, .int mid]
      else if ltS h cs[mid].h then .nx [.lst (cs.map sm), .str "half", .str h, .lst (encL (met ++ [mid])), .int lo, .int mid, t, .int mid]
      else .nx [.lst (cs.map sm), .str "half", .str h, .lst (encL (met ++ [mid])), .int (mid + 1 : Nat), .int hi, t, .int mid] := by
  have c1 : ¬ (hi : Int) ≤ lo := by omega
  have ap : app1 3 (.int mid) [.lst (cs.map sm), .str "half", .str h, .lst (encL met), .int lo, .int hi, t, .int mid] = .nx [.lst (cs.map sm), .str "half", .str h, .lst (encL (met ++ [mid])), .int lo, .int hi, t, .int mid] := by
    rw [app1_of (rs := encL met) rfl (by simp; omega), encL_snoc]; rfl
  have hne : ¬ (("half" : Str) = ("all" : Str)) := by decide
  unfold b1__law_looked
  by_cases e1 : cs[mid].h = h
  · simp [c1, eqD_ss, neD_ss, divC, em, ap, sm_at cs hm, ixsm, e1, encR, encO]
  · by_cases e2 : ltS h cs[mid].h
    · simp at e2
      simp [c1, eqD_ss, neD_ss, divC, em, ap, sm_at cs hm, ixsm, e1, hne, e2]
    · have e2' : ¬ (h.cps < cs[mid].h.cps) := fun z => e2 (by simpa using z)
      simp [c1, eqD_ss, neD_ss, divC, em, ap, sm_at cs hm, ixsm, e1, hne, e2']
theorem law_half (cs : List C) (h : Str) : ∀ (ds : List D) (lo hi : Nat) (met : List Nat) (t e : D), hi ≤ cs.length → hi - lo < ds.length → met.length + (hi - lo) ≤ 2000 →
    ∃ ρ, forL (bName 6) b1__law_looked ds [.lst (cs.map sm), .str "half", .str h, .lst (encL met), .int lo, .int hi, t, e] = .rt (encR (half (cs.map C.h) h lo hi met)) ρ
  | [], lo, hi, met, t, e, _, h2, _ => by simp at h2
  | d :: ds, lo, hi, met, t, e, h1, h2, h3 => by
    rw [forL_cons rfl]
    simp only [List.set_cons_succ, List.set_cons_zero]
    rw [half]
    by_cases hlt : lo < hi
    · obtain ⟨mid, em⟩ : ∃ mid, mid = (lo + hi - 1) / 2 := ⟨_, rfl⟩
      rw [← em, dif_pos hlt]
      have hm : mid < cs.length := by omega
      have eg : (cs.map C.h).getD mid h = cs[mid].h := by simp [List.getD_eq_getElem?_getD, hm]
      rw [body_half cs h lo hi mid met d e hlt hm (by omega) (by omega), eg]
      simp only [List.length_cons] at h2
      by_cases e1 : cs[mid].h = h
      · rw [if_pos e1, if_pos e1]; exact ⟨_, rfl⟩
      · rw [if_neg e1, if_neg e1]
        by_cases e2 : ltS h cs[mid].h
        · rw [if_pos e2, if_pos e2, lp_nx]
          exact law_half cs h ds lo mid (met ++ [mid]) d _ (by omega) (by omega) (by simp; omega)
        · rw [if_neg e2, if_neg e2, lp_nx]
          exact law_half cs h ds (mid + 1) hi (met ++ [mid]) d _ h1 (by omega) (by simp; omega)
    · rw [dif_neg hlt, body_end cs "half" h lo hi met d e (by omega)]
      exact ⟨_, rfl⟩
theorem body_scan (cs : List C) (rule h : Str) (lo hi : Nat) (met : List Nat) (t e : D) (hr : rule ≠ "half") (hlt : lo < hi) (hm : lo < cs.length) (hml : met.length < 2000) :
    b1__law_looked [.lst (cs.map sm), .str rule, .str h, .lst (encL met), .int lo, .int hi, t, e] =
      if cs[lo].h = h then .rt (encR (some lo, met ++ [lo])) [.lst (cs.map sm), .str rule, .str h, .lst (encL (met ++ [lo])), .int lo, .int hi, t, .int lo]
      else if ltS h cs[lo].h ∧ rule ≠ "all" then .nx [.lst (cs.map sm), .str rule, .str h, .lst (encL (met ++ [lo])), .int lo, .int lo, t, .int lo]
      else .nx [.lst (cs.map sm), .str rule, .str h, .lst (encL (met ++ [lo])), .int (lo + 1 : Nat), .int hi, t, .int lo] := by
  have c1 : ¬ (hi : Int) ≤ lo := by omega
  have ap : app1 3 (.int lo) [.lst (cs.map sm), .str rule, .str h, .lst (encL met), .int lo, .int hi, t, .int lo] = .nx [.lst (cs.map sm), .str rule, .str h, .lst (encL (met ++ [lo])), .int lo, .int hi, t, .int lo] := by
    rw [app1_of (rs := encL met) rfl (by simp; omega), encL_snoc]; rfl
  unfold b1__law_looked
  by_cases e1 : cs[lo].h = h
  · simp [c1, eqD_ss, neD_ss, divC, ap, sm_at cs hm, ixsm, e1, encR, encO, hr]
  · by_cases e2 : ltS h cs[lo].h
    · simp at e2
      by_cases e3 : rule = "all"
      · simp [c1, eqD_ss, neD_ss, divC, ap, sm_at cs hm, ixsm, e1, e2, e3]
        subst e3
        have hne : ¬ (("all" : Str) = ("half" : Str)) := by decide
        simp [ap, hne, c1, eqD_ss, neD_ss, divC, sm_at cs hm, ixsm, e1, e2]
      · simp [c1, eqD_ss, neD_ss, divC, ap, sm_at cs hm, ixsm, e1, e2, e3, hr]
    · have e2' : ¬ (h.cps < cs[lo].h.cps) := fun z => e2 (by simpa using z)
      simp [c1, eqD_ss, neD_ss, divC, ap, sm_at cs hm, ixsm, e1, e2', hr]
theorem law_scan (cs : List C) (rule h : Str) (hr : rule = "all" ∨ rule = "leaf") (hn : cs.length < 1000) : ∀ (ds : List D) (i : Nat) (t e : D), i ≤ cs.length → cs.length - i < ds.length →
    ∃ ρ, forL (bName 6) b1__law_looked ds [.lst (cs.map sm), .str rule, .str h, .lst (encL (List.range i)), .int i, .int cs.length, t, e] = .rt (encR (scan (decide (rule = "leaf")) h ((cs.map C.h).drop i) i)) ρ
  | [], i, t, e, _, h2 => by simp at h2
  | d :: ds, i, t, e, h1, h2 => by
    rw [forL_cons rfl]
    simp only [List.set_cons_succ, List.set_cons_zero]
    simp only [List.length_cons] at h2
    have nh : rule ≠ "half" := by rcases hr with rfl | rfl <;> decide
    by_cases hlt : i < cs.length
    · rw [body_scan cs rule h i cs.length (List.range i) d e nh hlt hlt (by simp; omega), show (cs.map C.h).drop i = cs[i].h :: (cs.map C.h).drop (i + 1) by rw [List.drop_eq_getElem_cons (by simpa using hlt), List.getElem_map]]
      unfold scan
      rw [← List.range_succ]
      by_cases e1 : cs[i].h = h
      · rw [if_pos e1, if_pos e1]; exact ⟨_, rfl⟩
      · rw [if_neg e1, if_neg e1]
        by_cases e2 : ltS h cs[i].h ∧ rule ≠ "all"
        · have e3 : decide (rule = "leaf") = true ∧ ltS h cs[i].h := ⟨by rcases hr with rfl | rfl; exact absurd rfl e2.2; rfl, e2.1⟩
          rw [if_pos e2, if_pos e3, lp_nx]
          cases ds with
          | nil => simp at h2; omega
          | cons d' ds =>
            rw [forL_cons rfl]
            simp only [List.set_cons_succ, List.set_cons_zero]
            rw [body_end cs rule h i i _ d' _ (by omega)]
            exact ⟨_, rfl⟩
        · have e3 : ¬ (decide (rule = "leaf") = true ∧ ltS h cs[i].h) := fun z => e2 ⟨z.2, by rcases hr with rfl | rfl; exact absurd z.1 (by decide); decide⟩
          rw [if_neg e2, if_neg e3, lp_nx]
          exact law_scan cs rule h hr hn ds (i + 1) d _ (by omega) (by omega)
    · have : (cs.map C.h).drop i = [] := List.drop_eq_nil_of_le (by simp; omega)
      rw [this, body_end cs rule h i cs.length _ d e (by omega)]
      exact ⟨_, rfl⟩
theorem looked_of (cs : List C) (rule h : Str) (hn : cs.length < 1000) {r : D} {ρ : Env} (e : forL (bName 6) b1__law_looked (rangeL 0 ((cs.length : Int) + 1)) [.lst (cs.map sm), .str rule, .str h, .lst [], .int 0, .int cs.length, .non, .non] = .rt r ρ) : F__law_looked [.lst (cs.map sm), .str rule, .str h] = some r := by
  have rg : rng1 [.int ((cs.length : Int) + 1)] = some (rangeL 0 ((cs.length : Int) + 1)) := rng1_of (by omega) (by omega)
  unfold F__law_looked runV d__law_looked
  simp -implicitDefEqProofs [rg, e]
/-- the law's own lookup -/
theorem looked_spec (cs : List C) (rule h : Str) (hr : rule = "all" ∨ rule = "leaf" ∨ rule = "half") (hn : cs.length < 1000) : F__law_looked [.lst (cs.map sm), .str rule, .str h] = some (encR (lk rule (cs.map C.h) h)) := by
  have hl := rangeL_len' cs.length
  unfold lk
  rw [List.length_map]
  rcases hr with rfl | rfl | rfl
  · rw [if_neg (by decide)]
    obtain ⟨ρ, e⟩ := law_scan cs "all" h (.inl rfl) hn (rangeL 0 ((cs.length : Int) + 1)) 0 .non .non (by omega) (by omega)
    exact looked_of cs _ h hn e
  · rw [if_neg (by decide)]
    obtain ⟨ρ, e⟩ := law_scan cs "leaf" h (.inr rfl) hn (rangeL 0 ((cs.length : Int) + 1)) 0 .non .non (by omega) (by omega)
    exact looked_of cs _ h hn e
  · rw [if_pos rfl]
    obtain ⟨ρ, e⟩ := law_half cs h (rangeL 0 ((cs.length : Int) + 1)) 0 cs.length [] .non .non (by omega) (by omega) (by simp; omega)
    exact looked_of cs _ h hn e
end MP.k09
namespace MP.k09
open PySem L2 MP
/-! the program's lookups -/
theorem body_halves (cs : List C) (h : Str) (lo hi mid : Nat) (met : List Nat) (t e : D) (hm : mid < cs.length) (em : ((lo : Int) + ((hi : Int) - 1)) / 2 = mid) (hml : met.length < 2000) :
    b1_by_halves [dr cs, .str h, .lst (encL met), .int lo, .int ((hi : Int) - 1), t, e] =
      if cs[mid].h = h then .rt (encR (some mid, met ++ [mid])) [dr cs, .str h, .lst (encL (met ++ [mid])), .int lo, .int ((hi : Int) - 1), .int mid, .str cs[mid].h]
      else if ltS h cs[mid].h then .nx [dr cs, .str h, .lst (encL (met ++ [mid])), .int lo, .int ((mid : Int) - 1), .int mid, .str cs[mid].h]
      else .nx [dr cs, .str h, .lst (encL (met ++ [mid])), .int (mid + 1 : Nat), .int ((hi : Int) - 1), .int mid, .str cs[mid].h] := by
  have ap : app1 2 (.int mid) [dr cs, .str h, .lst (encL met), .int lo, .int ((hi : Int) - 1), .int mid, e] = .nx [dr cs, .str h, .lst (encL (met ++ [mid])), .int lo, .int ((hi : Int) - 1), .int mid, e] := by
    rw [app1_of (rs := encL met) rfl (by simp; omega), encL_snoc]; rfl
  unfold b1_by_halves
  by_cases e1 : cs[mid].h = h
  · simp -implicitDefEqProofs [eqD_ss, divC, em, ap, cd_at cs hm, hd_of, cs_of, e1, encR, encO]
  · by_cases e2 : ltS h cs[mid].h
    · simp at e2
      simp -implicitDefEqProofs [eqD_ss, divC, em, ap, cd_at cs hm, hd_of, cs_of, e1, e2]
    · have e2' : ¬ (h.cps < cs[mid].h.cps) := fun z => e2 (by simpa using z)
      simp -implicitDefEqProofs [eqD_ss, divC, em, ap, cd_at cs hm, hd_of, cs_of, e1, e2']
theorem halves (cs : List C) (h : Str) : ∀ (n lo hi : Nat) (met : List Nat) (t e : D), hi ≤ cs.length → hi - lo < n → met.length + (hi - lo) ≤ 2000 →
    (∃ ρ, whileS (asB (op2 leD (vD 3) (vD 4))) b1_by_halves n [dr cs, .str h, .lst (encL met), .int lo, .int ((hi : Int) - 1), t, e] = .rt (encR (half (cs.map C.h) h lo hi met)) ρ) ∨
    (∃ met' lo' hi' t' e', half (cs.map C.h) h lo hi met = (none, met') ∧ whileS (asB (op2 leD (vD 3) (vD 4))) b1_by_halves n [dr cs, .str h, .lst (encL met), .int lo, .int ((hi : Int) - 1), t, e] = .nx [dr cs, .str h, .lst (encL met'), lo', hi', t', e'])
  | 0, lo, hi, met, t, e, _, h2, _ => by omega
  | n + 1, lo, hi, met, t, e, h1, h2, h3 => by
    rw [half]
    by_cases hlt : lo < hi
    · obtain ⟨mid, em⟩ : ∃ mid, mid = (lo + hi - 1) / 2 := ⟨_, rfl⟩
      rw [← em, dif_pos hlt]
      have hm : mid < cs.length := by omega
      have eg : (cs.map C.h).getD mid h = cs[mid].h := by simp [List.getD_eq_getElem?_getD, hm]
      have hc : asB (op2 leD (vD 3) (vD 4)) [dr cs, .str h, .lst (encL met), .int lo, .int ((hi : Int) - 1), t, e] = .ok true [dr cs, .str h, .lst (encL met), .int lo, .int ((hi : Int) - 1), t, e] := by
        have : (lo : Int) ≤ (hi : Int) - 1 := by omega
        simp [this]
      rw [while_step hc, body_halves cs h lo hi mid met t e hm (by omega) (by omega), eg]
      by_cases e1 : cs[mid].h = h
      · rw [if_pos e1, if_pos e1]; exact .inl ⟨_, rfl⟩
      · rw [if_neg e1, if_neg e1]
        by_cases e2 : ltS h cs[mid].h
        · rw [if_pos e2, if_pos e2, lp_nx]
          exact halves cs h n lo mid (met ++ [mid]) _ _ (by omega) (by omega) (by simp; omega)
        · rw [if_neg e2, if_neg e2, lp_nx]
          exact halves cs h n (mid + 1) hi (met ++ [mid]) _ _ h1 (by omega) (by simp; omega)
    · have hc : asB (op2 leD (vD 3) (vD 4)) [dr cs, .str h, .lst (encL met), .int lo, .int ((hi : Int) - 1), t, e] = .ok false [dr cs, .str h, .lst (encL met), .int lo, .int ((hi : Int) - 1), t, e] := by
        have : ¬ (lo : Int) ≤ (hi : Int) - 1 := by omega
        simp [this]
      rw [dif_neg hlt, while_end hc]
      exact .inr ⟨met, _, _, _, _, rfl, rfl⟩
theorem by_halves_spec (cs : List C) (h : Str) (hn : cs.length < 1000) : F_by_halves [dr cs, .str h] = some (encR (half (cs.map C.h) h 0 cs.length [])) := by
  unfold F_by_halves runV d_by_halves
  generalize hN : (1000000 : Nat) = N
  have hN' : cs.length - 0 < N := by omega
  rcases halves cs h N 0 cs.length [] .non .non (by omega) hN' (by simp; omega) with ⟨ρ, e⟩ | ⟨met', lo', hi', t', e', e1, e2⟩
  · have e : whileS (asB (op2 leD (vD 3) (vD 4))) b1_by_halves N [dr cs, .str h, .lst [], .int 0, .int ((cs.length : Int) - 1), .non, .non] = .rt (encR (half (cs.map C.h) h 0 cs.length [])) ρ := e
    simp -implicitDefEqProofs [cs_of, e]
  · have e2 : whileS (asB (op2 leD (vD 3) (vD 4))) b1_by_halves N [dr cs, .str h, .lst [], .int 0, .int ((cs.length : Int) - 1), .non, .non] = .nx [dr cs, .str h, .lst (encL met'), lo', hi', t', e'] := e2
    rw [e1]
    simp -implicitDefEqProofs [cs_of, e2, encR, encO]
theorem body_obo (cs : List C) (h : Str) (x : C) (leaf : Bool) (i : Nat) (hi : i < 1000) :
    b1_one_by_one [dr cs, .str h, .bl leaf, .int i, cd x] =
      if x.h = h then .rt (encR (some i, List.range (i + 1))) [dr cs, .str h, .bl leaf, .int i, cd x]
      else if leaf = true ∧ ltS h x.h then .rt (encR (none, List.range (i + 1))) [dr cs, .str h, .bl leaf, .int i, cd x]
      else .nx [dr cs, .str h, .bl leaf, .int i, cd x] := by
  unfold b1_one_by_one
  by_cases e1 : x.h = h
  · simp -implicitDefEqProofs [eqD_ss, hd_of, e1, encR, encO, rg_enc i hi]
  · cases leaf with
    | false => simp -implicitDefEqProofs [eqD_ss, hd_of, e1]
    | true =>
      by_cases e2 : ltS h x.h
      · simp at e2
        simp -implicitDefEqProofs [eqD_ss, hd_of, e1, e2, encR, encO, rg_enc i hi]
      · have e2' : ¬ (h.cps < x.h.cps) := fun z => e2 (by simpa using z)
        simp -implicitDefEqProofs [eqD_ss, hd_of, e1, e2']
theorem obo (cs : List C) (h : Str) (leaf : Bool) : ∀ (r : List C) (i : Nat) (t e : D), i + r.length < 1000 →
    (∃ ρ, forL (bTup 2 (bCons (bName 3) (bCons (bName 4) bNil))) b1_one_by_one (enumL i (r.map cd)) [dr cs, .str h, .bl leaf, t, e] = .rt (encR (scan leaf h (r.map C.h) i)) ρ) ∨
    (scan leaf h (r.map C.h) i = (none, List.range (i + r.length)) ∧ ∃ t' e', forL (bTup 2 (bCons (bName 3) (bCons (bName 4) bNil))) b1_one_by_one (enumL i (r.map cd)) [dr cs, .str h, .bl leaf, t, e] = .nx [dr cs, .str h, .bl leaf, t', e'])
  | [], i, t, e, _ => .inr ⟨rfl, t, e, rfl⟩
  | x :: r, i, t, e, hl => by
    simp only [List.length_cons] at hl
    have es : enumL i ((x :: r).map cd) = .tup [.int (i : Nat), cd x] :: enumL (i + 1) (r.map cd) := rfl
    rw [es, forL_cons (ρ1 := [dr cs, .str h, .bl leaf, .int (i : Nat), cd x]) rfl, body_obo cs h x leaf i (by omega), List.map_cons]
    unfold scan
    by_cases e1 : x.h = h
    · rw [if_pos e1, if_pos e1]; exact .inl ⟨_, rfl⟩
    · rw [if_neg e1, if_neg e1]
      by_cases e2 : leaf = true ∧ ltS h x.h
      · rw [if_pos e2, if_pos e2]; exact .inl ⟨_, rfl⟩
      · rw [if_neg e2, if_neg e2, lp_nx]
        have := obo cs h leaf r (i + 1) (.int (i : Nat)) (cd x) (by omega)
        rw [show i + (x :: r).length = i + 1 + r.length by simp; omega]
        exact this
theorem obo_spec (cs : List C) (h : Str) (leaf : Bool) (hn : cs.length < 1000) : F_one_by_one [dr cs, .str h, .bl leaf] = some (encR (scan leaf h (cs.map C.h) 0)) := by
  unfold F_one_by_one runV d_one_by_one
  rcases obo cs h leaf cs 0 .non .non (by omega) with ⟨ρ, e⟩ | ⟨e1, t', e', e2⟩
  · simp -implicitDefEqProofs [cs_of, e]
  · rw [e1]
    simp -implicitDefEqProofs [cs_of, e2, encR, encO, rg_enc' cs.length hn]
theorem looked_up_spec (cs : List C) (rule h : Str) (hn : cs.length < 1000) : F_looked_up [dr cs, .str rule, .str h] = some (encR (lk rule (cs.map C.h) h)) := by
  unfold F_looked_up runV d_looked_up lk
  rw [List.length_map]
  by_cases hr : rule = "half"
  · simp -implicitDefEqProofs [eqD_ss, hr, by_halves_spec cs h hn]
  · simp -implicitDefEqProofs [eqD_ss, hr, obo_spec cs h _ hn]
end MP.k09
namespace MP.k09
open PySem L2 MP
/-! headings of a drawer -/
theorem headings_spec (cs : List C) (hn : cs.length < 64) : F_Drawer_headings [dr cs] = some (.tup ((srtSet (cs.map C.h)).map D.str)) := by
  have e := sortSet_L (cs.map C.h) (by simp; omega) (by have := uniqS_len (cs.map C.h); simp at this; omega)
  have lc := lc_mapA (b := bName 1) (g := op1 (isC "Card" F_Card_heading []) (vD 1)) (vs := [1]) (ρ := [dr cs, .non]) cd (fun c => .str c.h) (L := cs) fun c hc => ⟨[dr cs, cd c], rfl, by simp -implicitDefEqProofs [hd_of], rfl⟩
  rw [show (cs.map fun c => D.str c.h) = (cs.map C.h).map D.str by rw [List.map_map]; rfl] at lc
  have fl := fl_row cs
  unfold F_Drawer_headings runV d_Drawer_headings
  simp -implicitDefEqProofs only [List.length_cons, List.length_nil, startD_ap, List.cons_append, List.nil_append, Nat.reduceAdd, Nat.reduceSub, List.replicate, if_true, seqS_ap, retS_ap, callD_ap, consD_ap, lstM_ap, lcD_ap, itD_ap, op1_ap, vD_ap, look_zero, look_succ, bnd_ok, bnd_ap, fl, ofO_some, seqOf_t, lc, ret_ap, nilD_ap, e, tupleD_l, sb_ok, sq_rt, endV_rt]
theorem hg_of (cs : List C) (hn : cs.length < 64) : isC "Drawer" F_Drawer_headings [] (dr cs) = some (.tup ((srtSet (cs.map C.h)).map D.str)) := by
  have : isC "Drawer" F_Drawer_headings [] (dr cs) = F_Drawer_headings [dr cs] := by unfold dr; rw [isC_ins, if_pos rfl]
  rw [this, headings_spec cs hn]
end MP.k09
namespace MP.k09
open PySem L2 MP
/-! check_rule -/
theorem check_rule_spec (rule : Str) (hr : rule = "all" ∨ rule = "leaf" ∨ rule = "half") : F_check_rule [.str rule] = some .non := by
  rcases hr with rfl | rfl | rfl <;> rfl
end MP.k09
namespace MP.k09
open PySem L2 MP
/-! the cards that a script draws -/
abbrev six : List Str := ["ant", "bee", "cat", "dog", "elk", "fox"]
abbrev seven : List Str := ["ant", "bee", "cat", "dog", "elk", "fox", "gnu"]
theorem W_seven : ∀ s ∈ seven, W s := by
  intro s hs
  simp only [seven, List.mem_cons, List.not_mem_nil, or_false] at hs
  rcases hs with rfl | rfl | rfl | rfl | rfl | rfl | rfl <;> rfl
structure Drawn (c : C) : Prop where
  ok : CardOk c
  h : c.h ∈ six
  see : c.see = "" ∨ c.see ∈ seven
  al : ∀ a ∈ c.al, a ∈ seven
  ll : c.al.length ≤ 2
  bl : c.bs.length ≤ 2
  br : ∀ b ∈ c.bs, 1 ≤ b ∧ b ≤ 9
end MP.k09
namespace MP.k09
open PySem L2 MP
section
variable {x1 x9 x10 : D}
theorem six_seven {x : Str} (h : x ∈ six) : x ∈ seven := by
  simp only [six, seven, List.mem_cons, List.not_mem_nil, or_false] at *
  rcases h with h | h | h | h | h | h <;> simp [h]
end
end MP.k09
namespace MP.k09
open PySem L2 MP
/-! all known headings, by the law -/
def kn1 (c : C) : List Str := [c.h] ++ (if c.see = "" then [] else [c.see]) ++ c.al
def kn (cs : List C) : List Str := cs.flatMap kn1
theorem known_step (row : D) (c : C) (acc : List Str) (hl : acc.length + c.al.length < 900) (t : D) (x2 x3 x4 x5 : D) :
    b1__law_known [row, .lst (acc.map D.str), .str c.h, .tup (c.bs.map D.int), .str c.see, .tup (c.al.map D.str)] = .nx [row, .lst ((acc ++ kn1 c).map D.str), .str c.h, .tup (c.bs.map D.int), .str c.see, .tup (c.al.map D.str)] := by
  have z1 : szO (acc.map D.str ++ [.str c.h]) = some (acc.map D.str ++ [.str c.h]) := szO_of (by simp; omega)
  by_cases e : c.see = ""
  · have z2 : szO (acc.map D.str ++ [.str c.h] ++ []) = some (acc.map D.str ++ [.str c.h]) := by rw [List.append_nil]; exact z1
    have z3 : szO (acc.map D.str ++ [.str c.h] ++ c.al.map D.str) = some ((acc ++ kn1 c).map D.str) := by rw [szO_of (by simp; omega)]; simp [kn1, e]
    unfold b1__law_known
    simp -implicitDefEqProofs only [seqS_ap, setS_ap, op2_ap, vD_ap, look_succ, look_zero, bnd_ok, bnd_ap, lstM_ap, lstD_ap, consD_ap, nilD_ap, ret_ap, szO_1, ofO_some, addD_ll, z1, Option.map_some, ifD_ap, asB_ap, kD_ap, neD_ss, e, decide_true, Bool.not_true, bl1_bl, Bool.false_eq_true, if_false, szO_nil, z2, listM_ap, items_t, z3, sb_ok, List.set_cons_succ, List.set_cons_zero, sq_nx, nxS_ap]
  · have z2 : szO (acc.map D.str ++ [.str c.h] ++ [.str c.see]) = some (acc.map D.str ++ [.str c.h] ++ [.str c.see]) := szO_of (by simp; omega)
    have z3 : szO (acc.map D.str ++ [.str c.h] ++ [.str c.see] ++ c.al.map D.str) = some ((acc ++ kn1 c).map D.str) := by rw [szO_of (by simp; omega)]; simp [kn1, e]
    unfold b1__law_known
    simp -implicitDefEqProofs only [seqS_ap, setS_ap, op2_ap, vD_ap, look_succ, look_zero, bnd_ok, bnd_ap, lstM_ap, lstD_ap, consD_ap, nilD_ap, ret_ap, szO_1, ofO_some, addD_ll, z1, Option.map_some, ifD_ap, asB_ap, kD_ap, neD_ss, e, decide_false, Bool.not_false, bl1_bl, if_true, z2, listM_ap, items_t, z3, sb_ok, List.set_cons_succ, List.set_cons_zero, sq_nx, nxS_ap]
theorem known_loop (row : D) : ∀ (cs : List C) (acc : List Str) (x2 x3 x4 x5 : D), (∀ c ∈ cs, c.al.length ≤ 4) → acc.length + 6 * cs.length < 800 →
    ∃ y2 y3 y4 y5, forL (bTup 4 (bCons (bName 2) (bCons (bName 3) (bCons (bName 4) (bCons (bName 5) bNil))))) b1__law_known (cs.map sm) [row, .lst (acc.map D.str), x2, x3, x4, x5] = .nx [row, .lst ((acc ++ kn cs).map D.str), y2, y3, y4, y5]
  | [], acc, x2, x3, x4, x5, _, _ => ⟨x2, x3, x4, x5, by simp [kn]⟩
  | c :: cs, acc, x2, x3, x4, x5, ha, hl => by
    simp only [List.length_cons] at hl
    have a1 := ha c (by simp)
    have kl : (kn1 c).length ≤ 6 := by unfold kn1; split <;> simp <;> omega
    obtain ⟨y2, y3, y4, y5, e⟩ := known_loop row cs (acc ++ kn1 c) (.str c.h) (.tup (c.bs.map D.int)) (.str c.see) (.tup (c.al.map D.str)) (fun x hx => ha x (by simp [hx])) (by simp; omega)
    refine ⟨y2, y3, y4, y5, ?_⟩
    rw [List.map_cons, forL_cons (ρ1 := [row, .lst (acc.map D.str), .str c.h, .tup (c.bs.map D.int), .str c.see, .tup (c.al.map D.str)]) rfl, known_step row c acc (by omega) .non .non .non .non .non, lp_nx, e]
    simp [kn]
theorem kn_len (cs : List C) (ha : ∀ c ∈ cs, c.al.length ≤ 2) : (kn cs).length ≤ 4 * cs.length := by
  induction cs with
  | nil => simp [kn]
  | cons c l ih =>
    have a := ha c (by simp)
    have b := ih fun x hx => ha x (by simp [hx])
    have kl : (kn1 c).length ≤ 4 := by unfold kn1; split <;> simp <;> omega
    unfold kn at *
    simp only [List.flatMap_cons, List.length_append, List.length_cons] at *
    omega
theorem known_spec (cs : List C) (ha : ∀ c ∈ cs, c.al.length ≤ 2) (hl : cs.length ≤ 15) : F__law_known [.lst (cs.map sm)] = some (.lst ((srtSet (kn cs)).map D.str)) := by
  have kl := kn_len cs ha
  have e := sortSet_L (kn cs) (by omega) (by have := uniqS_len (kn cs); omega)
  obtain ⟨y2, y3, y4, y5, e2⟩ := known_loop (.lst (cs.map sm)) cs [] .non .non .non .non (fun c hc => by have := ha c hc; omega) (by simp; omega)
  rw [List.map_nil, List.nil_append] at e2
  unfold F__law_known runV d__law_known
  simp -implicitDefEqProofs only [List.length_cons, List.length_nil, startD_ap, List.cons_append, List.nil_append, Nat.reduceAdd, Nat.reduceSub, List.replicate, if_true, seqS_ap, setS_ap, lstM_ap, lstD_ap, nilD_ap, bnd_ok, bnd_ap, ret_ap, szO_nil, ofO_some, sb_ok, List.set_cons_succ, List.set_cons_zero, sq_nx, forS_ap, itD_ap, vD_ap, look_succ, look_zero, seqOf_l, e2, retS_ap, e, sq_rt, endV_rt]
end MP.k09
namespace MP.k09
open PySem L2 MP
/-! the law's own walk -/
theorem see_at (cs : List C) {p : Nat} (hp : p < cs.length) : see cs p = cs[p].see := by simp [see, hp]
theorem ixsm2 (c : C) : ixD (sm c) (.int 2) = some (.str c.see) := by simp [sm]
end MP.k09
namespace MP.k09
open PySem L2 MP
/-! the law's landing -/
end MP.k09
namespace MP.k09
open PySem L2 MP
/-! the program's walk -/
theorem leads_spec (c : C) : isC "Card" F_Card_leads [] (cd c) = some (.bl (!decide (c.see = ""))) := by
  have q := neD_ss c.see ""
  have : isC "Card" F_Card_leads [] (cd c) = F_Card_leads [cd c] := by unfold cd; rw [isC_ins, if_pos rfl]
  rw [this]
  unfold F_Card_leads runV d_Card_leads
  simp -implicitDefEqProofs [cd, sm, q]
theorem see_spec (c : C) : isC "Card" F_Card_see [] (cd c) = some (.str c.see) := by
  have : isC "Card" F_Card_see [] (cd c) = F_Card_see [cd c] := by unfold cd; rw [isC_ins, if_pos rfl]
  rw [this]
  unfold F_Card_see runV d_Card_see
  simp -implicitDefEqProofs [cd, sm]
/-- a walk under way -/
def wst (w : D) (st : List Nat) (so : List Str) (ef : Nat) : D := .ins "Walk" [w, .lst (encL st), .lst (so.map D.str), .int ef]
section
variable (cs : List C) (rule h : Str) (hn : cs.length < 1000) (so : List Str) (st : List Nat) (ef : Nat) (h1 : so.length < 9000) (h2 : st.length < 9000)
include hn h1 h2
theorem go_ring (hm : h ∈ so) : F_Walk_go_on_x (wst .non st so ef) [dr cs, .str rule, .str h] = some (.str h, wst (.str "ring") st so ef) := by
  have i1 := in_strL false h so
  unfold F_Walk_go_on_x wst
  rw [onIns_ins]
  unfold runM d_Walk_go_on_x
  simp -implicitDefEqProofs [i1, hm]
theorem go_lost {l : List Nat} (hm : h ∉ so) (eo : lk rule (cs.map C.h) h = (none, l)) : F_Walk_go_on_x (wst .non st so ef) [dr cs, .str rule, .str h] = some (.str h, wst (.str "lost") st (so ++ [h]) (ef + l.length)) := by
  have i1 := in_strL false h so
  have c1 := looked_up_spec cs rule h hn
  have a1 : so.length < 16000000 := by omega
  rw [eo] at c1
  have er : encR (none, l) = .tup [.non, .tup (encL l)] := rfl
  unfold F_Walk_go_on_x wst
  rw [onIns_ins]
  unfold runM d_Walk_go_on_x
  simp -implicitDefEqProofs [i1, hm, c1, er, isND, a1]
theorem go_card {l : List Nat} {p : Nat} (hm : h ∉ so) (eo : lk rule (cs.map C.h) h = (some p, l)) : F_Walk_go_on_x (wst .non st so ef) [dr cs, .str rule, .str h] = some (.str (if see cs p = "" then h else see cs p), wst (if see cs p = "" then .str "entry" else .non) (st ++ [p]) (so ++ [h]) (ef + l.length)) := by
  have i1 := in_strL false h so
  have c1 := looked_up_spec cs rule h hn
  have a1 : so.length < 16000000 := by omega
  have a2 : st.length < 16000000 := by omega
  rw [eo] at c1
  have er : encR (some p, l) = .tup [.int p, .tup (encL l)] := rfl
  have hp : p < cs.length := by
    have := lk_lt (rule := rule) (hs := cs.map C.h) (h := h) (p := p) (by rw [eo])
    simpa using this
  have s1 := cs_of cs
  have s2 := cd_at cs hp
  have s3 := leads_spec cs[p]
  have s4 := see_spec cs[p]
  have s5 := see_at cs hp
  have i0 : isND (.int (p : Int)) .non = some (.bl false) := rfl
  rw [s5]
  unfold F_Walk_go_on_x wst
  rw [onIns_ins]
  unfold runM d_Walk_go_on_x
  by_cases es : cs[p].see = ""
  · simp -implicitDefEqProofs [i1, hm, c1, er, i0, a1, a2, s1, s2, s3, es, ← encL_snoc]
  · simp -implicitDefEqProofs [i1, hm, c1, er, i0, a1, a2, s1, s2, s3, s4, es, ← encL_snoc]
end
theorem walk_loop (cs : List C) (rule : Str) (hn : cs.length < 1000) : ∀ (n N : Nat) (h : Str) (so : List Str) (st : List Nat) (ef : Nat) (r : Wr), wk rule cs n h so st ef = some r → n < N → so.length + n < 9000 → st.length + n < 9000 →
    ∃ y, whileS (asB (op2 isND (fldO "Walk" 0 0) (kD .non))) b1_Walk N [wst .non st so ef, dr cs, .str rule, .str h] = .nx [encWr r, dr cs, .str rule, y]
  | 0, _, _, _, _, _, _, e, _, _, _ => by cases e
  | n + 1, 0, _, _, _, _, _, _, hl, _, _ => by omega
  | n + 1, N + 1, h, so, st, ef, r, e, hl, h1, h2 => by
    have c0 : asB (op2 isND (fldO "Walk" 0 0) (kD .non)) [wst .non st so ef, dr cs, .str rule, .str h] = .ok true [wst .non st so ef, dr cs, .str rule, .str h] := by
      simp -implicitDefEqProofs [wst, isND]
    have c1 : ∀ (w : Str) (so : List Str) (st : List Nat) (ef : Nat) (y : D), asB (op2 isND (fldO "Walk" 0 0) (kD .non)) [wst (.str w) st so ef, dr cs, .str rule, y] = .ok false [wst (.str w) st so ef, dr cs, .str rule, y] := fun w so st ef y => by
      simp -implicitDefEqProofs [wst, isND]
    have stp : ∀ (h' : Str) (w : D) (so' : List Str) (st' : List Nat) (ef' : Nat), F_Walk_go_on_x (wst .non st so ef) [dr cs, .str rule, .str h] = some (.str h', wst w st' so' ef') → b1_Walk [wst .non st so ef, dr cs, .str rule, .str h] = .nx [wst w st' so' ef', dr cs, .str rule, .str h'] := fun h' w so' st' ef' q => by
      have q1 := callM1_of (fl := false) (j := 0) (ρ := [wst .non st so ef, dr cs, .str rule, .str h]) q rfl
      have q0 : ofC "Walk" 0 [wst .non st so ef, dr cs, .str rule, .str h] = .ok () [wst .non st so ef, dr cs, .str rule, .str h] := by simp [wst]
      unfold b1_Walk
      simp -implicitDefEqProofs only [seqS_ap, setS_ap, callM_ap, q0, bnd_ok, bnd_ap, consD_ap, vD_ap, look_succ, look_zero, nilD_ap, ret_ap, q1, sb_ok, List.set_cons_zero, List.set_cons_succ, sq_nx, nxS_ap]
    have ended : ∀ (h' : Str) (w : Str) (so' : List Str) (st' : List Nat) (ef' : Nat), F_Walk_go_on_x (wst .non st so ef) [dr cs, .str rule, .str h] = some (.str h', wst (.str w) st' so' ef') → whileS (asB (op2 isND (fldO "Walk" 0 0) (kD .non))) b1_Walk (N + 1) [wst .non st so ef, dr cs, .str rule, .str h] = .nx [encWr ⟨w, st', so', ef'⟩, dr cs, .str rule, .str h'] := fun h' w so' st' ef' q => by
      rw [while_step c0, stp _ _ _ _ _ q, lp_nx]
      cases N with
      | zero => omega
      | succ N => rw [while_end (c1 _ _ _ _ _)]; rfl
    unfold wk at e
    by_cases hm : h ∈ so
    · rw [if_pos hm] at e
      cases e
      exact ⟨_, ended _ _ _ _ _ (go_ring cs rule h hn so st ef (by omega) (by omega) hm)⟩
    · rw [if_neg hm] at e
      obtain ⟨o, l, eo⟩ : ∃ (o : Option Nat) (l : List Nat), lk rule (cs.map C.h) h = (o, l) := ⟨_, _, rfl⟩
      rw [eo] at e
      dsimp only at e
      cases o with
      | none =>
        cases e
        exact ⟨_, ended _ _ _ _ _ (go_lost cs rule h hn so st ef (by omega) (by omega) hm eo)⟩
      | some p =>
        dsimp only at e
        have g := go_card cs rule h hn so st ef (by omega) (by omega) hm eo
        by_cases es : see cs p = ""
        · rw [if_pos es] at e
          cases e
          rw [if_pos es, if_pos es] at g
          exact ⟨_, ended _ _ _ _ _ g⟩
        · rw [if_neg es] at e
          rw [if_neg es, if_neg es] at g
          obtain ⟨y, ih⟩ := walk_loop cs rule hn n N (see cs p) (so ++ [h]) (st ++ [p]) (ef + l.length) r e (by omega) (by simp; omega) (by simp; omega)
          refine ⟨y, ?_⟩
          rw [while_step c0, stp _ _ _ _ _ g, lp_nx]
          exact ih
theorem walk_spec (cs : List C) (rule h : Str) (hn : cs.length < 1000) : makeM "Walk" F_Walk [dr cs, .str rule, .str h] = some (encWr (wl rule cs h)) := by
  generalize hN : (1000000 : Nat) = N
  obtain ⟨y, e⟩ := walk_loop cs rule hn _ N h [] [] 0 _ (wl_eq rule cs h) (by omega) (by simp; omega) (by simp; omega)
  have e : whileS (asB (op2 isND (fldO "Walk" 0 0) (kD .non))) b1_Walk N [.ins "Walk" [.non, .lst [], .lst [], .int 0], dr cs, .str rule, .str h] = _ := e
  have q : F_Walk (.ins "Walk" []) [dr cs, .str rule, .str h] = some (.non, encWr (wl rule cs h)) := by
    unfold F_Walk
    rw [onIns_ins]
    unfold runM d_Walk
    rw [hN]
    simp -implicitDefEqProofs [e]
  unfold makeM
  rw [q]
  have : (flds "Walk").length = 4 := by decide +kernel
  simp [encWr, this]
theorem chkW (r : Wr) : chkC "Walk" (encWr r) = some (encWr r) := by unfold encWr; rw [chkC_ins, if_pos rfl]
end MP.k09
namespace MP.k09
open PySem L2 MP
/-! check_heading -/
theorem check_heading_spec (h : Str) (hw : W h) : F_check_heading [.str h] = some .non := by
  have w1 : F_is_word [.str h] = some (.bl true) := hw
  unfold F_check_heading runV d_check_heading
  simp -implicitDefEqProofs [w1]
end MP.k09
namespace MP.k09
open PySem L2 MP
/-! also of a card -/
end MP.k09
namespace MP.k09
open PySem L2 MP
/-! books of a card -/
end MP.k09
namespace MP.k09
open PySem L2 MP
/-! the program's known headings -/
theorem also_spec (c : C) : isC "Card" F_Card_also [] (cd c) = some (.tup (c.al.map D.str)) := by
  have : isC "Card" F_Card_also [] (cd c) = F_Card_also [cd c] := by unfold cd; rw [isC_ins, if_pos rfl]
  rw [this]
  unfold F_Card_also runV d_Card_also
  simp -implicitDefEqProofs [cd, sm]
def kn2 (c : C) : List Str := if c.see = "" then c.al else [c.see]
theorem kh_loop (x0 : D) : ∀ (cs : List C) (acc : List Str) (x2 : D), (∀ c ∈ cs, c.al.length ≤ 4) → acc.length + 6 * cs.length < 9000 →
    ∃ y, forL (bName 2) b1_known_headings (cs.map cd) [x0, .lst (acc.map D.str), x2] = .nx [x0, .lst ((acc ++ cs.flatMap kn2).map D.str), y]
  | [], acc, x2, _, _ => ⟨x2, by simp⟩
  | c :: cs, acc, x2, ha, hl => by
    simp only [List.length_cons] at hl
    have hc := ha c (by simp)
    have k2 : (kn2 c).length ≤ 4 := by
      unfold kn2
      split
      · exact hc
      · simp
    obtain ⟨y, e⟩ := kh_loop x0 cs (acc ++ kn2 c) (cd c) (fun z hz => ha z (by simp [hz])) (by simp; omega)
    refine ⟨y, ?_⟩
    have s3 := leads_spec c
    have s4 := see_spec c
    have s5 := also_spec c
    rw [List.map_cons, forL_cons rfl]
    simp only [List.set_cons_succ, List.set_cons_zero]
    have body : b1_known_headings [x0, .lst (acc.map D.str), cd c] = .nx [x0, .lst ((acc ++ kn2 c).map D.str), cd c] := by
      unfold b1_known_headings
      by_cases es : c.see = ""
      · have q := ext2_of (j := 1) (ρ := [x0, .lst (acc.map D.str), cd c]) (d := .tup (c.al.map D.str)) (rs := acc.map D.str) rfl rfl (by simp; omega)
        simp -implicitDefEqProofs [s3, s5, es, q, kn2]
      · have q := ext2_of (j := 1) (ρ := [x0, .lst (acc.map D.str), cd c]) (d := .lst [.str c.see]) (rs := acc.map D.str) rfl rfl (by simp; omega)
        simp -implicitDefEqProofs [s3, s4, es, q, kn2]
    rw [body, lp_nx, e]
    simp
theorem kn2_len (cs : List C) (ha : ∀ c ∈ cs, c.al.length ≤ 4) : (cs.flatMap kn2).length ≤ 4 * cs.length := by
  induction cs with
  | nil => simp
  | cons c cs ih =>
    have := ih fun z hz => ha z (by simp [hz])
    have k2 : (kn2 c).length ≤ 4 := by
      unfold kn2
      split
      · exact ha c (by simp)
      · simp
    simp only [List.flatMap_cons, List.length_append, List.length_cons]
    omega
/-- all known headings -/
def knA (cs : List C) : List Str := srtSet (cs.map C.h) ++ cs.flatMap kn2
theorem known_headings_spec (cs : List C) (ha : ∀ c ∈ cs, c.al.length ≤ 4) (hn : cs.length < 64) (hu : (uniqS (knA cs)).length < 64) : F_known_headings [dr cs] = some (.lst ((srtSet (knA cs)).map D.str)) := by
  have h1 := hg_of cs hn
  have h2 := cs_of cs
  have sl := srtSet_len (cs.map C.h)
  simp only [List.length_map] at sl
  obtain ⟨y, e⟩ := kh_loop (dr cs) cs (srtSet (cs.map C.h)) .non ha (by omega)
  have kl := kn2_len cs ha
  have s := sortSet_L (knA cs) (by unfold knA; rw [List.length_append]; omega) hu
  have em : srtSet (cs.map C.h) ++ cs.flatMap kn2 = knA cs := rfl
  rw [em] at e
  generalize hX : (srtSet (cs.map C.h)).map D.str = X at e h1
  unfold F_known_headings runV d_known_headings
  simp -implicitDefEqProofs [h1, h2, e, s]
end MP.k09
namespace MP.k09
open PySem L2 MP
/-! drawn cards: known headings -/
theorem knA_kn {cs : List C} (hc : ∀ c ∈ cs, CardOk c) : srtSet (knA cs) = srtSet (kn cs) := by
  refine srtSet_congr fun z => ?_
  unfold knA kn
  rw [List.mem_append, srtSet_mem, List.mem_map, List.mem_flatMap, List.mem_flatMap]
  constructor
  · rintro (⟨c, hm, rfl⟩ | ⟨c, hm, hz⟩)
    · exact ⟨c, hm, by simp [kn1]⟩
    · refine ⟨c, hm, ?_⟩
      unfold kn2 at hz
      unfold kn1
      split at hz
      · simp [hz]
      · rename_i e
        simp at hz
        simp [hz, e]
  · rintro ⟨c, hm, hz⟩
    unfold kn1 at hz
    have hk := (hc c hm).se
    by_cases e : c.see = ""
    · rw [if_pos e] at hz
      simp at hz
      rcases hz with rfl | hz
      · exact .inl ⟨c, hm, rfl⟩
      · exact .inr ⟨c, hm, by unfold kn2; rw [if_pos e]; exact hz⟩
    · rw [if_neg e] at hz
      rcases hk with hk | ⟨_, ha, _⟩
      · exact (e hk).elim
      · rw [ha] at hz
        simp at hz
        rcases hz with rfl | rfl
        · exact .inl ⟨c, hm, rfl⟩
        · exact .inr ⟨c, hm, by unfold kn2; rw [if_neg e]; simp⟩
theorem known_drawn (cs : List C) (hc : ∀ c ∈ cs, Drawn c) (hn : cs.length ≤ 15) : F_known_headings [dr cs] = some (.lst ((srtSet (kn cs)).map D.str)) := by
  have kl := kn_len cs fun c hm => (hc c hm).ll
  have e := knA_kn fun c hm => (hc c hm).ok
  have u : (uniqS (knA cs)).length < 64 := by
    have e1 := congrArg List.length e
    unfold srtSet sortS at e1
    rw [List.length_mergeSort, List.length_mergeSort] at e1
    have := uniqS_len (kn cs)
    omega
  rw [known_headings_spec cs (fun c hm => by have := (hc c hm).ll; omega) (by omega) u, e]
end MP.k09
namespace MP.k09
open PySem L2 MP
/-! known headings of drawn cards -/
theorem kn_seven {cs : List C} (hc : ∀ c ∈ cs, Drawn c) {z : Str} (hz : z ∈ srtSet (kn cs)) : z ∈ seven := by
  rw [srtSet_mem] at hz
  unfold kn at hz
  obtain ⟨c, hm, hz⟩ := List.mem_flatMap.mp hz
  have d := hc c hm
  unfold kn1 at hz
  simp only [List.mem_append, List.mem_singleton] at hz
  rcases hz with (rfl | hz) | hz
  · exact six_seven d.h
  · split at hz
    · cases hz
    · simp at hz
      rw [hz]
      rcases d.see with e | e
      · rename_i q; exact (q e).elim
      · exact e
  · exact d.al z hz
end MP.k09
namespace MP.k09
open PySem L2 MP
/-! check_place -/
end MP.k09
namespace MP.k09
open PySem L2 MP
/-! walk, looks, landings, dearest -/
theorem walk2_spec (cs : List C) (rule h : Str) (hr : rule = "all" ∨ rule = "leaf" ∨ rule = "half") (hw : W h) (hn : cs.length < 1000) : F_walk [dr cs, .str rule, .str h] = some (.tup [.str (wl rule cs h).w, .tup (encL (wl rule cs h).st)]) := by
  have r1 := check_rule_spec rule hr
  have c1 := check_heading_spec h hw
  have w1 := walk_spec cs rule h hn
  unfold F_walk runV d_walk
  simp -implicitDefEqProofs [r1, c1, w1, encWr]
/-- the most looks -/
def more (e : Nat) (h : Str) : Option (Nat × Str) → Option (Nat × Str)
  | none => some (e, h)
  | some p => if p.1 < e then some (e, h) else some p
end MP.k09
namespace MP.k09
open PySem L2 MP
/-! look_up, never_found -/
end MP.k09
namespace MP.k09
open PySem L2 MP
/-! the program's gathering -/
end MP.k09
namespace MP.k09
open PySem L2 MP
/-! the law's own gathering -/
end MP.k09
namespace MP.k09
open PySem L2 MP
/-! gather -/
end MP.k09
namespace MP.k09
open PySem L2 MP
/-! least_patience -/
end MP.k09
namespace MP.k09
open PySem L2 MP
/-! the law's own reach -/
end MP.k09
namespace MP.k09
open PySem L2 MP
/-! reached, reach -/
end MP.k09
namespace MP.k09
open PySem L2 MP
/-! reach -/
end MP.k09
namespace MP.k09
open PySem L2 MP
/-! all_books -/
end MP.k09
namespace MP.k09
open PySem L2 MP
/-! reached_together, hidden -/
end MP.k09
namespace MP.k09
open PySem L2 MP
/-! led_to, all_ahead, also_rings -/
end MP.k09
namespace MP.k09
open PySem L2 MP
/-! drawers without some cards -/
end MP.k09
namespace MP.k09
open PySem L2 MP
/-! choices -/
end MP.k09
namespace MP.k09
open PySem L2 MP
/-! cuts -/
end MP.k09
namespace MP.k09
open PySem L2 MP
/-! drawer[place] -/
end MP.k09
namespace MP.k09
open PySem L2 MP
/-! see_rings -/
theorem see_rings_loop (cs : List C) (rule : Str) (hn : cs.length < 1000) : ∀ (K : List Str) (acc : List (List Str)) (x3 x4 x5 : D), acc.length + K.length < 9000 →
    ∃ y3 y4 y5, forL (bName 3) b1_see_rings (K.map D.str) [dr cs, .str rule, .lst (acc.map fun r => .tup (r.map D.str)), x3, x4, x5] = .nx [dr cs, .str rule, .lst ((acc ++ rgs rule cs K).map fun r => .tup (r.map D.str)), y3, y4, y5]
  | [], acc, x3, x4, x5, _ => ⟨x3, x4, x5, by simp [rgs]⟩
  | h :: K, acc, x3, x4, x5, hl => by
    have w1 := walk_spec cs rule h hn
    have c0 := chkW (wl rule cs h)
    have eR := eqD_ss (wl rule cs h).w "ring"
    have mn := min_strs (wl_so_ne rule cs h)
    have eM := eqD_ss h (mnS (wl rule cs h).so)
    have f0 : fldD "Walk" 0 (encWr (wl rule cs h)) = some (.str (wl rule cs h).w) := rfl
    have f1 : fldD "Walk" 1 (encWr (wl rule cs h)) = some (.lst (encL (wl rule cs h).st)) := rfl
    have f2 : fldD "Walk" 2 (encWr (wl rule cs h)) = some (.lst ((wl rule cs h).so.map D.str)) := rfl
    have csq := cs_of cs
    have ng : negD (.int 1) = some (.int (-1)) := rfl
    have ap : ∀ x y, app1 2 (.tup ((wl rule cs h).so.map D.str)) [dr cs, .str rule, .lst (acc.map fun r => .tup (r.map D.str)), .str h, x, y] = .nx [dr cs, .str rule, .lst ((acc ++ [(wl rule cs h).so]).map fun r => .tup (r.map D.str)), .str h, x, y] := fun x y => by
      have := app1_of (j := 2) (rs := acc.map fun r => D.tup (r.map D.str)) (d := .tup ((wl rule cs h).so.map D.str)) (ρ := [dr cs, .str rule, .lst (acc.map fun r => .tup (r.map D.str)), .str h, x, y]) rfl (by simp at hl ⊢; omega)
      rw [this, List.map_append]; rfl
    have b : ∃ y4 y5, b1_see_rings [dr cs, .str rule, .lst (acc.map fun r => .tup (r.map D.str)), .str h, x4, x5] = .nx [dr cs, .str rule, .lst ((acc ++ rgs rule cs [h]).map fun r => .tup (r.map D.str)), .str h, y4, y5] := by
      by_cases hr : (wl rule cs h).w = "ring"
      · obtain ⟨p, hp, hs⟩ := wl_ring_last hr
        have la := last_of hp
        have pl : p < cs.length := by
          by_cases q : p < cs.length
          · exact q
          · exact (hs (by simp [see, q])).elim
        have s5 := see_at cs pl
        have s2 := cd_at cs pl
        have s4 := see_spec cs[p]
        have eS := eqD_ss cs[p].see h
        have e1 : decide ((wl rule cs h).w = "ring") = true := by simp [hr]
        rw [e1] at eR
        have rn : rnd rule cs h = decide (cs[p].see = h) := by
          unfold rnd
          rw [e1, hp, Option.map_some, s5]
          simp
        refine ⟨encWr (wl rule cs h), .bl (decide (cs[p].see = h)), ?_⟩
        unfold b1_see_rings
        by_cases q1 : cs[p].see = h
        · rw [decide_eq_true q1] at eS rn
          by_cases q2 : h = mnS (wl rule cs h).so
          · rw [decide_eq_true q2] at eM
            have rr : rgs rule cs [h] = [(wl rule cs h).so] := by
              unfold rgs
              rw [List.filter_cons, rn, decide_eq_true q2]; rfl
            rw [rr, decide_eq_true q1]
            simp -implicitDefEqProofs only [seqS_ap, setS_ap, callD_ap, consD_ap, nilD_ap, vD_ap, kD_ap, look_succ, look_zero, bnd_ok, bnd_ap, ret_ap, w1, ofO_some, sb_ok, List.set_cons_succ, List.set_cons_zero, sq_nx, andD_ap, op1_ap, op2_ap, f0, f1, f2, eR, if_true, Bool.false_eq_true, if_false, csq, ng, ixD_l, ixD_t, la, s2, s4, eS, ifS_ap, andB_ap, asB_ap, bl1_bl, minM_ap, mn, eM, appS_ap, tupleD_l, ap, nxS_ap]
          · rw [decide_eq_false q2] at eM
            have rr : rgs rule cs [h] = [] := by
              unfold rgs
              rw [List.filter_cons, rn, decide_eq_false q2]; rfl
            rw [rr, decide_eq_true q1, List.append_nil]
            simp -implicitDefEqProofs only [seqS_ap, setS_ap, callD_ap, consD_ap, nilD_ap, vD_ap, kD_ap, look_succ, look_zero, bnd_ok, bnd_ap, ret_ap, w1, ofO_some, sb_ok, List.set_cons_succ, List.set_cons_zero, sq_nx, andD_ap, op1_ap, op2_ap, f0, f1, f2, eR, if_true, Bool.false_eq_true, if_false, csq, ng, ixD_l, ixD_t, la, s2, s4, eS, ifS_ap, andB_ap, asB_ap, bl1_bl, minM_ap, mn, eM, appS_ap, tupleD_l, ap, nxS_ap]
        · rw [decide_eq_false q1] at eS rn
          have rr : rgs rule cs [h] = [] := by
            unfold rgs
            rw [List.filter_cons, rn]; rfl
          rw [rr, decide_eq_false q1, List.append_nil]
          simp -implicitDefEqProofs only [seqS_ap, setS_ap, callD_ap, consD_ap, nilD_ap, vD_ap, kD_ap, look_succ, look_zero, bnd_ok, bnd_ap, ret_ap, w1, ofO_some, sb_ok, List.set_cons_succ, List.set_cons_zero, sq_nx, andD_ap, op1_ap, op2_ap, f0, f1, f2, eR, if_true, Bool.false_eq_true, if_false, csq, ng, ixD_l, ixD_t, la, s2, s4, eS, ifS_ap, andB_ap, asB_ap, bl1_bl, minM_ap, mn, eM, appS_ap, tupleD_l, ap, nxS_ap]
      · have e1 : decide ((wl rule cs h).w = "ring") = false := by simp [hr]
        rw [e1] at eR
        have rr : rgs rule cs [h] = [] := by
          unfold rgs rnd
          rw [List.filter_cons, e1]; rfl
        rw [rr, List.append_nil]
        refine ⟨encWr (wl rule cs h), .bl false, ?_⟩
        unfold b1_see_rings
        simp -implicitDefEqProofs only [seqS_ap, setS_ap, callD_ap, consD_ap, nilD_ap, vD_ap, kD_ap, look_succ, look_zero, bnd_ok, bnd_ap, ret_ap, w1, ofO_some, sb_ok, List.set_cons_succ, List.set_cons_zero, sq_nx, andD_ap, op1_ap, op2_ap, f0, f1, f2, eR, if_true, Bool.false_eq_true, if_false, ifS_ap, andB_ap, asB_ap, bl1_bl, nxS_ap]
    obtain ⟨y4, y5, b⟩ := b
    obtain ⟨z3, z4, z5, ih⟩ := see_rings_loop cs rule hn K (acc ++ rgs rule cs [h]) (.str h) y4 y5 (by
      have : (rgs rule cs [h]).length ≤ 1 := by unfold rgs; rw [List.length_map]; exact List.length_filter_le _ _
      simp at hl ⊢; omega)
    refine ⟨z3, z4, z5, ?_⟩
    have e : rgs rule cs (h :: K) = rgs rule cs [h] ++ rgs rule cs K := by
      unfold rgs
      rw [← List.map_append, ← List.filter_append]; rfl
    rw [List.map_cons, forL_cons rfl]
    simp only [List.set_cons_succ, List.set_cons_zero]
    rw [b, lp_nx, ih, e, List.append_assoc]
theorem see_rings_spec (cs : List C) (rule : Str) (hr : rule = "all" ∨ rule = "leaf" ∨ rule = "half") (hn : cs.length < 1000) {K : List Str} (kh : F_known_headings [dr cs] = some (.lst (K.map D.str))) (hK : K.length < 1000) :
    F_see_rings [dr cs, .str rule] = some (encRg (rgs rule cs K)) := by
  have r1 := check_rule_spec rule hr
  obtain ⟨y3, y4, y5, l1⟩ := see_rings_loop cs rule hn K [] .non .non .non (by simp; omega)
  have l1 : forL (bName 3) b1_see_rings (K.map D.str) [dr cs, .str rule, .lst [], .non, .non, .non] = _ := l1
  rw [List.nil_append] at l1
  unfold F_see_rings runV d_see_rings encRg
  simp -implicitDefEqProofs only [List.length_cons, List.length_nil, startD_ap, List.cons_append, List.nil_append, Nat.reduceAdd, Nat.reduceSub, List.replicate, if_true, seqS_ap, exprS_ap, callD_ap, consD_ap, nilD_ap, vD_ap, kD_ap, look_succ, look_zero, bnd_ok, bnd_ap, ret_ap, r1, ofO_some, sb_ok, sq_nx, setLS_ap, lstD_ap, szO_nil, List.set_cons_succ, List.set_cons_zero, forS_ap, itD_ap, kh, seqOf_l, l1, retS_ap, sq_rt, endV_rt]
end MP.k09
/-! rings by powers -/
namespace MP
open PySem L2
section
variable {s : Str → Option Str}
open Classical in
noncomputable def pv (s : Str → Option Str) (h : Str) : Nat := if p : ∃ t, Per s t h then p.choose else 0
theorem pv_eq {t : Nat} {h : Str} (p : Per s t h) : pv s h = t := by
  unfold pv
  rw [dif_pos ⟨t, p⟩]
  exact Per.uniq (Exists.choose_spec (⟨t, p⟩ : ∃ t, Per s t h)) p
/-- those that come back behind t steps are noted, once -/
def addR (s : Str → Option Str) (t : Nat) : List Str → List Str → List Str
  | acc, [] => acc
  | acc, h :: L => addR s t (if itN s t h = some h ∧ h ∉ acc then acc ++ [h] else acc) L
theorem addR_mem {t : Nat} {x : Str} : ∀ (L acc : List Str), x ∈ addR s t acc L ↔ x ∈ acc ∨ (x ∈ L ∧ itN s t x = some x)
  | [], acc => by simp [addR]
  | h :: L, acc => by
    rw [addR, addR_mem L]
    by_cases c : itN s t h = some h ∧ h ∉ acc
    · rw [if_pos c, List.mem_append, List.mem_singleton, List.mem_cons]
      constructor
      · rintro ((a | rfl) | b)
        · exact .inl a
        · exact .inr ⟨.inl rfl, c.1⟩
        · exact .inr ⟨.inr b.1, b.2⟩
      · rintro (a | ⟨rfl | b, e⟩)
        · exact .inl (.inl a)
        · exact .inl (.inr rfl)
        · exact .inr ⟨b, e⟩
    · rw [if_neg c, List.mem_cons]
      constructor
      · rintro (a | b)
        · exact .inl a
        · exact .inr ⟨.inr b.1, b.2⟩
      · rintro (a | ⟨rfl | b, e⟩)
        · exact .inl a
        · exact .inl (Classical.byContradiction fun n => c ⟨e, n⟩)
        · exact .inr ⟨b, e⟩
theorem addR_nd {t : Nat} : ∀ (L acc : List Str), acc.Nodup → (addR s t acc L).Nodup
  | [], acc, h => h
  | x :: L, acc, h => by
    rw [addR]
    refine addR_nd L _ ?_
    split
    · rename_i c; exact nd_snoc h c.2
    · exact h
def rd (s : Str → Option Str) (l : List Str) : Nat → List Str
  | 0 => []
  | t + 1 => addR s (t + 1) (rd s l t) l
theorem rd_nd (l : List Str) : ∀ t, (rd s l t).Nodup
  | 0 => List.nodup_nil
  | t + 1 => addR_nd _ _ (rd_nd l t)
theorem rd_mem {l : List Str} {x : Str} : ∀ t, x ∈ rd s l t ↔ x ∈ l ∧ ∃ u, Per s u x ∧ u ≤ t
  | 0 => by
    constructor
    · intro h; cases h
    · rintro ⟨_, u, p, h⟩
      have := p.pos
      omega
  | t + 1 => by
    rw [rd, addR_mem, rd_mem t]
    constructor
    · rintro (⟨a, u, p, h⟩ | ⟨a, e⟩)
      · exact ⟨a, u, p, by omega⟩
      · obtain ⟨u, p, h⟩ := per_of (t + 1) (t + 1) (Nat.le_refl _) (by omega) e
        exact ⟨a, u, p, h⟩
    · rintro ⟨a, u, p, h⟩
      by_cases q : u ≤ t
      · exact .inl ⟨a, u, p, q⟩
      · have : u = t + 1 := by omega
        subst this
        exact .inr ⟨a, p.on⟩
theorem row_nd {t : Nat} {x : Str} (p : Per s t x) : (row_ s t x).Nodup := by
  unfold row_
  rw [List.nodup_iff_pairwise_ne, List.pairwise_map]
  refine List.pairwise_lt_range.imp_of_mem fun {a b} ha hb hab e => ?_
  have ha := List.mem_range.mp ha
  have hb := List.mem_range.mp hb
  obtain ⟨y, hy⟩ := p.all a
  obtain ⟨z, hz⟩ := p.all b
  rw [hy, hz] at e
  have := p.inj ha hb (by rw [hy, hz]; exact congrArg some e)
  omega
theorem per_le {U : List Str} (hU : ∀ x y, s x = some y → x ∈ U) {t : Nat} {x : Str} (p : Per s t x) : t ≤ U.length := by
  have := nd_len (row_ s t x) U (row_nd p) fun z hz => by
    obtain ⟨i, hi, e⟩ := (row_mem fun i _ => p.all i).mp hz
    obtain ⟨y, hy⟩ := (p.move e).all 1
    exact hU z y hy
  simpa [row_] using this
/-- the last heading to which the steps lead -/
def sp (s : Str → Option Str) : Nat → Str → Str
  | 0, h => h
  | n + 1, h => (s (sp s n h)).getD (sp s n h)
theorem sp_some {h : Str} : ∀ {n : Nat} {y : Str}, itN s n h = some y → sp s n h = y
  | 0, y, e => by cases e; rfl
  | n + 1, y, e => by
    have e : (itN s n h).bind s = some y := e
    cases q : itN s n h with
    | none => rw [q] at e; cases e
    | some z =>
      rw [q] at e
      have e : s z = some y := e
      rw [sp, sp_some q, e]; rfl
theorem sp_none {h : Str} : ∀ {n : Nat}, itN s n h = none → s (sp s n h) = none
  | 0, e => by cases e
  | n + 1, e => by
    have e : (itN s n h).bind s = none := e
    rw [sp]
    cases q : itN s n h with
    | none => rw [sp_none q]; exact sp_none q
    | some z =>
      rw [q] at e
      have e : s z = none := e
      rw [sp_some q, e]; exact e
end
theorem rnd_of {rule : Str} {cs : List C} {h : Str} {t : Nat} (p : Per (stp rule cs) t h) : rnd rule cs h = true := by
  obtain ⟨m, hm, e1, ha, nd, e2⟩ := (wl_rows rule cs h).so
  refine rnd_iff.mpr ⟨t, p, ?_⟩
  have nodup : ∀ i j, i < m → j < m → itN (stp rule cs) i h = itN (stp rule cs) j h → i = j := fun i j hi hj e => by
    rw [e1] at nd
    have gi : (row_ (stp rule cs) m h)[i]? = some ((itN (stp rule cs) i h).getD "") := by simp [row_, hi]
    have gj : (row_ (stp rule cs) m h)[j]? = some ((itN (stp rule cs) j h).getD "") := by simp [row_, hj]
    rw [← e] at gj
    exact nd_at nd gi gj
  have tm : ¬ t < m := fun q => by
    have := nodup t 0 q hm (p.on.trans rfl)
    have := p.pos
    omega
  have : m = t := by
    rcases e2 with ⟨w, y, hy, hys, _⟩ | ⟨_, n⟩
    · rw [e1] at hys
      obtain ⟨j, hj, ej⟩ := (row_mem ha).mp hys
      by_cases q : m = t
      · exact q
      · have := p.inj (i := m) (j := j) (by omega) (by omega) (hy.trans ej.symm)
        omega
    · obtain ⟨y, hy⟩ := p.all m
      rw [n] at hy; cases hy
  rw [e1, this]
theorem rnd_per {rule : Str} {cs : List C} {h : Str} : rnd rule cs h = true ↔ ∃ t, Per (stp rule cs) t h :=
  ⟨fun z => by obtain ⟨t, p, _⟩ := rnd_iff.mp z; exact ⟨t, p⟩, fun ⟨t, p⟩ => rnd_of p⟩
theorem rnd_so {rule : Str} {cs : List C} {h : Str} {t : Nat} (p : Per (stp rule cs) t h) : (wl rule cs h).so = row_ (stp rule cs) t h := by
  obtain ⟨u, q, e⟩ := rnd_iff.mp (rnd_of p)
  rw [e, p.uniq q]
theorem row_self {s : Str → Option Str} {t : Nat} {x : Str} (p : Per s t x) : x ∈ row_ s t x := (row_mem fun i _ => p.all i).mpr ⟨0, by have := p.pos; omega, rfl⟩
theorem row_per {s : Str → Option Str} {t : Nat} {x y : Str} (p : Per s t x) (h : y ∈ row_ s t x) : Per s t y := by
  obtain ⟨i, _, e⟩ := (row_mem fun i _ => p.all i).mp h
  exact p.move e
theorem rgs_mem {rule : Str} {cs : List C} {K : List Str} (hK : ∀ x t, Per (stp rule cs) t x → x ∈ K) {x : Str} : x ∈ (rgs rule cs K).flatten ↔ ∃ t, Per (stp rule cs) t x := by
  rw [List.mem_flatten]
  unfold rgs
  constructor
  · rintro ⟨r, hr, hx⟩
    obtain ⟨h, hh, rfl⟩ := List.mem_map.mp hr
    have hh := (List.mem_filter.mp hh).2
    rw [Bool.and_eq_true] at hh
    obtain ⟨t, p, e⟩ := rnd_iff.mp hh.1
    rw [e] at hx
    exact ⟨t, row_per p hx⟩
  · rintro ⟨t, p⟩
    have hm := mnS_mem (l := row_ (stp rule cs) t x) (fun z => by have := row_self p; rw [z] at this; cases this)
    have q := row_per p hm
    refine ⟨_, List.mem_map.mpr ⟨mnS (row_ (stp rule cs) t x), List.mem_filter.mpr ⟨hK _ _ q, ?_⟩, rfl⟩, ?_⟩
    · rw [rnd_of q, rnd_so q, Bool.true_and, decide_eq_true_eq]
      refine (mnS_congr (fun z => ?_) fun z => row_same p hm z).symm
      have := row_self q; rw [z] at this; cases this
    · rw [rnd_so q]
      exact (row_same p hm x).mpr (row_self p)
noncomputable def dueR (rule : Str) (cs : List C) (R : List Str) : List (List Str) := (R.filter fun h => decide (mnS (row_ (stp rule cs) (pv (stp rule cs) h) h) = h)).map fun h => row_ (stp rule cs) (pv (stp rule cs) h) h
theorem due_eq {rule : Str} {cs : List C} {R hs : List Str} (hR : ∀ x, x ∈ R ↔ ∃ t, Per (stp rule cs) t x) (nd : R.Nodup) (hK : ∀ x t, Per (stp rule cs) t x → x ∈ hs) : dueR rule cs (sortS R) = rgs rule cs (srtSet hs) := by
  have e : sortS R = (srtSet hs).filter (rnd rule cs) := by
    refine List.Perm.eq_of_pairwise (le := fun a b => leS a b = true) (fun x y _ _ h1 h2 => leS_anti h1 h2) (List.pairwise_mergeSort leS_trans leS_total _) ((srtSet_pw hs).filter _) ?_
    have ndS : (sortS R).Nodup := (List.mergeSort_perm _ _).nodup_iff.mpr nd
    rw [List.perm_ext_iff_of_nodup ndS ((srtSet_nd hs).filter _)]
    intro z
    rw [List.mem_filter, srtSet_mem, sortS_mem, hR, rnd_per]
    exact ⟨fun ⟨t, p⟩ => ⟨hK z t p, t, p⟩, fun h => h.2⟩
  unfold dueR rgs
  rw [e, List.filter_filter]
  have f : (srtSet hs).filter (fun h => decide (mnS (row_ (stp rule cs) (pv (stp rule cs) h) h) = h) && rnd rule cs h) = (srtSet hs).filter (fun h => rnd rule cs h && decide (h = mnS (wl rule cs h).so)) := by
    refine List.filter_congr fun h _ => ?_
    cases r : rnd rule cs h with
    | false => simp
    | true =>
      obtain ⟨t, p⟩ := rnd_per.mp r
      rw [rnd_so p, pv_eq p, Bool.and_true, Bool.true_and]
      exact decide_eq_decide.mpr eq_comm
  rw [f]
  refine List.map_congr_left fun h hh => ?_
  have := (List.mem_filter.mp hh).2
  rw [Bool.and_eq_true] at this
  obtain ⟨t, p⟩ := rnd_per.mp this.1
  rw [rnd_so p, pv_eq p]
theorem stp_ends {rule : Str} {cs : List C} {x y : Str} (h : stp rule cs x = some y) : x ∈ cs.map C.h ∧ y ∈ cs.map C.see ∧ y ≠ "" := by
  unfold stp at h
  split at h
  · cases h
  · rename_i p e
    split at h
    · cases h
    · rename_i n
      cases h
      exact ⟨List.mem_of_getElem? (lk_found e), see_mem n, n⟩
theorem ring_spot {rule : Str} {cs : List C} {K : List Str} {N : Nat} {h : Str} (hK : ∀ x t, Per (stp rule cs) t x → x ∈ K) (hN : (wl rule cs h).so.length ≤ N) : decide ((wl rule cs h).w = "ring") = decide (sp (stp rule cs) N h ∈ (rgs rule cs K).flatten) := by
  obtain ⟨a, b⟩ := ring_iff hN
  refine decide_eq_decide.mpr ?_
  rw [rgs_mem hK]
  constructor
  · intro w
    obtain ⟨y, t, e, p⟩ := a w
    rw [sp_some e]
    exact ⟨t, p⟩
  · rintro ⟨t, p⟩
    refine Classical.byContradiction fun w => ?_
    have := sp_none (b w)
    obtain ⟨y, hy⟩ := p.all 1
    have hy : stp rule cs (sp (stp rule cs) N h) = some y := hy
    rw [this] at hy; cases hy
theorem so_len {rule : Str} {cs : List C} {U : List Str} (hU : ∀ x y, stp rule cs x = some y → y ∈ U) (h : Str) : (wl rule cs h).so.length ≤ U.length + 1 := by
  obtain ⟨m, hm, e1, ha, nd, _⟩ := (wl_rows rule cs h).so
  refine nd_len _ (h :: U) nd fun z hz => ?_
  rw [e1] at hz
  obtain ⟨i, hi, e⟩ := (row_mem ha).mp hz
  cases i with
  | zero => cases e; simp
  | succ i =>
    have e : (itN (stp rule cs) i h).bind (stp rule cs) = some z := e
    cases q : itN (stp rule cs) i h with
    | none => rw [q] at e; cases e
    | some y =>
      rw [q] at e
      exact List.mem_cons_of_mem _ (hU y z e)
end MP
namespace MP.k09
open PySem L2 MP
/-! drawn see cards -/
theorem seeing_step (ns : List Int) (i s r : Int) (acc : List C) (x3 x4 x5 x6 : D) (hl : acc.length < 900) (hi : 0 ≤ i) :
    ∃ (c : C) (i' s' r' : Int) (y4 y5 : D), b1__law_seeing [.lst (rowD ns i s r), .lst (six.map D.str), .lst (acc.map sm), x3, x4, x5, x6] = .nx [.lst (rowD ns i' s' r'), .lst (six.map D.str), .lst ((acc ++ [c]).map sm), x3, y4, y5, x6] ∧ Drawn c ∧ c.al = [] ∧ 0 ≤ i' := by
  obtain ⟨h, i1, s1, r1, e1, h1, hi1⟩ := pickC ns six 0 (ρ := [.lst (rowD ns i s r), .lst (six.map D.str), .lst (acc.map sm), x3, x4, x5, x6]) rfl hi (by decide) (by decide)
  have l1 := lcK (i := 6) (c := asB (op2 neD (vD 6) (vD 4))) (ρ := [.lst (rowD ns i1 s1 r1), .lst (six.map D.str), .lst (acc.map sm), x3, .str h, x5, x6]) D.str (fun a => !decide (a = h)) (L := six) (by simp) fun a _ => by
    simp -implicitDefEqProofs only [asB_ap, op2_ap, vD_ap, List.set_cons_succ, List.set_cons_zero, look_succ, look_zero, bnd_ok, bnd_ap, neD_ss, ofO_some, bl1_bl]
  have hne : six.filter (fun a => !decide (a = h)) ≠ [] := by
    intro z
    rw [List.filter_eq_nil_iff] at z
    have a := z "ant" (by simp)
    have b := z "bee" (by simp)
    simp at a b
    rw [← a] at b; cases b
  obtain ⟨o, i2, s2, r2, e2, h2, hi2⟩ := pickC ns (six.filter fun a => !decide (a = h)) 0 (ρ := [.lst (rowD ns i1 s1 r1), .lst (six.map D.str), .lst (acc.map sm), x3, .str h, x5, x6]) rfl hi1 hne (by
    have := List.length_filter_le (fun a => !decide (a = h)) six
    have : six.length = 6 := rfl
    omega)
  obtain ⟨k, i3, s3, r3, e3, h3, hi3⟩ := takenC ns (m := 6) 6 0 (ρ := [.lst (rowD ns i2 s2 r2), .lst (six.map D.str), .lst (acc.map sm), x3, .str h, .str o, x6]) rfl hi2 (by omega) (by omega)
  rw [List.mem_filter] at h2
  have oh : o ≠ h := by simpa using h2.2
  have W6 : ∀ x ∈ six, W x := fun x hx => W_seven x (six_seven hx)
  have mk : ∀ see : Str, (see = "" ∨ see = o) → Drawn (⟨h, [], see, []⟩ : C) := fun see q =>
    { ok := { w := W6 h h1, bl := by simp, br := by simp, bp := .nil, ll := by simp, an := .nil, aw := by simp
              se := by
                rcases q with rfl | rfl
                · exact .inl rfl
                · exact .inr ⟨rfl, rfl, W6 _ h2.1, oh⟩ }
      h := h1, al := by simp, ll := by simp, bl := by simp, br := by simp
      see := by
        rcases q with rfl | rfl
        · exact .inl rfl
        · exact .inr (six_seven h2.1) }
  have ap : ∀ (row : D) (see : Str), app1 2 (.tup [.str h, .tup [], .str see, .tup []]) [row, .lst (six.map D.str), .lst (acc.map sm), x3, .str h, .str o, x6] = .nx [row, .lst (six.map D.str), .lst ((acc ++ [(⟨h, [], see, []⟩ : C)]).map sm), x3, .str h, .str o, x6] := fun row see => by
    have := app1_of (j := 2) (rs := acc.map sm) (d := .tup [.str h, .tup [], .str see, .tup []]) (ρ := [row, .lst (six.map D.str), .lst (acc.map sm), x3, .str h, .str o, x6]) rfl (by simp; omega)
    rw [this, List.map_append]; rfl
  by_cases k0 : k = 0
  · subst k0
    have e0 : eqD (.int ((0 : Nat) : Int)) (.int 0) = some (.bl true) := by rw [eqD_ii]; rfl
    refine ⟨⟨h, [], "", []⟩, i3, s3, r3, .str h, .str o, ?_, mk "" (.inl rfl), rfl, hi3⟩
    unfold b1__law_seeing
    simp -implicitDefEqProofs only [seqS_ap, setS_ap, callR_ap, consD_ap, nilD_ap, vD_ap, kD_ap, look_succ, look_zero, bnd_ok, bnd_ap, ret_ap, e1, ofO_some, sb_ok, List.set_cons_succ, List.set_cons_zero, sq_nx, lstM_ap, lcD_ap, itD_ap, seqOf_l, l1, e2, appS_ap, tupD_ap, ifD_ap, asB_ap, op2_ap, e3, e0, bl1_bl, if_true, szO_nil, szO_4, ap, nxS_ap]
  · have e0 : eqD (.int (k : Int)) (.int 0) = some (.bl false) := by rw [eqD_ii, decide_eq_false (by omega)]
    refine ⟨⟨h, [], o, []⟩, i3, s3, r3, .str h, .str o, ?_, mk o (.inr rfl), rfl, hi3⟩
    unfold b1__law_seeing
    simp -implicitDefEqProofs only [seqS_ap, setS_ap, callR_ap, consD_ap, nilD_ap, vD_ap, kD_ap, look_succ, look_zero, bnd_ok, bnd_ap, ret_ap, e1, ofO_some, sb_ok, List.set_cons_succ, List.set_cons_zero, sq_nx, lstM_ap, lcD_ap, itD_ap, seqOf_l, l1, e2, appS_ap, tupD_ap, ifD_ap, asB_ap, op2_ap, e3, e0, bl1_bl, Bool.false_eq_true, if_false, szO_nil, szO_4, ap, nxS_ap]
theorem seeing_loop (ns : List Int) (x6 : D) : ∀ (n : Nat) (i s r : Int) (acc : List C) (x3 x4 x5 : D), acc.length + n < 900 → 0 ≤ i → ∀ k,
    ∃ (cs : List C) (i' s' r' : Int) (y3 y4 y5 : D), forL (bName 3) b1__law_seeing ((List.range' k n).map inat) [.lst (rowD ns i s r), .lst (six.map D.str), .lst (acc.map sm), x3, x4, x5, x6] = .nx [.lst (rowD ns i' s' r'), .lst (six.map D.str), .lst ((acc ++ cs).map sm), y3, y4, y5, x6] ∧ cs.length = n ∧ (∀ c ∈ cs, Drawn c) ∧ 0 ≤ i'
  | 0, i, s, r, acc, x3, x4, x5, _, hi, k => ⟨[], i, s, r, x3, x4, x5, by simp, rfl, by simp, hi⟩
  | n + 1, i, s, r, acc, x3, x4, x5, hl, hi, k => by
    obtain ⟨c, i1, s1, r1, y4, y5, e1, d1, _, hi1⟩ := seeing_step ns i s r acc (inat k) x4 x5 x6 (by omega) hi
    obtain ⟨cs, i2, s2, r2, z3, z4, z5, e2, l2, d2, hi2⟩ := seeing_loop ns x6 n i1 s1 r1 (acc ++ [c]) (inat k) y4 y5 (by simp; omega) hi1 (k + 1)
    refine ⟨c :: cs, i2, s2, r2, z3, z4, z5, ?_, by simp [l2], fun x hx => ?_, hi2⟩
    · rw [List.range'_succ, List.map_cons, forL_cons rfl]
      simp only [List.set_cons_succ, List.set_cons_zero]
      rw [e1, lp_nx, e2, List.append_assoc]; rfl
    · rcases List.mem_cons.mp hx with rfl | q
      · exact d1
      · exact d2 x q
theorem seeing_spec (ns : List Int) (i s r : Int) (hi : 0 ≤ i) : ∃ (cs : List C) (i' s' r' : Int), F__law_seeing (rowD ns i s r) [] = some (.lst (cs.map sm), rowD ns i' s' r') ∧ cs.length ≤ 12 ∧ (∀ c ∈ cs, Drawn c) ∧ 0 ≤ i' := by
  obtain ⟨n, i1, s1, r1, e1, h1, hi1⟩ := takenC ns (m := 13) 13 0 (ρ := [.lst (rowD ns i s r), .lst (six.map D.str), .lst [], .non, .non, .non, .non]) rfl hi (by omega) (by omega)
  obtain ⟨cs, i2, s2, r2, y3, y4, y5, e2, l2, d2, hi2⟩ := seeing_loop ns .non n i1 s1 r1 [] .non .non .non (by simp; omega) hi1 0
  rw [← List.range_eq_range', List.nil_append] at e2
  have e2 : forL (bName 3) b1__law_seeing ((List.range n).map inat) [.lst (rowD ns i1 s1 r1), .lst (six.map D.str), .lst [], .non, .non, .non, .non] = _ := e2
  have rg := rng1_nat n (by omega)
  have fv : szO [D.str "ant", D.str "bee", D.str "cat", D.str "dog", D.str "elk", D.str "fox"] = some (six.map D.str) := rfl
  refine ⟨cs, i2, s2, r2, ?_, by omega, d2, hi2⟩
  unfold F__law_seeing runR d__law_seeing
  simp -implicitDefEqProofs only [List.length_cons, List.length_nil, startD_ap, List.cons_append, List.nil_append, Nat.reduceAdd, Nat.reduceSub, List.replicate, if_true, seqS_ap, setParVL_ap, sbd_ap, lstM_ap, lstD_ap, consD_ap, nilD_ap, vD_ap, kD_ap, look_zero, look_succ, bnd_ok, bnd_ap, ret_ap, fv, ofO_some, szO_nil, sb_ok, List.set_cons_succ, List.set_cons_zero, sq_nx, forS_ap, rngD_ap, callR_ap, e1, rg, e2, retS_ap, sq_rt, endR_rt, backR_l]
end MP.k09
namespace MP.k09
open PySem PySem.Spec PyProof.Rows L2 MP
def pr_Card_leads : PrD := ⟨"Card", "leads", "leads", "Card.leads", defArgs s_Card_leads, defBody s_Card_leads, defScope s_Card_leads⟩
def pr_Card_see : PrD := ⟨"Card", "see", "see", "Card.see", defArgs s_Card_see, defBody s_Card_see, defScope s_Card_see⟩
def pr_Drawer_cards : PrD := ⟨"Drawer", "cards", "cards", "Drawer.cards", defArgs s_Drawer_cards, defBody s_Drawer_cards, defScope s_Drawer_cards⟩
def pr_Card_heading : PrD := ⟨"Card", "heading", "heading", "Card.heading", defArgs s_Card_heading, defBody s_Card_heading, defScope s_Card_heading⟩
def pr_Card_also : PrD := ⟨"Card", "also", "also", "Card.also", defArgs s_Card_also, defBody s_Card_also, defScope s_Card_also⟩
def pr_Drawer_headings : PrD := ⟨"Drawer", "headings", "headings", "Drawer.headings", defArgs s_Drawer_headings, defBody s_Drawer_headings, defScope s_Drawer_headings⟩
/-- what the walk leans on -/
structure Fx (K : PySem.W.Frag) (mg : Str → Option Value) : Prop where
  T : Txt K mg
  D__law_taken : ∃ fd, FunD K "_law_taken" "_law_taken" (defArgs s__law_taken) (defBody s__law_taken) (defScope s__law_taken) [] [] (He.fAd K ("_law_taken", none)) fd
  g__law_taken : mg "_law_taken" = some (.ref (He.ga K "_law_taken"))
  D__law_pick : ∃ fd, FunD K "_law_pick" "_law_pick" (defArgs s__law_pick) (defBody s__law_pick) (defScope s__law_pick) [] [] (He.fAd K ("_law_pick", none)) fd
  g__law_pick : mg "_law_pick" = some (.ref (He.ga K "_law_pick"))
  D__law_seeing : ∃ fd, FunD K "_law_seeing" "_law_seeing" (defArgs s__law_seeing) (defBody s__law_seeing) (defScope s__law_seeing) [] [] (He.fAd K ("_law_seeing", none)) fd
  g__law_seeing : mg "_law_seeing" = some (.ref (He.ga K "_law_seeing"))
  D_is_number : ∃ fd, FunD K "is_number" "is_number" (defArgs s_is_number) (defBody s_is_number) (defScope s_is_number) [] [] (He.fAd K ("is_number", none)) fd
  g_is_number : mg "is_number" = some (.ref (He.ga K "is_number"))
  D_are_books : ∃ fd, FunD K "are_books" "are_books" (defArgs s_are_books) (defBody s_are_books) (defScope s_are_books) [] [] (He.fAd K ("are_books", none)) fd
  g_are_books : mg "are_books" = some (.ref (He.ga K "are_books"))
  D_is_word : ∃ fd, FunD K "is_word" "is_word" (defArgs s_is_word) (defBody s_is_word) (defScope s_is_word) [] [] (He.fAd K ("is_word", none)) fd
  g_is_word : mg "is_word" = some (.ref (He.ga K "is_word"))
  D_are_others : ∃ fd, FunD K "are_others" "are_others" (defArgs s_are_others) (defBody s_are_others) (defScope s_are_others) [] [] (He.fAd K ("are_others", none)) fd
  g_are_others : mg "are_others" = some (.ref (He.ga K "are_others"))
  D_Card : ∃ dvs fd, dvs.length = 3 ∧ FunD K "__init__" "Card.__init__" (defArgs s_Card) (defBody s_Card) (defScope s_Card) dvs [] (He.fAd K ("Card", some "__init__")) fd
  g_Card : mg "Card" = some (.ref (He.ga K "Card"))
  mk_Card : Mk K (He.ga K "Card") (He.fAd K ("Card", some "__init__"))
  D_Drawer : ∃ fd, FunD K "__init__" "Drawer.__init__" (defArgs s_Drawer) (defBody s_Drawer) (defScope s_Drawer) [] [] (He.fAd K ("Drawer", some "__init__")) fd
  g_Drawer : mg "Drawer" = some (.ref (He.ga K "Drawer"))
  mk_Drawer : Mk K (He.ga K "Drawer") (He.fAd K ("Drawer", some "__init__"))
  D__law_drawer : ∃ fd, FunD K "_law_drawer" "_law_drawer" (defArgs s__law_drawer) (defBody s__law_drawer) (defScope s__law_drawer) [] [] (He.fAd K ("_law_drawer", none)) fd
  g__law_drawer : mg "_law_drawer" = some (.ref (He.ga K "_law_drawer"))
  D__law_known : ∃ fd, FunD K "_law_known" "_law_known" (defArgs s__law_known) (defBody s__law_known) (defScope s__law_known) [] [] (He.fAd K ("_law_known", none)) fd
  g__law_known : mg "_law_known" = some (.ref (He.ga K "_law_known"))
  D__law_looked : ∃ fd, FunD K "_law_looked" "_law_looked" (defArgs s__law_looked) (defBody s__law_looked) (defScope s__law_looked) [] [] (He.fAd K ("_law_looked", none)) fd
  g__law_looked : mg "_law_looked" = some (.ref (He.ga K "_law_looked"))
  P_Card_leads : PrF K pr_Card_leads
  P_Card_see : PrF K pr_Card_see
  P_Drawer_cards : PrF K pr_Drawer_cards
  P_Card_heading : PrF K pr_Card_heading
  D_by_halves : ∃ fd, FunD K "by_halves" "by_halves" (defArgs s_by_halves) (defBody s_by_halves) (defScope s_by_halves) [] [] (He.fAd K ("by_halves", none)) fd
  g_by_halves : mg "by_halves" = some (.ref (He.ga K "by_halves"))
  D_one_by_one : ∃ fd, FunD K "one_by_one" "one_by_one" (defArgs s_one_by_one) (defBody s_one_by_one) (defScope s_one_by_one) [] [] (He.fAd K ("one_by_one", none)) fd
  g_one_by_one : mg "one_by_one" = some (.ref (He.ga K "one_by_one"))
  D_looked_up : ∃ fd, FunD K "looked_up" "looked_up" (defArgs s_looked_up) (defBody s_looked_up) (defScope s_looked_up) [] [] (He.fAd K ("looked_up", none)) fd
  g_looked_up : mg "looked_up" = some (.ref (He.ga K "looked_up"))
  D_Walk_go_on_x : ∃ fd, FunD K "go_on" "Walk.go_on" (defArgs s_Walk_go_on_x) (defBody s_Walk_go_on_x) (defScope s_Walk_go_on_x) [] [] (He.fAd K ("Walk", some "go_on")) fd
  mt_Walk_go_on_x : Meth K (He.ga K "Walk") "go_on" (He.fAd K ("Walk", some "go_on"))
  D_Walk : ∃ fd, FunD K "__init__" "Walk.__init__" (defArgs s_Walk) (defBody s_Walk) (defScope s_Walk) [] [] (He.fAd K ("Walk", some "__init__")) fd
  g_Walk : mg "Walk" = some (.ref (He.ga K "Walk"))
  mk_Walk : Mk K (He.ga K "Walk") (He.fAd K ("Walk", some "__init__"))
  D_check_rule : ∃ fd, FunD K "check_rule" "check_rule" (defArgs s_check_rule) (defBody s_check_rule) (defScope s_check_rule) [] [] (He.fAd K ("check_rule", none)) fd
  g_check_rule : mg "check_rule" = some (.ref (He.ga K "check_rule"))
  P_Card_also : PrF K pr_Card_also
  P_Drawer_headings : PrF K pr_Drawer_headings
  D_known_headings : ∃ fd, FunD K "known_headings" "known_headings" (defArgs s_known_headings) (defBody s_known_headings) (defScope s_known_headings) [] [] (He.fAd K ("known_headings", none)) fd
  g_known_headings : mg "known_headings" = some (.ref (He.ga K "known_headings"))
  D_see_rings : ∃ fd, FunD K "see_rings" "see_rings" (defArgs s_see_rings) (defBody s_see_rings) (defScope s_see_rings) [] [] (He.fAd K ("see_rings", none)) fd
  g_see_rings : mg "see_rings" = some (.ref (He.ga K "see_rings"))
  D_check_heading : ∃ fd, FunD K "check_heading" "check_heading" (defArgs s_check_heading) (defBody s_check_heading) (defScope s_check_heading) [] [] (He.fAd K ("check_heading", none)) fd
  g_check_heading : mg "check_heading" = some (.ref (He.ga K "check_heading"))
  D_walk : ∃ fd, FunD K "walk" "walk" (defArgs s_walk) (defBody s_walk) (defScope s_walk) [] [] (He.fAd K ("walk", none)) fd
  g_walk : mg "walk" = some (.ref (He.ga K "walk"))
  D_law : ∃ fd, FunD K "law" "law" (defArgs s_law) (defBody s_law) (defScope s_law) [] [] (He.fAd K ("law", none)) fd
  g_law : mg "law" = some (.ref (He.ga K "law"))
def tf : List He.Defn := [("_law_drawer", none), ("law", none)]
theorem sc__law_taken : FnScope (["_law_row", "_law_many", "_law_found", "_law_cell"] : List PySem.Str) (["_law_row", "_law_many"] : List PySem.Str) (defScope s__law_taken) := ⟨rfl, rfl, rfl, by decide +kernel, rfl, by decide +kernel, by decide +kernel⟩
theorem ok__law_taken {P : Program} {w : World} {K : PySem.W.Frag} {mg : Str → Option Value} {base : Heap} (U : TbB K mg base tf) (E : Fx K mg) : ∃ fd, FnRr P w K mg base "_law_taken" (He.fAd K ("_law_taken", none)) fd (["_law_row", "_law_many"] : List PySem.Str) 1 F__law_taken := by

  obtain ⟨fd, Fd⟩ := E.D__law_taken
  exact ⟨fd, fn_R (own' := [.R, .U, .U, .U]) Fd sc__law_taken rfl (t__law_taken E.T ) (by decide), fun rs ds d h => congrArg (· + 1) (runR_ar h), E.g__law_taken, Fd.kp, Fd.bindsN fun _ _ _ _ _ _ us hl => match us, hl with | [_, _], _ => rfl⟩
theorem sc__law_pick : FnScope (["_law_row", "_law_some"] : List PySem.Str) (["_law_row", "_law_some"] : List PySem.Str) (defScope s__law_pick) := ⟨rfl, rfl, rfl, by decide +kernel, rfl, by decide +kernel, by decide +kernel⟩
theorem ok__law_pick {P : Program} {w : World} {K : PySem.W.Frag} {mg : Str → Option Value} {base : Heap} (U : TbB K mg base tf) (E : Fx K mg) : ∃ fd, FnRr P w K mg base "_law_pick" (He.fAd K ("_law_pick", none)) fd (["_law_row", "_law_some"] : List PySem.Str) 2 F__law_pick := by
  obtain ⟨fd__law_taken, h__law_taken⟩ := ok__law_taken (P := P) (w := w) (base := base) U E
  obtain ⟨fd, Fd⟩ := E.D__law_pick
  exact ⟨fd, fn_R (own' := [.R, .U]) Fd sc__law_pick rfl (t__law_pick E.T h__law_taken) (by decide), fun rs ds d h => congrArg (· + 1) (runR_ar h), E.g__law_pick, Fd.kp, Fd.bindsN fun _ _ _ _ _ _ us hl => match us, hl with | [_, _], _ => rfl⟩
theorem sc__law_seeing : FnScope (["_law_row", "_law_names", "_law_found", "_law_k", "_law_heading", "_law_other", "_law_name"] : List PySem.Str) (["_law_row"] : List PySem.Str) (defScope s__law_seeing) := ⟨rfl, rfl, rfl, by decide +kernel, rfl, by decide +kernel, by decide +kernel⟩
theorem ok__law_seeing {P : Program} {w : World} {K : PySem.W.Frag} {mg : Str → Option Value} {base : Heap} (U : TbB K mg base tf) (E : Fx K mg) : ∃ fd, FnRr P w K mg base "_law_seeing" (He.fAd K ("_law_seeing", none)) fd (["_law_row"] : List PySem.Str) 3 F__law_seeing := by
  obtain ⟨fd__law_pick, h__law_pick⟩ := ok__law_pick (P := P) (w := w) (base := base) U E
  obtain ⟨fd__law_taken, h__law_taken⟩ := ok__law_taken (P := P) (w := w) (base := base) U E
  obtain ⟨fd, Fd⟩ := E.D__law_seeing
  exact ⟨fd, fn_R (own' := [.R, .U, .U, .U, .U, .U, .U]) Fd sc__law_seeing rfl (t__law_seeing E.T h__law_pick h__law_taken) (by decide), fun rs ds d h => congrArg (· + 1) (runR_ar h), E.g__law_seeing, Fd.kp, Fd.bindsN fun _ _ _ _ _ _ us hl => match us, hl with | [_], _ => rfl⟩
theorem sc_is_number : FnScope (["value", "smallest", "largest"] : List PySem.Str) (["value", "smallest", "largest"] : List PySem.Str) (defScope s_is_number) := ⟨rfl, rfl, rfl, by decide +kernel, rfl, by decide +kernel, by decide +kernel⟩
theorem ok_is_number {P : Program} {w : World} {K : PySem.W.Frag} {mg : Str → Option Value} {base : Heap} (U : TbB K mg base tf) (E : Fx K mg) : ∃ fd, FnV P w K mg base "is_number" (He.fAd K ("is_number", none)) fd (["value", "smallest", "largest"] : List PySem.Str) 1 F_is_number := by

  obtain ⟨fd, Fd⟩ := E.D_is_number
  exact ⟨fd, fn_V Fd sc_is_number (t_is_number E.T ), fun ds d h => runV_ar h, E.g_is_number, Fd.kp, Fd.bindsN fun _ _ _ _ _ _ us hl => match us, hl with | [_, _, _], _ => rfl⟩
theorem sc_are_books : FnScope (["row", "book", "one", "other"] : List PySem.Str) (["row"] : List PySem.Str) (defScope s_are_books) := ⟨rfl, rfl, rfl, by decide +kernel, rfl, by decide +kernel, by decide +kernel⟩
theorem ok_are_books {P : Program} {w : World} {K : PySem.W.Frag} {mg : Str → Option Value} {base : Heap} (U : TbB K mg base tf) (E : Fx K mg) : ∃ fd, FnV P w K mg base "are_books" (He.fAd K ("are_books", none)) fd (["row"] : List PySem.Str) 2 F_are_books := by
  obtain ⟨fd_is_number, h_is_number⟩ := ok_is_number (P := P) (w := w) (base := base) U E
  obtain ⟨fd, Fd⟩ := E.D_are_books
  exact ⟨fd, fn_V Fd sc_are_books (t_are_books E.T h_is_number), fun ds d h => runV_ar h, E.g_are_books, Fd.kp, Fd.bindsN fun _ _ _ _ _ _ us hl => match us, hl with | [_], _ => rfl⟩
theorem sc_is_word : FnScope (["value", "letter"] : List PySem.Str) (["value"] : List PySem.Str) (defScope s_is_word) := ⟨rfl, rfl, rfl, by decide +kernel, rfl, by decide +kernel, by decide +kernel⟩
theorem ok_is_word {P : Program} {w : World} {K : PySem.W.Frag} {mg : Str → Option Value} {base : Heap} (U : TbB K mg base tf) (E : Fx K mg) : ∃ fd, FnV P w K mg base "is_word" (He.fAd K ("is_word", none)) fd (["value"] : List PySem.Str) 1 F_is_word := by

  obtain ⟨fd, Fd⟩ := E.D_is_word
  exact ⟨fd, fn_V Fd sc_is_word (t_is_word E.T ), fun ds d h => runV_ar h, E.g_is_word, Fd.kp, Fd.bindsN fun _ _ _ _ _ _ us hl => match us, hl with | [_], _ => rfl⟩
theorem sc_are_others : FnScope (["heading", "row", "other"] : List PySem.Str) (["heading", "row"] : List PySem.Str) (defScope s_are_others) := ⟨rfl, rfl, rfl, by decide +kernel, rfl, by decide +kernel, by decide +kernel⟩
theorem ok_are_others {P : Program} {w : World} {K : PySem.W.Frag} {mg : Str → Option Value} {base : Heap} (U : TbB K mg base tf) (E : Fx K mg) : ∃ fd, FnV P w K mg base "are_others" (He.fAd K ("are_others", none)) fd (["heading", "row"] : List PySem.Str) 2 F_are_others := by
  obtain ⟨fd_is_word, h_is_word⟩ := ok_is_word (P := P) (w := w) (base := base) U E
  obtain ⟨fd, Fd⟩ := E.D_are_others
  exact ⟨fd, fn_V Fd sc_are_others (t_are_others E.T h_is_word), fun ds d h => runV_ar h, E.g_are_others, Fd.kp, Fd.bindsN fun _ _ _ _ _ _ us hl => match us, hl with | [_, _], _ => rfl⟩
theorem sc_Card : FnScope (["self", "heading", "books", "see", "also", "is_free"] : List PySem.Str) (["self", "heading", "books", "see", "also"] : List PySem.Str) (defScope s_Card) := ⟨rfl, rfl, rfl, by decide +kernel, rfl, by decide +kernel, by decide +kernel⟩
theorem ok_Card {P : Program} {w : World} {K : PySem.W.Frag} {mg : Str → Option Value} {base : Heap} (U : TbB K mg base tf) (E : Fx K mg) : ∃ fd gU, ClI P w K mg base "Card" (He.fAd K ("Card", some "__init__")) fd (["self", "heading", "books", "see", "also"] : List PySem.Str) 3 F_Card ∧ KBn K fd (["self", "heading", "books", "see", "also"] : List PySem.Str) 2 ["books", "see", "also"] gU (fun vs zs => vs ++ zs) := by
  obtain ⟨fd_are_books, h_are_books⟩ := ok_are_books (P := P) (w := w) (base := base) U E
  obtain ⟨fd_are_others, h_are_others⟩ := ok_are_others (P := P) (w := w) (base := base) U E
  obtain ⟨fd_is_word, h_is_word⟩ := ok_is_word (P := P) (w := w) (base := base) U E
  obtain ⟨dvs, fd, hl, Fd⟩ := E.D_Card
  have hd : dvs ≠ [] := fun z => by rw [z] at hl; cases hl
  obtain ⟨its, kb⟩ := Fd.kbindsD (ps := (["self", "heading", "books", "see", "also"] : List PySem.Str)) 2 ["books", "see", "also"] (fun us _ ws => us ++ ws) hd (fun r1 _ r3 => r1.append r3) fun T kV doc pm an cdv ct us its ws h1 h2 h3 => by
    rw [hl] at h2
    match us, its, ws, h1, h2, h3 with
    | [_, _], [_, _, _], [_, _, _], _, _, _ => exact ⟨_, rfl, rfl⟩
  exact ⟨fd, _, ⟨fn_I (own' := [.I, .U, .U, .U, .U, .U]) Fd sc_Card rfl (t_Card E.T h_are_books h_are_others h_is_word) (by decide), fun ds fs h => ⟨congrArg (· + 1) (runI_ar h), ne_run (show NeI d_Card from (ne_seq (ne_seq (ne_seq (ne_seq (ne_seq ne_slot)))))) h⟩, E.mk_Card, E.g_Card, by decide +kernel⟩, kb⟩
theorem sc_Drawer : FnScope (["self", "cards"] : List PySem.Str) (["self", "cards"] : List PySem.Str) (defScope s_Drawer) := ⟨rfl, rfl, rfl, by decide +kernel, rfl, by decide +kernel, by decide +kernel⟩
theorem ok_Drawer {P : Program} {w : World} {K : PySem.W.Frag} {mg : Str → Option Value} {base : Heap} (U : TbB K mg base tf) (E : Fx K mg) : ∃ fd, ClI P w K mg base "Drawer" (He.fAd K ("Drawer", some "__init__")) fd (["self", "cards"] : List PySem.Str) 1 F_Drawer ∧ Binds K fd (["self", "cards"] : List PySem.Str) [] := by

  obtain ⟨fd, Fd⟩ := E.D_Drawer
  exact ⟨fd, ⟨fn_I (own' := [.I, .U]) Fd sc_Drawer rfl (t_Drawer E.T ) (by decide), fun ds fs h => ⟨congrArg (· + 1) (runI_ar h), ne_run (show NeI d_Drawer from (ne_seq ne_slot)) h⟩, E.mk_Drawer, E.g_Drawer, by decide +kernel⟩, Fd.bindsN fun _ _ _ _ _ _ us hl => match us, hl with | [_, _], _ => rfl⟩
theorem sc__law_drawer : FnScope (["_law_some", "_law_one"] : List PySem.Str) (["_law_some"] : List PySem.Str) (defScope s__law_drawer) := ⟨rfl, rfl, rfl, by decide +kernel, rfl, by decide +kernel, by decide +kernel⟩
theorem ok__law_drawer {P : Program} {w : World} {K : PySem.W.Frag} {mg : Str → Option Value} {base : Heap} (U : TbB K mg base tf) (E : Fx K mg) : ∃ fd, FnV P w K mg base "_law_drawer" (He.fAd K ("_law_drawer", none)) fd (["_law_some"] : List PySem.Str) 5 F__law_drawer := by
  obtain ⟨fd_Card, gU_Card, i_Card, b_Card⟩ := ok_Card (P := P) (w := w) (base := base) U E
  obtain ⟨fd_Drawer, i_Drawer, b_Drawer⟩ := ok_Drawer (P := P) (w := w) (base := base) U E
  obtain ⟨fd, Fd⟩ := E.D__law_drawer
  exact ⟨fd, fn_V Fd sc__law_drawer (t__law_drawer E.T i_Card b_Card i_Drawer b_Drawer), fun ds d h => runV_ar h, E.g__law_drawer, Fd.kp, Fd.bindsN fun _ _ _ _ _ _ us hl => match us, hl with | [_], _ => rfl⟩
theorem sc__law_known : FnScope (["_law_some", "_law_found", "_law_heading", "_law_tomes", "_law_goal_of", "_law_hints"] : List PySem.Str) (["_law_some"] : List PySem.Str) (defScope s__law_known) := ⟨rfl, rfl, rfl, by decide +kernel, rfl, by decide +kernel, by decide +kernel⟩
theorem ok__law_known {P : Program} {w : World} {K : PySem.W.Frag} {mg : Str → Option Value} {base : Heap} (U : TbB K mg base tf) (E : Fx K mg) : ∃ fd, FnV P w K mg base "_law_known" (He.fAd K ("_law_known", none)) fd (["_law_some"] : List PySem.Str) 1 F__law_known := by

  obtain ⟨fd, Fd⟩ := E.D__law_known
  exact ⟨fd, fn_V Fd sc__law_known (t__law_known E.T ), fun ds d h => runV_ar h, E.g__law_known, Fd.kp, Fd.bindsN fun _ _ _ _ _ _ us hl => match us, hl with | [_], _ => rfl⟩
theorem sc__law_looked : FnScope (["_law_some", "_law_rule", "_law_heading", "_law_met", "_law_low", "_law_high", "_law_turn", "_law_here"] : List PySem.Str) (["_law_some", "_law_rule", "_law_heading"] : List PySem.Str) (defScope s__law_looked) := ⟨rfl, rfl, rfl, by decide +kernel, rfl, by decide +kernel, by decide +kernel⟩
theorem ok__law_looked {P : Program} {w : World} {K : PySem.W.Frag} {mg : Str → Option Value} {base : Heap} (U : TbB K mg base tf) (E : Fx K mg) : ∃ fd, FnV P w K mg base "_law_looked" (He.fAd K ("_law_looked", none)) fd (["_law_some", "_law_rule", "_law_heading"] : List PySem.Str) 1 F__law_looked := by

  obtain ⟨fd, Fd⟩ := E.D__law_looked
  exact ⟨fd, fn_V Fd sc__law_looked (t__law_looked E.T ), fun ds d h => runV_ar h, E.g__law_looked, Fd.kp, Fd.bindsN fun _ _ _ _ _ _ us hl => match us, hl with | [_, _, _], _ => rfl⟩
theorem sc_Card_leads : FnScope (["self"] : List PySem.Str) (["self"] : List PySem.Str) (defScope s_Card_leads) := ⟨rfl, rfl, rfl, by decide +kernel, rfl, by decide +kernel, by decide +kernel⟩
theorem ok_Card_leads {P : Program} {w : World} {K : PySem.W.Frag} {mg : Str → Option Value} {base : Heap} (U : TbB K mg base tf) (E : Fx K mg) : ∃ fd, PrV P w K mg base "Card" "leads" (pOb K "Card" "leads") (pAd K "Card" "leads") fd (["self"] : List PySem.Str) 1 F_Card_leads := by

  obtain ⟨fd, Fd⟩ := E.P_Card_leads.fn
  exact ⟨fd, fn_V Fd sc_Card_leads (t_Card_leads E.T ), fun ds d h => runV_ar h, E.P_Card_leads.at_, E.P_Card_leads.get, E.P_Card_leads.tk, E.P_Card_leads.rc, Fd.bindsN fun _ _ _ _ _ _ us hl => match us, hl with | [_], _ => rfl⟩
theorem sc_Card_see : FnScope (["self"] : List PySem.Str) (["self"] : List PySem.Str) (defScope s_Card_see) := ⟨rfl, rfl, rfl, by decide +kernel, rfl, by decide +kernel, by decide +kernel⟩
theorem ok_Card_see {P : Program} {w : World} {K : PySem.W.Frag} {mg : Str → Option Value} {base : Heap} (U : TbB K mg base tf) (E : Fx K mg) : ∃ fd, PrV P w K mg base "Card" "see" (pOb K "Card" "see") (pAd K "Card" "see") fd (["self"] : List PySem.Str) 1 F_Card_see := by

  obtain ⟨fd, Fd⟩ := E.P_Card_see.fn
  exact ⟨fd, fn_V Fd sc_Card_see (t_Card_see E.T ), fun ds d h => runV_ar h, E.P_Card_see.at_, E.P_Card_see.get, E.P_Card_see.tk, E.P_Card_see.rc, Fd.bindsN fun _ _ _ _ _ _ us hl => match us, hl with | [_], _ => rfl⟩
theorem sc_Drawer_cards : FnScope (["self"] : List PySem.Str) (["self"] : List PySem.Str) (defScope s_Drawer_cards) := ⟨rfl, rfl, rfl, by decide +kernel, rfl, by decide +kernel, by decide +kernel⟩
theorem ok_Drawer_cards {P : Program} {w : World} {K : PySem.W.Frag} {mg : Str → Option Value} {base : Heap} (U : TbB K mg base tf) (E : Fx K mg) : ∃ fd, PrV P w K mg base "Drawer" "cards" (pOb K "Drawer" "cards") (pAd K "Drawer" "cards") fd (["self"] : List PySem.Str) 1 F_Drawer_cards := by

  obtain ⟨fd, Fd⟩ := E.P_Drawer_cards.fn
  exact ⟨fd, fn_V Fd sc_Drawer_cards (t_Drawer_cards E.T ), fun ds d h => runV_ar h, E.P_Drawer_cards.at_, E.P_Drawer_cards.get, E.P_Drawer_cards.tk, E.P_Drawer_cards.rc, Fd.bindsN fun _ _ _ _ _ _ us hl => match us, hl with | [_], _ => rfl⟩
theorem sc_Card_heading : FnScope (["self"] : List PySem.Str) (["self"] : List PySem.Str) (defScope s_Card_heading) := ⟨rfl, rfl, rfl, by decide +kernel, rfl, by decide +kernel, by decide +kernel⟩
theorem ok_Card_heading {P : Program} {w : World} {K : PySem.W.Frag} {mg : Str → Option Value} {base : Heap} (U : TbB K mg base tf) (E : Fx K mg) : ∃ fd, PrV P w K mg base "Card" "heading" (pOb K "Card" "heading") (pAd K "Card" "heading") fd (["self"] : List PySem.Str) 1 F_Card_heading := by

  obtain ⟨fd, Fd⟩ := E.P_Card_heading.fn
  exact ⟨fd, fn_V Fd sc_Card_heading (t_Card_heading E.T ), fun ds d h => runV_ar h, E.P_Card_heading.at_, E.P_Card_heading.get, E.P_Card_heading.tk, E.P_Card_heading.rc, Fd.bindsN fun _ _ _ _ _ _ us hl => match us, hl with | [_], _ => rfl⟩
theorem sc_by_halves : FnScope (["drawer", "heading", "looks", "first", "last", "middle", "here"] : List PySem.Str) (["drawer", "heading"] : List PySem.Str) (defScope s_by_halves) := ⟨rfl, rfl, rfl, by decide +kernel, rfl, by decide +kernel, by decide +kernel⟩
theorem ok_by_halves {P : Program} {w : World} {K : PySem.W.Frag} {mg : Str → Option Value} {base : Heap} (U : TbB K mg base tf) (E : Fx K mg) : ∃ fd, FnV P w K mg base "by_halves" (He.fAd K ("by_halves", none)) fd (["drawer", "heading"] : List PySem.Str) 3 F_by_halves := by
  obtain ⟨fd_Card_heading, p_Card_heading⟩ := ok_Card_heading (P := P) (w := w) (base := base) U E
  obtain ⟨fd_Drawer_cards, p_Drawer_cards⟩ := ok_Drawer_cards (P := P) (w := w) (base := base) U E
  obtain ⟨fd, Fd⟩ := E.D_by_halves
  exact ⟨fd, fn_V Fd sc_by_halves (t_by_halves E.T p_Card_heading p_Drawer_cards), fun ds d h => runV_ar h, E.g_by_halves, Fd.kp, Fd.bindsN fun _ _ _ _ _ _ us hl => match us, hl with | [_, _], _ => rfl⟩
theorem sc_one_by_one : FnScope (["drawer", "heading", "is_leafing", "place", "card"] : List PySem.Str) (["drawer", "heading", "is_leafing"] : List PySem.Str) (defScope s_one_by_one) := ⟨rfl, rfl, rfl, by decide +kernel, rfl, by decide +kernel, by decide +kernel⟩
theorem ok_one_by_one {P : Program} {w : World} {K : PySem.W.Frag} {mg : Str → Option Value} {base : Heap} (U : TbB K mg base tf) (E : Fx K mg) : ∃ fd, FnV P w K mg base "one_by_one" (He.fAd K ("one_by_one", none)) fd (["drawer", "heading", "is_leafing"] : List PySem.Str) 3 F_one_by_one := by
  obtain ⟨fd_Card_heading, p_Card_heading⟩ := ok_Card_heading (P := P) (w := w) (base := base) U E
  obtain ⟨fd_Drawer_cards, p_Drawer_cards⟩ := ok_Drawer_cards (P := P) (w := w) (base := base) U E
  obtain ⟨fd, Fd⟩ := E.D_one_by_one
  exact ⟨fd, fn_V Fd sc_one_by_one (t_one_by_one E.T p_Card_heading p_Drawer_cards), fun ds d h => runV_ar h, E.g_one_by_one, Fd.kp, Fd.bindsN fun _ _ _ _ _ _ us hl => match us, hl with | [_, _, _], _ => rfl⟩
theorem sc_looked_up : FnScope (["drawer", "rule", "heading"] : List PySem.Str) (["drawer", "rule", "heading"] : List PySem.Str) (defScope s_looked_up) := ⟨rfl, rfl, rfl, by decide +kernel, rfl, by decide +kernel, by decide +kernel⟩
theorem ok_looked_up {P : Program} {w : World} {K : PySem.W.Frag} {mg : Str → Option Value} {base : Heap} (U : TbB K mg base tf) (E : Fx K mg) : ∃ fd, FnV P w K mg base "looked_up" (He.fAd K ("looked_up", none)) fd (["drawer", "rule", "heading"] : List PySem.Str) 4 F_looked_up := by
  obtain ⟨fd_by_halves, h_by_halves⟩ := ok_by_halves (P := P) (w := w) (base := base) U E
  obtain ⟨fd_one_by_one, h_one_by_one⟩ := ok_one_by_one (P := P) (w := w) (base := base) U E
  obtain ⟨fd, Fd⟩ := E.D_looked_up
  exact ⟨fd, fn_V Fd sc_looked_up (t_looked_up E.T h_by_halves h_one_by_one), fun ds d h => runV_ar h, E.g_looked_up, Fd.kp, Fd.bindsN fun _ _ _ _ _ _ us hl => match us, hl with | [_, _, _], _ => rfl⟩
theorem sc_Walk_go_on_x : FnScope (["self", "drawer", "rule", "heading", "place", "looks", "card"] : List PySem.Str) (["self", "drawer", "rule", "heading"] : List PySem.Str) (defScope s_Walk_go_on_x) := ⟨rfl, rfl, rfl, by decide +kernel, rfl, by decide +kernel, by decide +kernel⟩
theorem ok_Walk_go_on_x {P : Program} {w : World} {K : PySem.W.Frag} {mg : Str → Option Value} {base : Heap} (U : TbB K mg base tf) (E : Fx K mg) : ∃ fd, MtM P w K mg base "Walk" "go_on" (He.fAd K ("Walk", some "go_on")) fd (["self", "drawer", "rule", "heading"] : List PySem.Str) 5 F_Walk_go_on_x := by
  obtain ⟨fd_Card_leads, p_Card_leads⟩ := ok_Card_leads (P := P) (w := w) (base := base) U E
  obtain ⟨fd_Card_see, p_Card_see⟩ := ok_Card_see (P := P) (w := w) (base := base) U E
  obtain ⟨fd_Drawer_cards, p_Drawer_cards⟩ := ok_Drawer_cards (P := P) (w := w) (base := base) U E
  obtain ⟨fd_looked_up, h_looked_up⟩ := ok_looked_up (P := P) (w := w) (base := base) U E
  obtain ⟨fd, Fd⟩ := E.D_Walk_go_on_x
  exact ⟨fd, fn_M (own' := [.M, .U, .U, .U, .U, .U, .U]) Fd sc_Walk_go_on_x rfl (t_Walk_go_on_x E.T p_Card_leads p_Card_see p_Drawer_cards h_looked_up) (by decide), fun d0 ds r h => congrArg (· + 1) (onIns_ar h), E.mt_Walk_go_on_x, Fd.bindsN fun _ _ _ _ _ _ us hl => match us, hl with | [_, _, _, _], _ => rfl⟩
theorem sc_Walk : FnScope (["self", "drawer", "rule", "heading"] : List PySem.Str) (["self", "drawer", "rule", "heading"] : List PySem.Str) (defScope s_Walk) := ⟨rfl, rfl, rfl, by decide +kernel, rfl, by decide +kernel, by decide +kernel⟩
theorem ok_Walk {P : Program} {w : World} {K : PySem.W.Frag} {mg : Str → Option Value} {base : Heap} (U : TbB K mg base tf) (E : Fx K mg) : ∃ fd, ClM P w K mg base "Walk" (He.fAd K ("Walk", some "__init__")) fd (["self", "drawer", "rule", "heading"] : List PySem.Str) 6 F_Walk := by
  obtain ⟨fd_Walk_go_on_x, m_Walk_go_on_x⟩ := ok_Walk_go_on_x (P := P) (w := w) (base := base) U E
  obtain ⟨fd, Fd⟩ := E.D_Walk
  exact ⟨fd, fn_M (own' := [.M, .U, .U, .U]) Fd sc_Walk rfl (t_Walk E.T m_Walk_go_on_x) (by decide), fun d0 ds r h => congrArg (· + 1) (onIns_ar h), E.mk_Walk, E.g_Walk, Fd.bindsN fun _ _ _ _ _ _ us hl => match us, hl with | [_, _, _, _], _ => rfl⟩
theorem sc_check_rule : FnScope (["rule"] : List PySem.Str) (["rule"] : List PySem.Str) (defScope s_check_rule) := ⟨rfl, rfl, rfl, by decide +kernel, rfl, by decide +kernel, by decide +kernel⟩
theorem ok_check_rule {P : Program} {w : World} {K : PySem.W.Frag} {mg : Str → Option Value} {base : Heap} (U : TbB K mg base tf) (E : Fx K mg) : ∃ fd, FnV P w K mg base "check_rule" (He.fAd K ("check_rule", none)) fd (["rule"] : List PySem.Str) 1 F_check_rule := by

  obtain ⟨fd, Fd⟩ := E.D_check_rule
  exact ⟨fd, fn_V Fd sc_check_rule (t_check_rule E.T ), fun ds d h => runV_ar h, E.g_check_rule, Fd.kp, Fd.bindsN fun _ _ _ _ _ _ us hl => match us, hl with | [_], _ => rfl⟩
theorem sc_Card_also : FnScope (["self"] : List PySem.Str) (["self"] : List PySem.Str) (defScope s_Card_also) := ⟨rfl, rfl, rfl, by decide +kernel, rfl, by decide +kernel, by decide +kernel⟩
theorem ok_Card_also {P : Program} {w : World} {K : PySem.W.Frag} {mg : Str → Option Value} {base : Heap} (U : TbB K mg base tf) (E : Fx K mg) : ∃ fd, PrV P w K mg base "Card" "also" (pOb K "Card" "also") (pAd K "Card" "also") fd (["self"] : List PySem.Str) 1 F_Card_also := by

  obtain ⟨fd, Fd⟩ := E.P_Card_also.fn
  exact ⟨fd, fn_V Fd sc_Card_also (t_Card_also E.T ), fun ds d h => runV_ar h, E.P_Card_also.at_, E.P_Card_also.get, E.P_Card_also.tk, E.P_Card_also.rc, Fd.bindsN fun _ _ _ _ _ _ us hl => match us, hl with | [_], _ => rfl⟩
theorem sc_Drawer_headings : FnScope (["self", "card"] : List PySem.Str) (["self"] : List PySem.Str) (defScope s_Drawer_headings) := ⟨rfl, rfl, rfl, by decide +kernel, rfl, by decide +kernel, by decide +kernel⟩
theorem ok_Drawer_headings {P : Program} {w : World} {K : PySem.W.Frag} {mg : Str → Option Value} {base : Heap} (U : TbB K mg base tf) (E : Fx K mg) : ∃ fd, PrV P w K mg base "Drawer" "headings" (pOb K "Drawer" "headings") (pAd K "Drawer" "headings") fd (["self"] : List PySem.Str) 3 F_Drawer_headings := by
  obtain ⟨fd_Card_heading, p_Card_heading⟩ := ok_Card_heading (P := P) (w := w) (base := base) U E
  obtain ⟨fd, Fd⟩ := E.P_Drawer_headings.fn
  exact ⟨fd, fn_V Fd sc_Drawer_headings (t_Drawer_headings E.T p_Card_heading), fun ds d h => runV_ar h, E.P_Drawer_headings.at_, E.P_Drawer_headings.get, E.P_Drawer_headings.tk, E.P_Drawer_headings.rc, Fd.bindsN fun _ _ _ _ _ _ us hl => match us, hl with | [_], _ => rfl⟩
theorem sc_known_headings : FnScope (["drawer", "found", "card"] : List PySem.Str) (["drawer"] : List PySem.Str) (defScope s_known_headings) := ⟨rfl, rfl, rfl, by decide +kernel, rfl, by decide +kernel, by decide +kernel⟩
theorem ok_known_headings {P : Program} {w : World} {K : PySem.W.Frag} {mg : Str → Option Value} {base : Heap} (U : TbB K mg base tf) (E : Fx K mg) : ∃ fd, FnV P w K mg base "known_headings" (He.fAd K ("known_headings", none)) fd (["drawer"] : List PySem.Str) 5 F_known_headings := by
  obtain ⟨fd_Card_also, p_Card_also⟩ := ok_Card_also (P := P) (w := w) (base := base) U E
  obtain ⟨fd_Card_leads, p_Card_leads⟩ := ok_Card_leads (P := P) (w := w) (base := base) U E
  obtain ⟨fd_Card_see, p_Card_see⟩ := ok_Card_see (P := P) (w := w) (base := base) U E
  obtain ⟨fd_Drawer_cards, p_Drawer_cards⟩ := ok_Drawer_cards (P := P) (w := w) (base := base) U E
  obtain ⟨fd_Drawer_headings, p_Drawer_headings⟩ := ok_Drawer_headings (P := P) (w := w) (base := base) U E
  obtain ⟨fd, Fd⟩ := E.D_known_headings
  exact ⟨fd, fn_V Fd sc_known_headings (t_known_headings E.T p_Card_also p_Card_leads p_Card_see p_Drawer_cards p_Drawer_headings), fun ds d h => runV_ar h, E.g_known_headings, Fd.kp, Fd.bindsN fun _ _ _ _ _ _ us hl => match us, hl with | [_], _ => rfl⟩
theorem sc_see_rings : FnScope (["drawer", "rule", "found", "heading", "row", "is_round"] : List PySem.Str) (["drawer", "rule"] : List PySem.Str) (defScope s_see_rings) := ⟨rfl, rfl, rfl, by decide +kernel, rfl, by decide +kernel, by decide +kernel⟩
theorem ok_see_rings {P : Program} {w : World} {K : PySem.W.Frag} {mg : Str → Option Value} {base : Heap} (U : TbB K mg base tf) (E : Fx K mg) : ∃ fd, FnV P w K mg base "see_rings" (He.fAd K ("see_rings", none)) fd (["drawer", "rule"] : List PySem.Str) 8 F_see_rings := by
  obtain ⟨fd_Walk, i_Walk⟩ := ok_Walk (P := P) (w := w) (base := base) U E
  obtain ⟨fd_Card_see, p_Card_see⟩ := ok_Card_see (P := P) (w := w) (base := base) U E
  obtain ⟨fd_Drawer_cards, p_Drawer_cards⟩ := ok_Drawer_cards (P := P) (w := w) (base := base) U E
  obtain ⟨fd_check_rule, h_check_rule⟩ := ok_check_rule (P := P) (w := w) (base := base) U E
  obtain ⟨fd_known_headings, h_known_headings⟩ := ok_known_headings (P := P) (w := w) (base := base) U E
  obtain ⟨fd, Fd⟩ := E.D_see_rings
  exact ⟨fd, fn_V Fd sc_see_rings (t_see_rings E.T i_Walk p_Card_see p_Drawer_cards h_check_rule h_known_headings), fun ds d h => runV_ar h, E.g_see_rings, Fd.kp, Fd.bindsN fun _ _ _ _ _ _ us hl => match us, hl with | [_, _], _ => rfl⟩
theorem sc_check_heading : FnScope (["value"] : List PySem.Str) (["value"] : List PySem.Str) (defScope s_check_heading) := ⟨rfl, rfl, rfl, by decide +kernel, rfl, by decide +kernel, by decide +kernel⟩
theorem ok_check_heading {P : Program} {w : World} {K : PySem.W.Frag} {mg : Str → Option Value} {base : Heap} (U : TbB K mg base tf) (E : Fx K mg) : ∃ fd, FnV P w K mg base "check_heading" (He.fAd K ("check_heading", none)) fd (["value"] : List PySem.Str) 2 F_check_heading := by
  obtain ⟨fd_is_word, h_is_word⟩ := ok_is_word (P := P) (w := w) (base := base) U E
  obtain ⟨fd, Fd⟩ := E.D_check_heading
  exact ⟨fd, fn_V Fd sc_check_heading (t_check_heading E.T h_is_word), fun ds d h => runV_ar h, E.g_check_heading, Fd.kp, Fd.bindsN fun _ _ _ _ _ _ us hl => match us, hl with | [_], _ => rfl⟩
theorem sc_walk : FnScope (["drawer", "rule", "heading", "found"] : List PySem.Str) (["drawer", "rule", "heading"] : List PySem.Str) (defScope s_walk) := ⟨rfl, rfl, rfl, by decide +kernel, rfl, by decide +kernel, by decide +kernel⟩
theorem ok_walk {P : Program} {w : World} {K : PySem.W.Frag} {mg : Str → Option Value} {base : Heap} (U : TbB K mg base tf) (E : Fx K mg) : ∃ fd, FnV P w K mg base "walk" (He.fAd K ("walk", none)) fd (["drawer", "rule", "heading"] : List PySem.Str) 8 F_walk := by
  obtain ⟨fd_Walk, i_Walk⟩ := ok_Walk (P := P) (w := w) (base := base) U E
  obtain ⟨fd_check_heading, h_check_heading⟩ := ok_check_heading (P := P) (w := w) (base := base) U E
  obtain ⟨fd_check_rule, h_check_rule⟩ := ok_check_rule (P := P) (w := w) (base := base) U E
  obtain ⟨fd, Fd⟩ := E.D_walk
  exact ⟨fd, fn_V Fd sc_walk (t_walk E.T i_Walk h_check_heading h_check_rule), fun ds d h => runV_ar h, E.g_walk, Fd.kp, Fd.bindsN fun _ _ _ _ _ _ us hl => match us, hl with | [_, _, _], _ => rfl⟩
theorem sc_law : FnScope (["_law_script", "_law_row", "_law_some", "_law_drawer_here", "_law_rule", "_law_steps_of", "_law_heading", "_law_place", "_law_here", "_law_rounds", "_law_turn", "_law_due", "_law_ring", "_law_members", "_law_spot"] : List PySem.Str) (["_law_script"] : List PySem.Str) (defScope s_law) := ⟨rfl, rfl, rfl, by decide +kernel, rfl, by decide +kernel, by decide +kernel⟩
theorem okL {P : Program} {w : World} {K : PySem.W.Frag} {mg : Str → Option Value} {base : Heap} (U : TbB K mg base tf) (E : Fx K mg) {f : Addr} {fd : FuncData} (Fd : FunD K "law" "law" (defArgs s_law) (defBody s_law) (defScope s_law) [] [] f fd) : FnOk P w K mg base CX0 9 f fd (["_law_script"] : List PySem.Str) (spV K 1 F_law) := by
  obtain ⟨fd__law_seeing, h__law_seeing⟩ := ok__law_seeing (P := P) (w := w) (base := base) U E
  obtain ⟨fd__law_drawer, h__law_drawer⟩ := ok__law_drawer (P := P) (w := w) (base := base) U E
  obtain ⟨fd__law_known, h__law_known⟩ := ok__law_known (P := P) (w := w) (base := base) U E
  obtain ⟨fd__law_looked, h__law_looked⟩ := ok__law_looked (P := P) (w := w) (base := base) U E
  obtain ⟨fd_see_rings, h_see_rings⟩ := ok_see_rings (P := P) (w := w) (base := base) U E
  obtain ⟨fd_walk, h_walk⟩ := ok_walk (P := P) (w := w) (base := base) U E
  exact fn_V Fd sc_law (t_law E.T h__law_seeing h__law_drawer h__law_known h__law_looked h_see_rings h_walk)
def fa0 : List He.Fa := [.str "ENTRY" "entry", .str "HALF" "half", .str "LEAF" "leaf", .str "LETTERS" "abcdefghijklmnopqrstuvwxyz", .str "LOST" "lost", .int "MAX_ALSO" 4, .int "MAX_BOOK" 999, .int "MAX_BOOKS" 6]
def fa1 : List He.Fa := [.int "MAX_CARDS" 16, .int "MAX_LETTERS" 8, .str "RING" "ring", .free "all", .free "bool", .free "dict", .free "enumerate", .free "int"]
def fa2 : List He.Fa := [.free "isinstance", .free "len", .free "list", .free "min", .free "range", .free "set", .free "sorted", .free "str"]
def fa3 : List He.Fa := [.free "tuple", .free "zip", .glo "RULES", .glo "_law_taken", .glo "_law_pick", .glo "_law_seeing", .glo "is_number", .glo "are_books"]
def fa4 : List He.Fa := [.glo "is_word", .glo "are_others", .glo "Card", .mkr "Card", .glo "Drawer", .mkr "Drawer", .glo "_law_drawer", .glo "_law_known"]
def fa5 : List He.Fa := [.glo "_law_looked", .glo "by_halves", .glo "one_by_one", .glo "looked_up", .meth "Walk" "go_on", .glo "Walk", .mkr "Walk", .glo "check_rule"]
def fa6 : List He.Fa := [.glo "known_headings", .glo "see_rings", .glo "check_heading", .glo "walk", .glo "law"]
def fa : List He.Fa := fa0 ++ (fa1 ++ (fa2 ++ (fa3 ++ (fa4 ++ (fa5 ++ (fa6))))))
def fn0 : List He.DefD := [⟨("_law_taken", none), "_law_taken", "_law_taken", defArgs s__law_taken, defBody s__law_taken, defScope s__law_taken, [], []⟩, ⟨("_law_pick", none), "_law_pick", "_law_pick", defArgs s__law_pick, defBody s__law_pick, defScope s__law_pick, [], []⟩, ⟨("_law_seeing", none), "_law_seeing", "_law_seeing", defArgs s__law_seeing, defBody s__law_seeing, defScope s__law_seeing, [], []⟩, ⟨("is_number", none), "is_number", "is_number", defArgs s_is_number, defBody s_is_number, defScope s_is_number, [], []⟩, ⟨("are_books", none), "are_books", "are_books", defArgs s_are_books, defBody s_are_books, defScope s_are_books, [], []⟩, ⟨("is_word", none), "is_word", "is_word", defArgs s_is_word, defBody s_is_word, defScope s_is_word, [], []⟩, ⟨("are_others", none), "are_others", "are_others", defArgs s_are_others, defBody s_are_others, defScope s_are_others, [], []⟩, ⟨("Card", some "__init__"), "__init__", "Card.__init__", defArgs s_Card, defBody s_Card, defScope s_Card, [.adr (He.dflAt ("Card", some "__init__") 0), .str "", .adr (He.dflAt ("Card", some "__init__") 2)], []⟩]
def fn1 : List He.DefD := [⟨("Drawer", some "__init__"), "__init__", "Drawer.__init__", defArgs s_Drawer, defBody s_Drawer, defScope s_Drawer, [], []⟩, ⟨("_law_drawer", none), "_law_drawer", "_law_drawer", defArgs s__law_drawer, defBody s__law_drawer, defScope s__law_drawer, [], []⟩, ⟨("_law_known", none), "_law_known", "_law_known", defArgs s__law_known, defBody s__law_known, defScope s__law_known, [], []⟩, ⟨("_law_looked", none), "_law_looked", "_law_looked", defArgs s__law_looked, defBody s__law_looked, defScope s__law_looked, [], []⟩, ⟨("by_halves", none), "by_halves", "by_halves", defArgs s_by_halves, defBody s_by_halves, defScope s_by_halves, [], []⟩, ⟨("one_by_one", none), "one_by_one", "one_by_one", defArgs s_one_by_one, defBody s_one_by_one, defScope s_one_by_one, [], []⟩, ⟨("looked_up", none), "looked_up", "looked_up", defArgs s_looked_up, defBody s_looked_up, defScope s_looked_up, [], []⟩, ⟨("Walk", some "go_on"), "go_on", "Walk.go_on", defArgs s_Walk_go_on_x, defBody s_Walk_go_on_x, defScope s_Walk_go_on_x, [], []⟩]
def fn2 : List He.DefD := [⟨("Walk", some "__init__"), "__init__", "Walk.__init__", defArgs s_Walk, defBody s_Walk, defScope s_Walk, [], []⟩, ⟨("check_rule", none), "check_rule", "check_rule", defArgs s_check_rule, defBody s_check_rule, defScope s_check_rule, [], []⟩, ⟨("known_headings", none), "known_headings", "known_headings", defArgs s_known_headings, defBody s_known_headings, defScope s_known_headings, [], []⟩, ⟨("see_rings", none), "see_rings", "see_rings", defArgs s_see_rings, defBody s_see_rings, defScope s_see_rings, [], []⟩, ⟨("check_heading", none), "check_heading", "check_heading", defArgs s_check_heading, defBody s_check_heading, defScope s_check_heading, [], []⟩, ⟨("walk", none), "walk", "walk", defArgs s_walk, defBody s_walk, defScope s_walk, [], []⟩, ⟨("law", none), "law", "law", defArgs s_law, defBody s_law, defScope s_law, [], []⟩]
def fn : List He.DefD := fn0 ++ (fn1 ++ (fn2))
def prs0 : List PrD := [pr_Card_leads, pr_Card_see, pr_Drawer_cards, pr_Card_heading, pr_Card_also, pr_Drawer_headings]
def prs : List PrD := prs0
def names0 : List PySem.Str := ["_wall", "SeeError", "InvalidCard", "InvalidDrawer", "UnknownPlace", "InvalidRule", "InvalidHeading", "LETTERS"]
def names1 : List PySem.Str := ["MAX_LETTERS", "MAX_BOOKS", "MAX_BOOK", "MAX_ALSO", "is_number", "is_word", "check_heading", "are_books"]
def names2 : List PySem.Str := ["are_others", "Card", "MAX_CARDS", "Drawer", "known_headings", "ALL", "HALF", "LEAF"]
def names3 : List PySem.Str := ["RULES", "check_rule", "by_halves", "one_by_one", "looked_up", "ENTRY", "LOST", "RING"]
def names4 : List PySem.Str := ["Walk", "walk", "see_rings", "_law_taken", "_law_pick", "_law_drawer", "_law_looked", "_law_known"]
def names5 : List PySem.Str := ["_law_seeing"]
def names : List PySem.Str := names0 ++ (names1 ++ (names2 ++ (names3 ++ (names4 ++ (names5)))))
def ex (K : PySem.W.Frag) : Bool := tfB tf K && (clB K "Card" (["facts"] : List PySem.Str) && (clB K "Drawer" (["row"] : List PySem.Str) && (He.tupB K "RULES" ((["all", "half", "leaf"] : List PySem.Str).map He.Dv.str) && (dclB K "Walk"))))
abbrev R : PySem.W.OpenRow := PySem.W.OpenLaw.row PySem.Challenge.rw_seerings_k09_whole_rings_by_powers
abbrev hk : PySem.W.Hook := hookY 6 fa fn prs tf ex
def ob (s : PySem.W.SharedT) : AlY := obsY 6 fa fn prs tf ex (HandSHeadRun.getT s)
theorem ob_eq (s : PySem.W.SharedT) : ob s = hk.obs s.abs := obsY_eq (HandSHeadRun.getT_eq s)
theorem run (w : World) : HandSHeadRun.RunEq R (PySem.W.view R.prog [47]) hk ob 20000 names w := by
  intro os
  kernel_rfl
theorem fx {w : World} {K : PySem.W.Frag} {h : Heap} {mg : Str → Option Value} (X : K.In h) (G : h.Ns mainGlobals mg) (c : SaysY fa fn prs tf ex w h K) : Fx K mg := by
  have e0 := c.more
  unfold ex at e0
  simp only [Bool.and_eq_true] at e0
  exact ⟨⟨clB_ok e0.2.1, clB_ok e0.2.2.1, He.str_ok X G (c.fact 0 (f := .str "ENTRY" "entry") rfl), He.str_ok X G (c.fact 1 (f := .str "HALF" "half") rfl), He.str_ok X G (c.fact 2 (f := .str "LEAF" "leaf") rfl), He.str_ok X G (c.fact 3 (f := .str "LETTERS" "abcdefghijklmnopqrstuvwxyz") rfl), He.str_ok X G (c.fact 4 (f := .str "LOST" "lost") rfl), He.int_ok X G (c.fact 5 (f := .int "MAX_ALSO" 4) rfl), He.int_ok X G (c.fact 6 (f := .int "MAX_BOOK" 999) rfl), He.int_ok X G (c.fact 7 (f := .int "MAX_BOOKS" 6) rfl), He.int_ok X G (c.fact 8 (f := .int "MAX_CARDS" 16) rfl), He.int_ok X G (c.fact 9 (f := .int "MAX_LETTERS" 8) rfl), He.str_ok X G (c.fact 10 (f := .str "RING" "ring") rfl), ⟨_, He.glo_ok X G (c.fact 26 (f := .glo "RULES") rfl), strsRep e0.2.2.2.1 (by decide +kernel) (by decide)⟩, dclB_ok e0.2.2.2.2 (by decide +kernel) (by decide +kernel), He.free_ok X G (c.fact 11 (f := .free "all") rfl), He.free_ok X G (c.fact 12 (f := .free "bool") rfl), He.free_ok X G (c.fact 13 (f := .free "dict") rfl), He.free_ok X G (c.fact 14 (f := .free "enumerate") rfl), He.free_ok X G (c.fact 15 (f := .free "int") rfl), He.free_ok X G (c.fact 16 (f := .free "isinstance") rfl), He.free_ok X G (c.fact 17 (f := .free "len") rfl), He.free_ok X G (c.fact 18 (f := .free "list") rfl), He.free_ok X G (c.fact 19 (f := .free "min") rfl), He.free_ok X G (c.fact 20 (f := .free "range") rfl), He.free_ok X G (c.fact 21 (f := .free "set") rfl), He.free_ok X G (c.fact 22 (f := .free "sorted") rfl), He.free_ok X G (c.fact 23 (f := .free "str") rfl), He.free_ok X G (c.fact 24 (f := .free "tuple") rfl), He.free_ok X G (c.fact 25 (f := .free "zip") rfl)⟩,
    c.def_ 0 rfl,
    He.glo_ok X G (c.fact 27 (f := .glo "_law_taken") rfl),
    c.def_ 1 rfl,
    He.glo_ok X G (c.fact 28 (f := .glo "_law_pick") rfl),
    c.def_ 2 rfl,
    He.glo_ok X G (c.fact 29 (f := .glo "_law_seeing") rfl),
    c.def_ 3 rfl,
    He.glo_ok X G (c.fact 30 (f := .glo "is_number") rfl),
    c.def_ 4 rfl,
    He.glo_ok X G (c.fact 31 (f := .glo "are_books") rfl),
    c.def_ 5 rfl,
    He.glo_ok X G (c.fact 32 (f := .glo "is_word") rfl),
    c.def_ 6 rfl,
    He.glo_ok X G (c.fact 33 (f := .glo "are_others") rfl),
    (let ⟨fd, h⟩ := c.def_ 7 rfl; ⟨_, fd, rfl, h⟩),
    He.glo_ok X G (c.fact 34 (f := .glo "Card") rfl),
    He.mkr_ok (c.fact 35 (f := .mkr "Card") rfl),
    c.def_ 8 rfl,
    He.glo_ok X G (c.fact 36 (f := .glo "Drawer") rfl),
    He.mkr_ok (c.fact 37 (f := .mkr "Drawer") rfl),
    c.def_ 9 rfl,
    He.glo_ok X G (c.fact 38 (f := .glo "_law_drawer") rfl),
    c.def_ 10 rfl,
    He.glo_ok X G (c.fact 39 (f := .glo "_law_known") rfl),
    c.def_ 11 rfl,
    He.glo_ok X G (c.fact 40 (f := .glo "_law_looked") rfl),
    c.prop 0 rfl,
    c.prop 1 rfl,
    c.prop 2 rfl,
    c.prop 3 rfl,
    c.def_ 12 rfl,
    He.glo_ok X G (c.fact 41 (f := .glo "by_halves") rfl),
    c.def_ 13 rfl,
    He.glo_ok X G (c.fact 42 (f := .glo "one_by_one") rfl),
    c.def_ 14 rfl,
    He.glo_ok X G (c.fact 43 (f := .glo "looked_up") rfl),
    c.def_ 15 rfl,
    He.meth_ok (c.fact 44 (f := .meth "Walk" "go_on") rfl),
    c.def_ 16 rfl,
    He.glo_ok X G (c.fact 45 (f := .glo "Walk") rfl),
    He.mkr_ok (c.fact 46 (f := .mkr "Walk") rfl),
    c.def_ 17 rfl,
    He.glo_ok X G (c.fact 47 (f := .glo "check_rule") rfl),
    c.prop 4 rfl,
    c.prop 5 rfl,
    c.def_ 18 rfl,
    He.glo_ok X G (c.fact 48 (f := .glo "known_headings") rfl),
    c.def_ 19 rfl,
    He.glo_ok X G (c.fact 49 (f := .glo "see_rings") rfl),
    c.def_ 20 rfl,
    He.glo_ok X G (c.fact 50 (f := .glo "check_heading") rfl),
    c.def_ 21 rfl,
    He.glo_ok X G (c.fact 51 (f := .glo "walk") rfl),
    c.def_ 22 rfl,
    He.glo_ok X G (c.fact 52 (f := .glo "law") rfl)⟩
theorem facts {P : Program} {w : World} {K : PySem.W.Frag} {h : Heap} {mg : Str → Option Value} {f : Addr} (X : K.In h) (G : h.Ns mainGlobals mg) (hfa : mg ("law" : Str) = some (.ref f)) (c : SaysY fa fn prs tf ex w h K) :
    ∃ fd : FuncData, (∀ (s : Shared) (v : Value), BindsTo s fd ⟨[v], []⟩ [("_law_script", v)]) ∧ ∀ base : Heap, K.In base → base.Ns mainGlobals mg → (∀ p ∈ tf.map (He.cT K), LamX.TabB base mg p.1 p.2) → FnOk P w K mg base CX0 9 f fd ["_law_script"] (spV K 1 F_law) := by
  have E := fx X G c
  have e := hfa.symm.trans E.g_law
  cases e
  obtain ⟨fd, Fd⟩ := id E.D_law
  have b := FunD.bindsA (ps := ["_law_script"]) Fd fun _ _ _ _ _ _ us hl => match us, hl with | [_], _ => rfl
  refine ⟨fd, fun s v => b s [v] rfl, fun base _ _ TB => ?_⟩
  have U : TbB K mg base tf := fun p hp => ⟨List.elem_iff.mp (List.all_eq_true.mp (show (tf.all fun p => LAMS.elem p) = true by decide +kernel) p hp), c.x.hd p hp, TB _ (List.mem_map.mpr ⟨p, hp, rfl⟩)⟩
  exact okL U E Fd
theorem tfB_of {w : World} {K : PySem.W.Frag} {h : Heap} (c : SaysY fa fn prs tf ex w h K) : tfB tf K = true := by
  have e0 := c.more
  unfold ex at e0
  simp only [Bool.and_eq_true] at e0
  exact e0.1
end MP.k09
namespace MP.k09
open PySem L2 MP
section
variable (s0 row : D) (cs : List C) (rule : Str)
/-- the headings that lead on -/
def on_ (rule : Str) (cs : List C) (K : List Str) : List Str := K.filter fun h => (stp rule cs h).isSome
def stD (rule : Str) (cs : List C) (h : Str) : D := .str ((stp rule cs h).getD "")
def dkS (b : Bool) (f : Str → D) (l : List Str) : D := .dk b (l.map kS) (l.map f)
theorem on_app (a b : List Str) : on_ rule cs (a ++ b) = on_ rule cs a ++ on_ rule cs b := by unfold on_; rw [List.filter_append]
theorem put_dkS {f : Str → D} {l : List Str} {h : Str} (hn : h ∉ l) : D.dk false (putKs (l.map kS) (kS h)) (putXs (l.map kS) (l.map f) (kS h) (f h)) = dkS false f (l ++ [h]) := by
  have : kS h ∉ l.map kS := fun z => hn (kS_mem.mp z)
  rw [putKs_new this, putXs_new this]
  unfold dkS
  simp
theorem steps_loop (hr : rule = "all" ∨ rule = "leaf" ∨ rule = "half") (hn : cs.length < 900) (x8 x9 x10 x11 x12 x13 x14 : D) : ∀ (L : List Str) (A : List Str) (x6 x7 : D), (A ++ L).Nodup → (A ++ L).length < 900 →
    ∃ y6 y7, forL (bName 6) b1_law (L.map D.str) [s0, row, .lst (cs.map sm), dr cs, .str rule, dkS false (stD rule cs) (on_ rule cs A), x6, x7, x8, x9, x10, x11, x12, x13, x14] = .nx [s0, row, .lst (cs.map sm), dr cs, .str rule, dkS false (stD rule cs) (on_ rule cs (A ++ L)), y6, y7, x8, x9, x10, x11, x12, x13, x14]
  | [], A, x6, x7, _, _ => ⟨x6, x7, by simp⟩
  | h :: L, A, x6, x7, nd, hl => by
    have lo := looked_spec cs rule h hr (by omega)
    have b : ∃ y7, b1_law [s0, row, .lst (cs.map sm), dr cs, .str rule, dkS false (stD rule cs) (on_ rule cs A), .str h, x7, x8, x9, x10, x11, x12, x13, x14] = .nx [s0, row, .lst (cs.map sm), dr cs, .str rule, dkS false (stD rule cs) (on_ rule cs (A ++ [h])), .str h, y7, x8, x9, x10, x11, x12, x13, x14] := by
      obtain ⟨o, l, eo⟩ : ∃ (o : Option Nat) (l : List Nat), lk rule (cs.map C.h) h = (o, l) := ⟨_, _, rfl⟩
      rw [eo] at lo
      have er : ixD (encR (o, l)) (.int 0) = some (encO o) := by unfold encR; rfl
      cases o with
      | none =>
        have es : on_ rule cs (A ++ [h]) = on_ rule cs A := by
          rw [on_app]
          have : on_ rule cs [h] = [] := by
            unfold on_
            have : stp rule cs h = none := by unfold stp; rw [eo]
            rw [List.filter_cons, this]; rfl
          rw [this, List.append_nil]
        have n0 : notND .non .non = some (.bl false) := rfl
        refine ⟨.non, ?_⟩
        rw [es]
        simp only [encO] at er
        unfold b1_law
        simp -implicitDefEqProofs only [seqS_ap, setS_ap, op2_ap, callD_ap, consD_ap, nilD_ap, vD_ap, kD_ap, look_succ, look_zero, bnd_ok, bnd_ap, ret_ap, lo, ofO_some, er, sb_ok, List.set_cons_succ, List.set_cons_zero, sq_nx, ifS_ap, andB_ap, asB_ap, n0, bl1_bl, Bool.false_eq_true, if_false, nxS_ap]
      | some p =>
        have hp : p < cs.length := by
          have := lk_lt (rule := rule) (hs := cs.map C.h) (h := h) (p := p) (by rw [eo])
          simpa using this
        have n0 : notND (.int (p : Int)) .non = some (.bl true) := rfl
        have i1 : ixD (.lst (cs.map sm)) (.int (p : Int)) = some (sm cs[p]) := sm_at cs hp
        have i2 := ixsm2 cs[p]
        have q := neD_ss cs[p].see ""
        simp only [encO] at er
        by_cases e : cs[p].see = ""
        · have es : on_ rule cs (A ++ [h]) = on_ rule cs A := by
            rw [on_app]
            have : on_ rule cs [h] = [] := by
              unfold on_
              have : stp rule cs h = none := by unfold stp; rw [eo]; dsimp only; rw [see_at cs hp, if_pos e]
              rw [List.filter_cons, this]; rfl
            rw [this, List.append_nil]
          rw [decide_eq_true e] at q
          refine ⟨.int p, ?_⟩
          rw [es]
          unfold b1_law
          simp -implicitDefEqProofs only [seqS_ap, setS_ap, op2_ap, callD_ap, consD_ap, nilD_ap, vD_ap, kD_ap, look_succ, look_zero, bnd_ok, bnd_ap, ret_ap, lo, ofO_some, er, sb_ok, List.set_cons_succ, List.set_cons_zero, sq_nx, ifS_ap, andB_ap, asB_ap, n0, bl1_bl, if_true, i1, i2, q, Bool.not_true, Bool.false_eq_true, if_false, nxS_ap]
        · have sp : stp rule cs h = some cs[p].see := by unfold stp; rw [eo]; dsimp only; rw [see_at cs hp, if_neg e]
          have es : on_ rule cs (A ++ [h]) = on_ rule cs A ++ [h] := by
            rw [on_app]
            have : on_ rule cs [h] = [h] := by
              unfold on_
              rw [List.filter_cons, sp]; rfl
            rw [this]
          have hd : h ∉ on_ rule cs A := fun z => by
            have := (List.mem_filter.mp z).1
            rw [List.nodup_append] at nd
            exact nd.2.2 h this h (by simp) rfl
          have sf : stD rule cs h = .str cs[p].see := by unfold stD; rw [sp]; rfl
          have pt := put_dkS (f := stD rule cs) hd
          rw [sf] at pt
          have ll : ((on_ rule cs A).map (stD rule cs)).length < 16000000 := by
            have := List.length_filter_le (fun h => (stp rule cs h).isSome) A
            unfold on_
            simp at hl ⊢
            omega
          rw [decide_eq_false e] at q
          refine ⟨.int p, ?_⟩
          rw [es, ← pt]
          unfold b1_law dkS
          simp -implicitDefEqProofs only [seqS_ap, setS_ap, op2_ap, callD_ap, consD_ap, nilD_ap, vD_ap, kD_ap, look_succ, look_zero, bnd_ok, bnd_ap, ret_ap, lo, ofO_some, er, sb_ok, List.set_cons_succ, List.set_cons_zero, sq_nx, ifS_ap, andB_ap, asB_ap, n0, bl1_bl, if_true, i1, i2, q, Bool.not_false, putDS_ap, sbd_ap, keyK_s, ll, nxS_ap]
    obtain ⟨y7, b⟩ := b
    obtain ⟨z6, z7, ih⟩ := steps_loop hr hn x8 x9 x10 x11 x12 x13 x14 L (A ++ [h]) (.str h) y7 (by simpa using nd) (by simpa using hl)
    refine ⟨z6, z7, ?_⟩
    rw [List.map_cons, forL_cons rfl]
    simp only [List.set_cons_succ, List.set_cons_zero]
    rw [b, lp_nx, ih, List.append_assoc]; rfl
end
section
variable (s0 row : D) (cs : List C) (rule : Str)
/-- what is known of the steps -/
structure St (rule : Str) (cs : List C) (l : List Str) : Prop where
  nd : l.Nodup
  len : l.length < 900
  on : ∀ x, x ∈ l ↔ ∃ y, stp rule cs x = some y
  em : stp rule cs "" = none
  w : ∀ x ∈ l, x ≠ ""
variable {l : List Str} (T : St rule cs l)
include T
theorem get_st (x y : Str) : get2K (dkS true (stD rule cs) l) (.str x) (.str y) = some (.str ((stp rule cs x).getD y)) := by
  show some ((valA (l.map kS) (l.map (stD rule cs)) (kS x)).getD (.str y)) = _
  by_cases h : x ∈ l
  · rw [valA_strs _ h]
    obtain ⟨z, e⟩ := (T.on x).mp h
    unfold stD
    rw [e]; rfl
  · have : valA (l.map kS) (l.map (stD rule cs)) (kS x) = none := by
      have := valA_mem (ks := l.map kS) (xs := l.map (stD rule cs)) (k := kS x) (by simp)
      rw [decide_eq_false fun z => h (kS_mem.mp z)] at this
      cases q : valA (l.map kS) (l.map (stD rule cs)) (kS x) with
      | none => rfl
      | some d => rw [q] at this; cases this
    rw [this]
    have : stp rule cs x = none := by
      cases q : stp rule cs x with
      | none => rfl
      | some d => exact (h ((T.on x).mpr ⟨d, q⟩)).elim
    rw [this]; rfl
abbrev itD' (rule : Str) (cs : List C) (t : Nat) (h : Str) : D := .str ((itN (stp rule cs) t h).getD "")
noncomputable abbrev pvD (rule : Str) (cs : List C) (h : Str) : D := .int ((pv (stp rule cs) h : Nat) : Int)
theorem it_succ (t : Nat) (h : Str) : (itN (stp rule cs) (t + 1) h).getD "" = (stp rule cs ((itN (stp rule cs) t h).getD "")).getD "" := by
  show ((itN (stp rule cs) t h).bind (stp rule cs)).getD "" = _
  cases itN (stp rule cs) t h with
  | none => show "" = (stp rule cs "").getD ""; rw [T.em]; rfl
  | some z => rfl
theorem note_loop (t : Nat) (x5 x7 x11 x12 x13 x14 : D) : ∀ (L acc : List Str) (x6 : D), (∀ x ∈ L, x ∈ l) → (∀ x ∈ l, ∀ u, Per (stp rule cs) u x → u ≤ t → x ∈ acc) → (∀ x ∈ acc, x ∈ l) → acc.Nodup →
    ∃ y6, forL (bName 6) b2_law (L.map D.str) [s0, row, .lst (cs.map sm), dr cs, .str rule, x5, x6, x7, dkS true (itD' rule cs (t + 1)) l, dkS false (pvD rule cs) acc, .int ((t + 1 : Nat) : Int), x11, x12, x13, x14] = .nx [s0, row, .lst (cs.map sm), dr cs, .str rule, x5, y6, x7, dkS true (itD' rule cs (t + 1)) l, dkS false (pvD rule cs) (addR (stp rule cs) (t + 1) acc L), .int ((t + 1 : Nat) : Int), x11, x12, x13, x14]
  | [], acc, x6, _, _, _, _ => ⟨x6, rfl⟩
  | h :: L, acc, x6, hL, ha, hs, nd => by
    have hl := hL h (by simp)
    have hw := T.w h hl
    have g : getK (dkS true (itD' rule cs (t + 1)) l) (.str h) = some (itD' rule cs (t + 1) h) := by
      show valA (l.map kS) (l.map (itD' rule cs (t + 1))) (kS h) = _
      exact valA_strs _ hl
    have eq := eqD_ss ((itN (stp rule cs) (t + 1) h).getD "") h
    have de : ((itN (stp rule cs) (t + 1) h).getD "" = h) ↔ itN (stp rule cs) (t + 1) h = some h := by
      cases itN (stp rule cs) (t + 1) h with
      | none => exact ⟨fun z => (hw z.symm).elim, fun z => by cases z⟩
      | some y => exact ⟨fun z => congrArg some z, fun z => by cases z; rfl⟩
    have ink : inK true (.str h) (dkS false (pvD rule cs) acc) = some (.bl (!decide (h ∈ acc))) := by
      have : decide (kS h ∈ acc.map kS) = decide (h ∈ acc) := decide_eq_decide.mpr kS_mem
      unfold inK dkS
      simp only [keyK_s]
      rw [this]
      simp
    have b : b2_law [s0, row, .lst (cs.map sm), dr cs, .str rule, x5, .str h, x7, dkS true (itD' rule cs (t + 1)) l, dkS false (pvD rule cs) acc, .int ((t + 1 : Nat) : Int), x11, x12, x13, x14] = .nx [s0, row, .lst (cs.map sm), dr cs, .str rule, x5, .str h, x7, dkS true (itD' rule cs (t + 1)) l, dkS false (pvD rule cs) (if itN (stp rule cs) (t + 1) h = some h ∧ h ∉ acc then acc ++ [h] else acc), .int ((t + 1 : Nat) : Int), x11, x12, x13, x14] := by
      by_cases c1 : itN (stp rule cs) (t + 1) h = some h
      · rw [decide_eq_true (de.mpr c1)] at eq
        by_cases c2 : h ∈ acc
        · rw [decide_eq_true c2] at ink
          rw [if_neg fun z => z.2 c2]
          unfold b2_law
          simp -implicitDefEqProofs only [seqS_ap, ifS_ap, andB_ap, asB_ap, op2_ap, vD_ap, look_succ, look_zero, bnd_ok, bnd_ap, g, eq, ofO_some, bl1_bl, if_true, inKS_ap, ink, Bool.not_true, sb_ok, ret_ap, Bool.false_eq_true, if_false, nxS_ap, sq_nx]
        · rw [decide_eq_false c2] at ink
          rw [if_pos ⟨c1, c2⟩]
          have pp : pv (stp rule cs) h = t + 1 := by
            obtain ⟨u, p, hu⟩ := per_of (t + 1) (t + 1) (Nat.le_refl _) (by omega) c1
            by_cases q : u ≤ t
            · exact (c2 (ha h hl u p q)).elim
            · rw [pv_eq p]; omega
          have pt := put_dkS (f := pvD rule cs) c2
          have pd : pvD rule cs h = .int ((t + 1 : Nat) : Int) := by unfold pvD; rw [pp]
          rw [pd] at pt
          have ll : (acc.map (pvD rule cs)).length < 16000000 := by
            have := nd_len acc l nd hs
            have := T.len
            simp; omega
          rw [← pt]
          unfold dkS at ink
          unfold b2_law dkS at *
          simp -implicitDefEqProofs only [seqS_ap, ifS_ap, andB_ap, asB_ap, op2_ap, vD_ap, look_succ, look_zero, bnd_ok, bnd_ap, g, eq, ofO_some, bl1_bl, if_true, inKS_ap, ink, Bool.not_false, putDS_ap, sb_ok, sbd_ap, keyK_s, ll, List.set_cons_succ, List.set_cons_zero, nxS_ap, sq_nx]
      · rw [decide_eq_false fun z => c1 (de.mp z)] at eq
        rw [if_neg fun z => c1 z.1]
        unfold b2_law
        simp -implicitDefEqProofs only [seqS_ap, ifS_ap, andB_ap, asB_ap, op2_ap, vD_ap, look_succ, look_zero, bnd_ok, bnd_ap, g, eq, ofO_some, bl1_bl, sb_ok, ret_ap, Bool.false_eq_true, if_false, nxS_ap, sq_nx]
    obtain ⟨y6, ih⟩ := note_loop t x5 x7 x11 x12 x13 x14 L (if itN (stp rule cs) (t + 1) h = some h ∧ h ∉ acc then acc ++ [h] else acc) (.str h) (fun x hx => hL x (by simp [hx])) (fun x hx u p hu => by
      have := ha x hx u p hu
      split <;> simp [this]) (fun x hx => by
      split at hx
      · rcases List.mem_append.mp hx with q | q
        · exact hs x q
        · simp at q; rw [q]; exact hl
      · exact hs x hx) (by
      split
      · rename_i c; exact nd_snoc nd c.2
      · exact nd)
    refine ⟨y6, ?_⟩
    rw [List.map_cons, forL_cons rfl]
    simp only [List.set_cons_succ, List.set_cons_zero]
    rw [b, lp_nx, ih]; rfl
theorem turn_body (t : Nat) (x5 x6 x7 x11 x12 x13 x14 : D) :
    ∃ y6, b3_law [s0, row, .lst (cs.map sm), dr cs, .str rule, dkS true (stD rule cs) l, x6, x7, dkS true (itD' rule cs t) l, dkS false (pvD rule cs) (rd (stp rule cs) l t), .int ((t + 1 : Nat) : Int), x11, x12, x13, x14] = .nx [s0, row, .lst (cs.map sm), dr cs, .str rule, dkS true (stD rule cs) l, y6, x7, dkS true (itD' rule cs (t + 1)) l, dkS false (pvD rule cs) (rd (stp rule cs) l (t + 1)), .int ((t + 1 : Nat) : Int), x11, x12, x13, x14] := by
  have kd := keyD_strs l
  have lc := lcM (i := 6) (g := tupD (consD (vD 6) (consD (get2M (vD 5) (op2 getK (vD 8) (vD 6)) (kD (.str ""))) nilD))) (ρ := [s0, row, .lst (cs.map sm), dr cs, .str rule, dkS true (stD rule cs) l, x6, x7, dkS true (itD' rule cs t) l, dkS false (pvD rule cs) (rd (stp rule cs) l t), .int ((t + 1 : Nat) : Int), x11, x12, x13, x14]) D.str (fun h => .tup [.str h, itD' rule cs (t + 1) h]) (L := l) (by simp) fun h hl => by
    have g : getK (dkS true (itD' rule cs t) l) (.str h) = some (itD' rule cs t h) := by
      show valA (l.map kS) (l.map (itD' rule cs t)) (kS h) = _
      exact valA_strs _ hl
    have g2 := get_st cs rule T ((itN (stp rule cs) t h).getD "") ""
    have is : get2M.isDk (dkS true (stD rule cs) l) = some (dkS true (stD rule cs) l) := rfl
    rw [← it_succ cs rule T] at g2
    simp -implicitDefEqProofs only [tupD_ap, consD_ap, nilD_ap, vD_ap, kD_ap, List.set_cons_succ, List.set_cons_zero, look_succ, look_zero, bnd_ok, bnd_ap, get2M_ap, op2_ap, is, g, g2, ofO_some, ret_ap, szO_2]
  have di := dict_strs (itD' rule cs (t + 1)) T.nd (by have := T.len; omega)
  have lk1 : lkD (.dk false (l.map kS) (l.map (itD' rule cs (t + 1)))) = some (dkS true (itD' rule cs (t + 1)) l) := rfl
  have ko : ∀ f, keysOf (dkS true f l) = some (l.map D.str) := fun f => by
    show some ((l.map kS).map keyD) = _
    rw [kd]
  obtain ⟨y6, nl⟩ := note_loop s0 row cs rule T t (dkS true (stD rule cs) l) x7 x11 x12 x13 x14 l (rd (stp rule cs) l t) x6 (fun _ h => h) (fun x hx u p hu => (rd_mem t).mpr ⟨hx, u, p, hu⟩) (fun x hx => ((rd_mem t).mp hx).1) (rd_nd l t)
  refine ⟨y6, ?_⟩
  unfold b3_law
  simp -implicitDefEqProofs only [seqS_ap, setS_ap, lockM_ap, dictM_ap, lstM_ap, lcD_ap, itKeys_ap, vD_ap, look_succ, look_zero, bnd_ok, bnd_ap, ko, ofO_some, ret_ap, lc, di, lk1, sb_ok, List.set_cons_succ, List.set_cons_zero, sq_nx, forS_ap, nl, nxS_ap]
  rfl
theorem turn_loop (x7 x11 x12 x13 x14 : D) : ∀ (n t : Nat) (x6 x10 : D),
    ∃ y6 y10, forL (bName 10) b3_law ((List.range' (t + 1) n).map inat) [s0, row, .lst (cs.map sm), dr cs, .str rule, dkS true (stD rule cs) l, x6, x7, dkS true (itD' rule cs t) l, dkS false (pvD rule cs) (rd (stp rule cs) l t), x10, x11, x12, x13, x14] = .nx [s0, row, .lst (cs.map sm), dr cs, .str rule, dkS true (stD rule cs) l, y6, x7, dkS true (itD' rule cs (t + n)) l, dkS false (pvD rule cs) (rd (stp rule cs) l (t + n)), y10, x11, x12, x13, x14]
  | 0, t, x6, x10 => ⟨x6, x10, rfl⟩
  | n + 1, t, x6, x10 => by
    obtain ⟨y6, e⟩ := turn_body s0 row cs rule T t (dkS true (stD rule cs) l) x6 x7 x11 x12 x13 x14
    obtain ⟨z6, z10, ih⟩ := turn_loop x7 x11 x12 x13 x14 n (t + 1) y6 (.int ((t + 1 : Nat) : Int))
    refine ⟨z6, z10, ?_⟩
    rw [List.range'_succ, List.map_cons, forL_cons rfl]
    simp only [List.set_cons_succ, List.set_cons_zero]
    rw [show inat (t + 1) = .int ((t + 1 : Nat) : Int) from rfl, e, lp_nx, ih, show t + 1 + n = t + (n + 1) by omega]
/-! one ring -/
omit T in
theorem strs_last (L : List Str) (x : Str) : atI ((L ++ [x]).map D.str) (-1) = some (.str x) := by
  unfold atI ixN
  have h2 : (-1 + ((L.length : Int) + 1)).toNat = L.length := by omega
  have h3 : (1 : Int) ≤ (L.length : Int) + 1 := by omega
  simp [h2, h3]
theorem ring_loop {u : Nat} {h : Str} (p : Per (stp rule cs) u h) (hu : u ≤ 9) (x7 x8 x9 x11 x13 x14 : D) : ∀ (n k : Nat) (x10 : D), k + n + 1 = u → ∀ a,
    ∃ y10, forL (bName 10) b4_law ((List.range' a n).map inat) [s0, row, .lst (cs.map sm), dr cs, .str rule, dkS true (stD rule cs) l, .str h, x7, x8, x9, x10, x11, .lst ((row_ (stp rule cs) (k + 1) h).map D.str), x13, x14] = .nx [s0, row, .lst (cs.map sm), dr cs, .str rule, dkS true (stD rule cs) l, .str h, x7, x8, x9, y10, x11, .lst ((row_ (stp rule cs) u h).map D.str), x13, x14]
  | 0, k, x10, hk, a => ⟨x10, by rw [← hk]; rfl⟩
  | n + 1, k, x10, hk, a => by
    obtain ⟨y, hy⟩ := p.all k
    obtain ⟨z, hz⟩ := p.all (k + 1)
    have sy : stp rule cs y = some z := by
      have hz : (itN (stp rule cs) k h).bind (stp rule cs) = some z := hz
      rw [hy] at hz; exact hz
    have la : ixD (.lst ((row_ (stp rule cs) (k + 1) h).map D.str)) (.int (-1)) = some (.str y) := by
      rw [row_succ, hy]
      exact strs_last _ y
    have g : getK (dkS true (stD rule cs) l) (.str y) = some (.str z) := by
      show valA (l.map kS) (l.map (stD rule cs)) (kS y) = _
      rw [valA_strs _ ((T.on y).mpr ⟨z, sy⟩)]
      unfold stD; rw [sy]; rfl
    have ng : negD (.int 1) = some (.int (-1)) := rfl
    have ap := fun x10 => app1_of (j := 12) (rs := (row_ (stp rule cs) (k + 1) h).map D.str) (d := .str z) (ρ := [s0, row, .lst (cs.map sm), dr cs, .str rule, dkS true (stD rule cs) l, .str h, x7, x8, x9, x10, x11, .lst ((row_ (stp rule cs) (k + 1) h).map D.str), x13, x14]) rfl (by simp [row_]; omega)
    have es : (row_ (stp rule cs) (k + 1) h).map D.str ++ [.str z] = (row_ (stp rule cs) (k + 1 + 1) h).map D.str := by
      rw [row_succ (k + 1), hz]; simp
    simp only [List.set_cons_succ, List.set_cons_zero, es] at ap
    obtain ⟨y10, ih⟩ := ring_loop p hu x7 x8 x9 x11 x13 x14 n (k + 1) (inat a) (by omega) (a + 1)
    refine ⟨y10, ?_⟩
    rw [List.range'_succ, List.map_cons, forL_cons rfl]
    simp only [List.set_cons_succ, List.set_cons_zero]
    have b : b4_law [s0, row, .lst (cs.map sm), dr cs, .str rule, dkS true (stD rule cs) l, .str h, x7, x8, x9, inat a, x11, .lst ((row_ (stp rule cs) (k + 1) h).map D.str), x13, x14] = .nx [s0, row, .lst (cs.map sm), dr cs, .str rule, dkS true (stD rule cs) l, .str h, x7, x8, x9, inat a, x11, .lst ((row_ (stp rule cs) (k + 1 + 1) h).map D.str), x13, x14] := by
      unfold b4_law
      simp -implicitDefEqProofs only [seqS_ap, appS_ap, op2_ap, op1_ap, vD_ap, kD_ap, look_succ, look_zero, bnd_ok, bnd_ap, ixOwn_ap, ng, la, ofO_some, ret_ap, g, sb_ok, ap, sq_nx, nxS_ap]
    rw [b, lp_nx, ih]
theorem due_loop {U : Nat} (hU : ∀ x u, Per (stp rule cs) u x → u ≤ U) (hU9 : U ≤ 9) (x7 x8 x13 x14 : D) (R : List Str) : ∀ (L : List Str) (acc : List (List Str)) (x6 x10 x12 : D), (∀ x ∈ L, x ∈ R ∧ ∃ u, Per (stp rule cs) u x) → acc.length + L.length < 900 →
    ∃ y6 y10 y12, forL (bName 6) b5_law (L.map D.str) [s0, row, .lst (cs.map sm), dr cs, .str rule, dkS true (stD rule cs) l, x6, x7, x8, dkS true (pvD rule cs) R, x10, encRg acc, x12, x13, x14] = .nx [s0, row, .lst (cs.map sm), dr cs, .str rule, dkS true (stD rule cs) l, y6, x7, x8, dkS true (pvD rule cs) R, y10, encRg (acc ++ dueR rule cs L), y12, x13, x14]
  | [], acc, x6, x10, x12, _, _ => ⟨x6, x10, x12, by simp [dueR]⟩
  | h :: L, acc, x6, x10, x12, hL, hl => by
    obtain ⟨hR, u, p⟩ := hL h (by simp)
    have pp := pv_eq p
    have up := p.pos
    have ul := hU h u p
    have g : getK (dkS true (pvD rule cs) R) (.str h) = some (.int (u : Int)) := by
      show valA (R.map kS) (R.map (pvD rule cs)) (kS h) = _
      rw [valA_strs _ hR]
      unfold pvD; rw [pp]
    have rg := rng1_nat (u - 1) (by omega)
    have ci : ((u : Int) - 1) = ((u - 1 : Nat) : Int) := by omega
    have r1 : ([D.str h] : List D) = (row_ (stp rule cs) (0 + 1) h).map D.str := rfl
    obtain ⟨y10, rl⟩ := ring_loop s0 row cs rule T p (by omega) x7 x8 (dkS true (pvD rule cs) R) (encRg acc) x13 x14 (u - 1) 0 x10 (by omega) 0
    rw [← List.range_eq_range', ← r1] at rl
    have rne : row_ (stp rule cs) u h ≠ [] := fun z => by have := row_self p; rw [z] at this; cases this
    have mn := min_strs rne
    have eM := eqD_ss (mnS (row_ (stp rule cs) u h)) h
    have ap := fun x => app1_of (j := 11) (rs := acc.map fun r => D.tup (r.map D.str)) (d := .tup ((row_ (stp rule cs) u h).map D.str)) (ρ := [s0, row, .lst (cs.map sm), dr cs, .str rule, dkS true (stD rule cs) l, .str h, x7, x8, dkS true (pvD rule cs) R, x, encRg acc, .lst ((row_ (stp rule cs) u h).map D.str), x13, x14]) rfl (by simp at hl ⊢; omega)
    have es : (acc.map fun r => D.tup (r.map D.str)) ++ [.tup ((row_ (stp rule cs) u h).map D.str)] = (acc ++ [row_ (stp rule cs) u h]).map fun r => D.tup (r.map D.str) := by simp
    simp only [List.set_cons_succ, List.set_cons_zero, es] at ap
    have ap : ∀ x, app1 11 (.tup ((row_ (stp rule cs) u h).map D.str)) [s0, row, .lst (cs.map sm), dr cs, .str rule, dkS true (stD rule cs) l, .str h, x7, x8, dkS true (pvD rule cs) R, x, encRg acc, .lst ((row_ (stp rule cs) u h).map D.str), x13, x14] = .nx [s0, row, .lst (cs.map sm), dr cs, .str rule, dkS true (stD rule cs) l, .str h, x7, x8, dkS true (pvD rule cs) R, x, encRg (acc ++ [row_ (stp rule cs) u h]), .lst ((row_ (stp rule cs) u h).map D.str), x13, x14] := ap
    have b : b5_law [s0, row, .lst (cs.map sm), dr cs, .str rule, dkS true (stD rule cs) l, .str h, x7, x8, dkS true (pvD rule cs) R, x10, encRg acc, x12, x13, x14] = .nx [s0, row, .lst (cs.map sm), dr cs, .str rule, dkS true (stD rule cs) l, .str h, x7, x8, dkS true (pvD rule cs) R, y10, encRg (acc ++ dueR rule cs [h]), .lst ((row_ (stp rule cs) u h).map D.str), x13, x14] := by
      by_cases q : mnS (row_ (stp rule cs) u h) = h
      · rw [decide_eq_true q] at eM
        have dq : dueR rule cs [h] = [row_ (stp rule cs) u h] := by
          unfold dueR
          rw [List.filter_cons, pp, decide_eq_true q, if_pos rfl, List.filter_nil, List.map_cons, pp]; rfl
        rw [dq]
        unfold b5_law
        simp -implicitDefEqProofs only [seqS_ap, setLS_ap, lstD_ap, consD_ap, nilD_ap, vD_ap, kD_ap, look_succ, look_zero, bnd_ok, bnd_ap, ret_ap, szO_1, ofO_some, sb_ok, List.set_cons_succ, List.set_cons_zero, sq_nx, forS_ap, rngD_ap, op2_ap, g, intOp_ii, int1_int, if_true, ci, rg, rl, ifS_ap, asB_ap, minM_ap, mn, eM, bl1_bl, appS_ap, callD_ap, tupleD_l, ap, nxS_ap]
      · rw [decide_eq_false q] at eM
        have dq : dueR rule cs [h] = [] := by
          unfold dueR
          rw [List.filter_cons, pp, decide_eq_false q]; rfl
        rw [dq, List.append_nil]
        unfold b5_law
        simp -implicitDefEqProofs only [seqS_ap, setLS_ap, lstD_ap, consD_ap, nilD_ap, vD_ap, kD_ap, look_succ, look_zero, bnd_ok, bnd_ap, ret_ap, szO_1, ofO_some, sb_ok, List.set_cons_succ, List.set_cons_zero, sq_nx, forS_ap, rngD_ap, op2_ap, g, intOp_ii, int1_int, if_true, ci, rg, rl, ifS_ap, asB_ap, minM_ap, mn, eM, bl1_bl, Bool.false_eq_true, if_false, nxS_ap]
    obtain ⟨z6, z10, z12, ih⟩ := due_loop hU hU9 x7 x8 x13 x14 R L (acc ++ dueR rule cs [h]) (.str h) y10 (.lst ((row_ (stp rule cs) u h).map D.str)) (fun x hx => hL x (by simp [hx])) (by
      have : (dueR rule cs [h]).length ≤ 1 := by unfold dueR; rw [List.length_map]; exact List.length_filter_le _ _
      simp at hl ⊢; omega)
    refine ⟨z6, z10, z12, ?_⟩
    have e : dueR rule cs (h :: L) = dueR rule cs [h] ++ dueR rule cs L := by
      unfold dueR
      rw [← List.map_append, ← List.filter_append]; rfl
    rw [List.map_cons, forL_cons rfl]
    simp only [List.set_cons_succ, List.set_cons_zero]
    rw [b, lp_nx, ih, e, List.append_assoc]
theorem spot_loop (x7 x8 x9 x11 x12 x13 h : D) (x : Str) : ∀ (n k : Nat) (x10 : D), ∀ a,
    ∃ y10, forL (bName 10) b7_law ((List.range' a n).map inat) [s0, row, .lst (cs.map sm), dr cs, .str rule, dkS true (stD rule cs) l, h, x7, x8, x9, x10, x11, x12, x13, .str (sp (stp rule cs) k x)] = .nx [s0, row, .lst (cs.map sm), dr cs, .str rule, dkS true (stD rule cs) l, h, x7, x8, x9, y10, x11, x12, x13, .str (sp (stp rule cs) (k + n) x)]
  | 0, k, x10, a => ⟨x10, rfl⟩
  | n + 1, k, x10, a => by
    have g := get_st cs rule T (sp (stp rule cs) k x) (sp (stp rule cs) k x)
    have is : get2M.isDk (dkS true (stD rule cs) l) = some (dkS true (stD rule cs) l) := rfl
    have b : b7_law [s0, row, .lst (cs.map sm), dr cs, .str rule, dkS true (stD rule cs) l, h, x7, x8, x9, inat a, x11, x12, x13, .str (sp (stp rule cs) k x)] = .nx [s0, row, .lst (cs.map sm), dr cs, .str rule, dkS true (stD rule cs) l, h, x7, x8, x9, inat a, x11, x12, x13, .str (sp (stp rule cs) (k + 1) x)] := by
      unfold b7_law
      simp -implicitDefEqProofs only [seqS_ap, setS_ap, get2M_ap, vD_ap, look_succ, look_zero, bnd_ok, bnd_ap, is, g, ofO_some, ret_ap, sb_ok, List.set_cons_succ, List.set_cons_zero, sq_nx, nxS_ap]
      rfl
    obtain ⟨y10, ih⟩ := spot_loop x7 x8 x9 x11 x12 x13 h x n (k + 1) (inat a) (a + 1)
    refine ⟨y10, ?_⟩
    rw [List.range'_succ, List.map_cons, forL_cons rfl]
    simp only [List.set_cons_succ, List.set_cons_zero]
    rw [b, lp_nx, ih, show k + 1 + n = k + (n + 1) by omega]
theorem walk_loop2 (hr : rule = "all" ∨ rule = "leaf" ∨ rule = "half") (hn : cs.length < 900) {K : List Str} (hK : ∀ x t, Per (stp rule cs) t x → x ∈ K) (x7 x8 x9 x11 x12 : D) : ∀ (L : List Str) (x6 x10 x14 : D), (∀ x ∈ L, W x ∧ (wl rule cs x).so.length ≤ 9) →
    ∃ y6 y10 y14, forL (bName 6) b8_law (L.map D.str) [s0, row, .lst (cs.map sm), dr cs, .str rule, dkS true (stD rule cs) l, x6, x7, x8, x9, x10, x11, x12, .lst ((rgs rule cs K).flatten.map D.str), x14] = .nx [s0, row, .lst (cs.map sm), dr cs, .str rule, dkS true (stD rule cs) l, y6, x7, x8, x9, y10, x11, x12, .lst ((rgs rule cs K).flatten.map D.str), y14]
  | [], x6, x10, x14, _ => ⟨x6, x10, x14, rfl⟩
  | h :: L, x6, x10, x14, hL => by
    obtain ⟨hw, hs⟩ := hL h (by simp)
    have w1 := walk2_spec cs rule h hr hw (by omega)
    have i0 : ixD (.tup [.str (wl rule cs h).w, .tup (encL (wl rule cs h).st)]) (.int 0) = some (.str (wl rule cs h).w) := rfl
    have e1 := eqD_ss (wl rule cs h).w "ring"
    have e2 := in_strL false (sp (stp rule cs) 9 h) (rgs rule cs K).flatten
    rw [Bool.false_xor, ← ring_spot hK hs] at e2
    have e3 : ∀ b, neD (.bl b) (.bl b) = some (.bl false) := fun b => neD_self rfl
    have rg := rng1_nat 9 (by omega)
    have rg : rng1 [.int 9] = some ((List.range 9).map inat) := rg
    obtain ⟨y10, sl⟩ := spot_loop s0 row cs rule T x7 x8 x9 x11 x12 (.lst ((rgs rule cs K).flatten.map D.str)) (.str h) h 9 0 x10 0
    rw [← List.range_eq_range'] at sl
    have sl : forL (bName 10) b7_law ((List.range 9).map inat) [s0, row, .lst (cs.map sm), dr cs, .str rule, dkS true (stD rule cs) l, .str h, x7, x8, x9, x10, x11, x12, .lst ((rgs rule cs K).flatten.map D.str), .str h] = _ := sl
    have b : b8_law [s0, row, .lst (cs.map sm), dr cs, .str rule, dkS true (stD rule cs) l, .str h, x7, x8, x9, x10, x11, x12, .lst ((rgs rule cs K).flatten.map D.str), x14] = .nx [s0, row, .lst (cs.map sm), dr cs, .str rule, dkS true (stD rule cs) l, .str h, x7, x8, x9, y10, x11, x12, .lst ((rgs rule cs K).flatten.map D.str), .str (sp (stp rule cs) (0 + 9) h)] := by
      unfold b8_law
      simp -implicitDefEqProofs only [seqS_ap, setS_ap, vD_ap, kD_ap, look_succ, look_zero, bnd_ok, bnd_ap, ret_ap, sb_ok, List.set_cons_succ, List.set_cons_zero, sq_nx, forS_ap, rngD_ap, consD_ap, nilD_ap, rg, ofO_some, sl, ifS_ap, asB_ap, op2_ap, callD_ap, w1, i0, e1, Nat.zero_add, e2, e3, bl1_bl, Bool.false_eq_true, if_false, nxS_ap]
    obtain ⟨z6, z10, z14, ih⟩ := walk_loop2 hr hn hK x7 x8 x9 x11 x12 L (.str h) y10 (.str (sp (stp rule cs) (0 + 9) h)) (fun x hx => hL x (by simp [hx]))
    refine ⟨z6, z10, z14, ?_⟩
    rw [List.map_cons, forL_cons rfl]
    simp only [List.set_cons_succ, List.set_cons_zero]
    rw [b, lp_nx, ih]
omit T in
theorem mem_loop (x5 x6 x7 x8 x9 x10 x11 x14 : D) : ∀ (L : List (List Str)) (acc : List Str) (x12 : D), acc.length + L.flatten.length < 9000 →
    ∃ y12, forL (bName 12) b6_law (L.map fun r => .tup (r.map D.str)) [s0, row, .lst (cs.map sm), dr cs, .str rule, x5, x6, x7, x8, x9, x10, x11, x12, .lst (acc.map D.str), x14] = .nx [s0, row, .lst (cs.map sm), dr cs, .str rule, x5, x6, x7, x8, x9, x10, x11, y12, .lst ((acc ++ L.flatten).map D.str), x14]
  | [], acc, x12, _ => ⟨x12, by simp⟩
  | r :: L, acc, x12, hl => by
    simp only [List.flatten_cons, List.length_append] at hl
    have z : szO (acc.map D.str ++ r.map D.str) = some ((acc ++ r).map D.str) := by rw [szO_of (by simp; omega)]; simp
    obtain ⟨y12, ih⟩ := mem_loop x5 x6 x7 x8 x9 x10 x11 x14 L (acc ++ r) (.tup (r.map D.str)) (by rw [List.length_append]; omega)
    have b : b6_law [s0, row, .lst (cs.map sm), dr cs, .str rule, x5, x6, x7, x8, x9, x10, x11, .tup (r.map D.str), .lst (acc.map D.str), x14] = .nx [s0, row, .lst (cs.map sm), dr cs, .str rule, x5, x6, x7, x8, x9, x10, x11, .tup (r.map D.str), .lst ((acc ++ r).map D.str), x14] := by
      unfold b6_law
      simp -implicitDefEqProofs only [seqS_ap, setS_ap, op2_ap, lstM_ap, listM_ap, vD_ap, look_succ, look_zero, bnd_ok, bnd_ap, items_t, ofO_some, ret_ap, addD_ll, z, Option.map_some, sb_ok, List.set_cons_succ, List.set_cons_zero, sq_nx, nxS_ap]
    refine ⟨y12, ?_⟩
    rw [List.map_cons, forL_cons rfl]
    simp only [List.set_cons_succ, List.set_cons_zero]
    rw [b, lp_nx, ih, List.flatten_cons, List.append_assoc]
end
theorem encRg_ok (l : List (List Str)) : okD (encRg l) = true := okD_flt (k := 2) (by omega) (flt_mapL fun r _ => flt_mapT fun _ _ => flt_str)
theorem kn_headings {cs : List C} {x : Str} (h : x ∈ cs.map C.h) : x ∈ kn cs := by
  obtain ⟨c, hc, rfl⟩ := List.mem_map.mp h
  exact List.mem_flatMap.mpr ⟨c, hc, by unfold kn1; simp⟩
theorem rule_body (s0 row : D) (cs : List C) (hc : ∀ c ∈ cs, Drawn c) (hn : cs.length ≤ 12) (rule : Str) (hr : rule = "all" ∨ rule = "leaf" ∨ rule = "half") (x5 x6 x7 x8 x9 x10 x11 x12 x13 x14 : D) :
    ∃ y5 y6 y7 y8 y9 y10 y11 y12 y13 y14, b9_law [s0, row, .lst (cs.map sm), dr cs, .str rule, x5, x6, x7, x8, x9, x10, x11, x12, x13, x14] = .nx [s0, row, .lst (cs.map sm), dr cs, .str rule, y5, y6, y7, y8, y9, y10, y11, y12, y13, y14] := by
  have k := known_spec cs (fun c hm => (hc c hm).ll) (by omega)
  have kh := known_drawn cs hc (by omega)
  have kl := kn_len cs fun c hm => (hc c hm).ll
  have sl := srtSet_len (kn cs)
  have hU : ∀ x y, stp rule cs x = some y → x ∈ six ∧ y ∈ seven := fun x y e => by
    obtain ⟨a, b, c⟩ := stp_ends e
    obtain ⟨c1, h1, rfl⟩ := List.mem_map.mp a
    obtain ⟨c2, h2, rfl⟩ := List.mem_map.mp b
    exact ⟨(hc c1 h1).h, ((hc c2 h2).see).resolve_left c⟩
  have hK : ∀ x t, Per (stp rule cs) t x → x ∈ kn cs := fun x t p => by
    obtain ⟨y, hy⟩ := p.all 1
    exact kn_headings (stp_ends hy).1
  have hK2 : ∀ x t, Per (stp rule cs) t x → x ∈ srtSet (kn cs) := fun x t p => srtSet_mem.mpr (hK x t p)
  obtain ⟨l, hl⟩ : ∃ l, l = on_ rule cs (srtSet (kn cs)) := ⟨_, rfl⟩
  have T : St rule cs l := by
    subst hl
    refine ⟨(srtSet_nd _).filter _, ?_, fun x => ?_, ?_, fun x hx e => ?_⟩
    · have := List.length_filter_le (fun h => (stp rule cs h).isSome) (srtSet (kn cs))
      unfold on_; omega
    · unfold on_
      rw [List.mem_filter, Option.isSome_iff_exists]
      exact ⟨fun z => z.2, fun ⟨y, e⟩ => ⟨srtSet_mem.mpr (kn_headings (stp_ends e).1), y, e⟩⟩
    · cases e : stp rule cs "" with
      | none => rfl
      | some y =>
        exact absurd (hU _ _ e).1 (by decide)
    · subst e
      have := (List.mem_filter.mp hx).2
      obtain ⟨y, e⟩ := Option.isSome_iff_exists.mp this
      exact absurd (hU _ _ e).1 (by decide)
  have hP : ∀ x u, Per (stp rule cs) u x → u ≤ 6 := fun x u p => per_le (U := six) (fun a b e => (hU a b e).1) p
  obtain ⟨a6, a7, l1⟩ := steps_loop s0 row cs rule hr (by omega) x8 x9 x10 x11 x12 x13 x14 (srtSet (kn cs)) [] x6 x7 (by simpa using srtSet_nd (kn cs)) (by simp; omega)
  rw [List.nil_append, ← hl] at l1
  have l1 : forL (bName 6) b1_law ((srtSet (kn cs)).map D.str) [s0, row, .lst (cs.map sm), dr cs, .str rule, .dk false [] [], x6, x7, x8, x9, x10, x11, x12, x13, x14] = _ := l1
  have lk1 : lkD (dkS false (stD rule cs) l) = some (dkS true (stD rule cs) l) := rfl
  have kd := keyD_strs l
  have ko : keysOf (dkS true (stD rule cs) l) = some (l.map D.str) := by
    show some ((l.map kS).map keyD) = _
    rw [kd]
  have lc := lcM (i := 6) (g := tupD (consD (vD 6) (consD (vD 6) nilD))) (ρ := [s0, row, .lst (cs.map sm), dr cs, .str rule, dkS true (stD rule cs) l, a6, a7, x8, x9, x10, x11, x12, x13, x14]) D.str (fun h => .tup [.str h, itD' rule cs 0 h]) (L := l) (by simp) fun h hl => by
    simp -implicitDefEqProofs only [tupD_ap, consD_ap, nilD_ap, vD_ap, List.set_cons_succ, List.set_cons_zero, look_succ, look_zero, bnd_ok, bnd_ap, ret_ap, szO_2, ofO_some]
    rfl
  have di := dict_strs (itD' rule cs 0) T.nd (by have := T.len; omega)
  have lk2 : lkD (.dk false (l.map kS) (l.map (itD' rule cs 0))) = some (dkS true (itD' rule cs 0) l) := rfl
  obtain ⟨b6, b10, l2⟩ := turn_loop s0 row cs rule T a7 x11 x12 x13 x14 7 0 a6 x10
  have rg2 : rng2 [.int 1, .int 8] = some ((List.range' (0 + 1) 7).map inat) := rfl
  have l2 : forL (bName 10) b3_law ((List.range' (0 + 1) 7).map inat) [s0, row, .lst (cs.map sm), dr cs, .str rule, dkS true (stD rule cs) l, a6, a7, dkS true (itD' rule cs 0) l, .dk false [] [], x10, x11, x12, x13, x14] = _ := l2
  obtain ⟨R, hR⟩ : ∃ R, R = rd (stp rule cs) l (0 + 7) := ⟨_, rfl⟩
  rw [← hR] at l2
  have Rm : ∀ x, x ∈ R ↔ ∃ t, Per (stp rule cs) t x := fun x => by
    rw [hR, rd_mem]
    constructor
    · rintro ⟨_, u, p, _⟩; exact ⟨u, p⟩
    · rintro ⟨u, p⟩
      obtain ⟨y, hy⟩ := p.all 1
      exact ⟨(T.on x).mpr ⟨y, hy⟩, u, p, by have := hP x u p; omega⟩
  have Rn : R.Nodup := by rw [hR]; exact rd_nd l _
  have Rl : R.length ≤ 6 := nd_len R six Rn fun x hx => by
    obtain ⟨t, p⟩ := (Rm x).mp hx
    obtain ⟨y, hy⟩ := p.all 1
    exact (hU x y hy).1
  have lk3 : lkD (dkS false (pvD rule cs) R) = some (dkS true (pvD rule cs) R) := rfl
  have s1 : sortK (dkS true (pvD rule cs) R) = some ((sortS R).map D.str) := by
    unfold sortK dkS
    simp only [strKs_map]
    rw [if_pos (by omega)]
  obtain ⟨f6, f10, f12, l3⟩ := due_loop s0 row cs rule T (U := 6) hP (by omega) a7 (dkS true (itD' rule cs (0 + 7)) l) x13 x14 R (sortS R) [] b6 b10 x12 (fun x hx => ⟨sortS_mem.mp hx, (Rm x).mp (sortS_mem.mp hx)⟩) (by
    have : (sortS R).length = R.length := List.length_mergeSort _
    simp; omega)
  rw [List.nil_append, due_eq Rm Rn hK] at l3
  have l3 : forL (bName 6) b5_law ((sortS R).map D.str) [s0, row, .lst (cs.map sm), dr cs, .str rule, dkS true (stD rule cs) l, b6, a7, dkS true (itD' rule cs (0 + 7)) l, dkS true (pvD rule cs) R, b10, .lst [], x12, x13, x14] = _ := l3
  have sr := see_rings_spec cs rule hr (by omega) kh (by omega)
  have ne := neD_self (encRg_ok (rgs rule cs (srtSet (kn cs))))
  have so : ∀ x, (wl rule cs x).so.length ≤ 8 := fun x => so_len (U := seven) (fun a b e => (hU a b e).2) x
  have fl : (rgs rule cs (srtSet (kn cs))).flatten.length < 8000 := by
    have key : ∀ L : List Str, (L.map fun h => (wl rule cs h).so).flatten.length ≤ 8 * L.length := fun L => by
      induction L with
      | nil => simp
      | cons h L ih =>
        have := so h
        rw [List.map_cons, List.flatten_cons, List.length_append, List.length_cons]; omega
    have a := key ((srtSet (kn cs)).filter fun h => rnd rule cs h && decide (h = mnS (wl rule cs h).so))
    have b := List.length_filter_le (fun h => rnd rule cs h && decide (h = mnS (wl rule cs h).so)) (srtSet (kn cs))
    unfold rgs; omega
  obtain ⟨g12, l4⟩ := mem_loop s0 row cs rule (dkS true (stD rule cs) l) f6 a7 (dkS true (itD' rule cs (0 + 7)) l) (dkS true (pvD rule cs) R) f10 (encRg (rgs rule cs (srtSet (kn cs)))) x14 (rgs rule cs (srtSet (kn cs))) [] f12 (by simp at fl ⊢; omega)
  rw [List.nil_append] at l4
  have l4 : forL (bName 12) b6_law ((rgs rule cs (srtSet (kn cs))).map fun r => .tup (r.map D.str)) [s0, row, .lst (cs.map sm), dr cs, .str rule, dkS true (stD rule cs) l, f6, a7, dkS true (itD' rule cs (0 + 7)) l, dkS true (pvD rule cs) R, f10, encRg (rgs rule cs (srtSet (kn cs))), f12, .lst [], x14] = _ := l4
  have sq : seqOf (encRg (rgs rule cs (srtSet (kn cs)))) = some ((rgs rule cs (srtSet (kn cs))).map fun r => .tup (r.map D.str)) := rfl
  obtain ⟨h6, h10, h14, l5⟩ := walk_loop2 s0 row cs rule T hr (by omega) hK2 a7 (dkS true (itD' rule cs (0 + 7)) l) (dkS true (pvD rule cs) R) (encRg (rgs rule cs (srtSet (kn cs)))) g12 (srtSet (kn cs)) f6 f10 x14 fun x hx => ⟨W_seven x (kn_seven hc hx), by have := so x; omega⟩
  refine ⟨dkS true (stD rule cs) l, h6, a7, dkS true (itD' rule cs (0 + 7)) l, dkS true (pvD rule cs) R, h10, encRg (rgs rule cs (srtSet (kn cs))), g12, .lst ((rgs rule cs (srtSet (kn cs))).flatten.map D.str), h14, ?_⟩
  unfold b9_law
  simp -implicitDefEqProofs only [seqS_ap, setS_ap, kD_ap, sb_ok, List.set_cons_succ, List.set_cons_zero, sq_nx, forS_ap, itD_ap, callD_ap, consD_ap, nilD_ap, vD_ap, look_succ, look_zero, bnd_ok, bnd_ap, ret_ap, k, ofO_some, seqOf_l, l1, lockS_ap, lk1, parS_ap, lockM_ap, dictM_ap, lstM_ap, lcD_ap, itKeys_ap, ko, lc, di, lk2, setAll, rngD_ap, rg2, l2, setLS_ap, lstD_ap, szO_nil, lk3, sortKM_ap, s1, l3, ifS_ap, asB_ap, op2_ap, sr, ne, bl1_bl, Bool.false_eq_true, if_false, nxS_ap, sq, l4, l5]
theorem law_true (ns : List Int) (h : ns.length ≤ 63) : F_law [.lst (ns.map D.int)] = some (.bl true) := by
  obtain ⟨cs, i1, s1, r1, e1, hl, hc, hi1⟩ := seeing_spec ns 0 0 0 (by omega)
  have c1 := callR1_of (ff := F__law_seeing) (j := 1) (ds := []) (ρ := [.lst (ns.map D.int), .lst (rowD ns 0 0 0), .non, .non, .non, .non, .non, .non, .non, .non, .non, .non, .non, .non, .non]) rfl e1
  have d1 := drawer_spec cs (fun c hm => (hc c hm).ok) (by omega)
  have z1 : szO (rowD ns 0 0 0) = some (rowD ns 0 0 0) := rfl
  have rw0 : [D.lst (ns.map D.int), D.int 0, D.int 0, D.int 0] = rowD ns 0 0 0 := rfl
  obtain ⟨a5, a6, a7, a8, a9, a10, a11, a12, a13, a14, ea⟩ := rule_body (.lst (ns.map D.int)) (.lst (rowD ns i1 s1 r1)) cs hc hl "all" (.inl rfl) .non .non .non .non .non .non .non .non .non .non
  obtain ⟨b5, b6, b7, b8, b9, b10, b11, b12, b13, b14, eb⟩ := rule_body (.lst (ns.map D.int)) (.lst (rowD ns i1 s1 r1)) cs hc hl "half" (.inr (.inr rfl)) a5 a6 a7 a8 a9 a10 a11 a12 a13 a14
  obtain ⟨f5, f6, f7, f8, f9, f10, f11, f12, f13, f14, ef⟩ := rule_body (.lst (ns.map D.int)) (.lst (rowD ns i1 s1 r1)) cs hc hl "leaf" (.inr (.inl rfl)) b5 b6 b7 b8 b9 b10 b11 b12 b13 b14
  have lp : forL (bName 4) b9_law [.str "all", .str "half", .str "leaf"] [.lst (ns.map D.int), .lst (rowD ns i1 s1 r1), .lst (cs.map sm), dr cs, .non, .non, .non, .non, .non, .non, .non, .non, .non, .non, .non] = .nx [.lst (ns.map D.int), .lst (rowD ns i1 s1 r1), .lst (cs.map sm), dr cs, .str "leaf", f5, f6, f7, f8, f9, f10, f11, f12, f13, f14] := by
    rw [forL_cons rfl]
    simp only [List.set_cons_succ, List.set_cons_zero]
    rw [ea, lp_nx, forL_cons rfl]
    simp only [List.set_cons_succ, List.set_cons_zero]
    rw [eb, lp_nx, forL_cons rfl]
    simp only [List.set_cons_succ, List.set_cons_zero]
    rw [ef, lp_nx]
    rfl
  unfold F_law runV d_law
  simp -implicitDefEqProofs only [List.length_cons, List.length_nil, startD_ap, List.cons_append, List.nil_append, Nat.reduceAdd, Nat.reduceSub, List.replicate, if_true, seqS_ap, setLS_ap, lstD_ap, consD_ap, nilD_ap, vD_ap, kD_ap, look_zero, look_succ, bnd_ok, bnd_ap, ret_ap, ofO_some, rw0, z1, sb_ok, List.set_cons_succ, List.set_cons_zero, sq_nx, setS_ap, callR_ap, c1, callD_ap, d1, forS_ap, itD_ap, tupD_ap, szO_3, seqOf_t, lp, retS_ap, sq_rt, endV_rt]
end MP.k09
open PySem PySem.W PySem.Calls PyProof.Rows
theorem PySem.Challenge.cw_seerings_k09_whole_rings_by_powers_holds : PySem.Challenge.rw_seerings_k09_whole_rings_by_powers.Holds := by
  w_on; o_law
  refine HandSHeadRun.head_any (r := MP.k09.R) (q := view MP.k09.R.prog [47]) (H := MP.k09.hk) (ob := MP.k09.ob) (M := 20000) (loose := MP.k09.names) (d := HandSHeadRun.topDef MP.k09.R.prog 47) (kwd := []) MP.k09.ob_eq
    (by kernel_rfl) (fun s => by kernel_rfl) MP.k09.run (by kernel_rfl) (by kernel_rfl) (by kernel_rfl) (by rfl) (by first | assumption | decide +kernel) (by decide +kernel) ⟨rfl, rfl, rfl, rfl, rfl, by decide +kernel⟩ ?hw ?hc
  case hw => w_witness2
  case hc =>
    refine LamX.walk_ofTsE (l := PySem.Challenge.rw_seerings_k09_whole_rings_by_powers) (n := 63) (k := 9) (x := "_law_script") (CX := fun _ => L2.CX0) rfl (by decide) (by kernel_rfl) ⟨rfl, by decide, by decide⟩ ?F (fun _ _ _ _ _ z => z)
    intro w mg fa h Y G hmg0
    obtain ⟨K, KX, c⟩ := Y
    have hmg : mg ("law" : PySem.Str) = some (.ref fa) := by
      have e : (HandSHeadRun.topDef MP.k09.R.prog 47).name = ("law" : PySem.Str) := by kernel_rfl
      rw [← e]
      exact hmg0
    obtain ⟨fd, hb, hF⟩ := MP.k09.facts (P := (PySem.Challenge.rw_seerings_k09_whole_rings_by_powers).prog) (w := w) KX G hmg c
    refine ⟨K, KX, fd, MP.k09.tf.map (He.cT K), MP.spV K 1 MP.k09.F_law, ?_, ?_, ?_, hb, fun H a ns hl _ hT hS => MP.law_spT (MP.k09.tfB_of c) hT hS hl (MP.k09.law_true ns hl), hF⟩
    · intro p hp
      obtain ⟨q, hq, rfl⟩ := List.mem_map.mp hp
      exact c.x.empty q hq
    · intro p hp
      obtain ⟨q, hq, rfl⟩ := List.mem_map.mp hp
      exact c.x.out q hq
    · intro p hp
      obtain ⟨q, hq, rfl⟩ := List.mem_map.mp hp
      exact codeHd_of_K KX (c.x.hd q hq)
