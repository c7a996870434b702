import PyProof.Rows.All
import Wide.All
import OpenK.AllK
import Wide.FinOn
import KE.KStateDown
import KE.DataEq
import KE.KMinKey
import HandS.ForMost
import HandS.More
import HandS.WordsExc
import HandS.Defaults
import HandS.EndBits
import HandS.IsInst
import HandS.WideBits
import HandS.SortKw
import PyProof.Rows.StrMul
import HandS.Head0
import HandS.Head1
import HandS.Head2
import HandS.HeadEnd
import HandS.HeadHook1
import HandS.HeadHook2
import HandS.ForSpec
import HandS.ExcOwn
import HandS.Property
import HandS.Style
import HandS.TryOnly
import HandS.DictComp
import HandS.Conv
import HandS.TryMany
import HandS.ExcField
import HandS.Text
import HandS.Wide
import PyProof.Rows.TupDisplay
import KE.DatumOrd
import KE.DataCmp
import PyProof.DictMoreH
import KE.KEqNest
import HandS.MakeKwOnly
import HandS.SetFor
import HandS.Strs
import KE.KeyNested
import KE.LtData
import KE.SortData
import HandS.SortOrd
import KE.KExcIs
import HandS.Iter
import PyProof.DictUpdate
import PySem.Challenge.RW_surepresses_k21_equal_cases
set_option Elab.async false
set_option linter.all false
set_option maxRecDepth 100000
set_option maxHeartbeats 2000000
namespace Sx
open PySem PySem.Spec PyProof.Rows L2
structure Hd (B : Hp) (ch : List (Addr × HO)) (H : Hp) : Prop where
  old : Same B H
  at_ : ∀ p ∈ ch, H p.1 = some p.2 ∧ B p.1 = none
  nd : (ch.map (·.1)).Nodup
section
variable {K : PySem.W.Frag} {B B' H H' : Hp} {ch : List (Addr × HO)} {p a : Addr} {o o' : HO} {xs : List V}
theorem Hd.base (H : Hp) : Hd H [] H := ⟨Same.refl H, fun _ h => (nomatch h), List.nodup_nil⟩
theorem Hd.seq (S : Hd B ch H) (h : SqL K B a xs) : SqL K H a xs := S.old.seq h
theorem Hd.get (S : Hd B ((p, o) :: ch) H) : H p = some o := (S.at_ (p, o) List.mem_cons_self).1
theorem Hd.no (S : Hd B ((p, o) :: ch) H) : B p = none := (S.at_ (p, o) List.mem_cons_self).2
theorem Hd.free (S : Hd B ch H) (hp : H p = none) : B p = none := S.old.free hp
theorem Hd.out (S : Hd B ch H) (hp : H p = none) : p ∉ ch.map (·.1) := fun m => by
  obtain ⟨q, hq, e⟩ := List.mem_map.mp m
  have h := (S.at_ q hq).1
  rw [e, hp] at h
  cases h
theorem same_upd {B : Hp} {p : Addr} (h : B p = none) (o : HO) : Same B (upd B p o) := fun b u e => by
  rw [upd_ne (ne_of_none e h)]
  exact e
theorem same_upd2 {B H : Hp} {p : Addr} (s : Same B H) (h : B p = none) (o : HO) : Same B (upd H p o) := fun b u e => by
  rw [upd_ne (ne_of_none e h)]
  exact s b u e
theorem same_both {B H : Hp} {p : Addr} (s : Same B H) (o : HO) : Same (upd B p o) (upd H p o) := fun b u e => by
  by_cases hb : b = p
  · subst hb
    rw [upd_same] at e ⊢
    exact e
  · rw [upd_ne hb] at e ⊢
    exact s b u e
/-- the first of the changing objects is changed -/
theorem Hd.put (S : Hd B ((p, o) :: ch) H) (o' : HO) : Hd B ((p, o') :: ch) (upd H p o') := by
  have nd := List.nodup_cons.mp S.nd
  refine ⟨same_upd2 S.old S.no o', fun q hq => ?_, S.nd⟩
  rcases List.mem_cons.mp hq with e | hq
  · subst e
    exact ⟨upd_same, S.no⟩
  · have h := S.at_ q (List.mem_cons_of_mem _ hq)
    have ne : q.1 ≠ p := fun e => nd.1 (List.mem_map.mpr ⟨q, hq, e⟩)
    exact ⟨by rw [upd_ne ne]; exact h.1, h.2⟩
/-- a new object that stays as it is -/
theorem Hd.fix (S : Hd B ch H) (hp : H p = none) (o : HO) : Hd (upd B p o) ch (upd H p o) := by
  refine ⟨same_both S.old o, fun q hq => ?_, S.nd⟩
  have h := S.at_ q hq
  have ne : q.1 ≠ p := ne_of_none h.1 hp
  exact ⟨by rw [upd_ne ne]; exact h.1, by rw [upd_ne ne]; exact h.2⟩
/-- a new object that will change -/
theorem Hd.new (S : Hd B ch H) (hp : H p = none) (o : HO) : Hd B ((p, o) :: ch) (upd H p o) := by
  refine ⟨same_upd2 S.old (S.free hp) o, fun q hq => ?_, List.nodup_cons.mpr ⟨S.out hp, S.nd⟩⟩
  rcases List.mem_cons.mp hq with e | hq
  · subst e
    exact ⟨upd_same, S.free hp⟩
  · have h := S.at_ q hq
    have ne : q.1 ≠ p := ne_of_none h.1 hp
    exact ⟨by rw [upd_ne ne]; exact h.1, h.2⟩
/-- the first of the changing objects is fixed from here on -/
theorem Hd.done (S : Hd B ((p, o) :: ch) H) : Hd (upd B p o) ch H := by
  have nd := List.nodup_cons.mp S.nd
  refine ⟨fun b u e => ?_, fun q hq => ?_, nd.2⟩
  · by_cases hb : b = p
    · subst hb
      rw [upd_same] at e
      rw [← e]
      exact S.get
    · rw [upd_ne hb] at e
      exact S.old b u e
  · have h := S.at_ q (List.mem_cons_of_mem _ hq)
    have ne : q.1 ≠ p := fun e => nd.1 (List.mem_map.mpr ⟨q, hq, e⟩)
    exact ⟨h.1, by rw [upd_ne ne]; exact h.2⟩
theorem Hd.drop {q : Addr × HO} (S : Hd B (q :: ch) H) : Hd B ch H := ⟨S.old, fun p hp => S.at_ p (List.mem_cons_of_mem _ hp), (List.nodup_cons.mp S.nd).2⟩
theorem Hd.perm {ch' : List (Addr × HO)} (S : Hd B ch H) (h : ch'.Perm ch) : Hd B ch' H := ⟨S.old, fun p hp => S.at_ p (h.mem_iff.mp hp), (h.map (·.1)).nodup_iff.mpr S.nd⟩
theorem Hd.swap {q r : Addr × HO} (S : Hd B (q :: r :: ch) H) : Hd B (r :: q :: ch) H := S.perm (.swap q r ch)
theorem Hd.same (S : Hd B ch H) (s : Same H H') : Hd B ch H' := ⟨S.old.trans s, fun p hp => ⟨s _ _ (S.at_ p hp).1, (S.at_ p hp).2⟩, S.nd⟩
theorem Hd.ne (S : Hd B ((p, o) :: ch) H) {q : Addr} {u : HO} (h : B q = some u) : q ≠ p := ne_of_none h S.no
end
end Sx
namespace L2
open PySem PySem.Spec PyProof.Rows
abbrev NK := PySem.NestedKey
/-- a key, the place of its tuple, a value -/
abbrev XEn := NK × Addr × V
abbrev XR : List XEn → List (NK × Addr × Value) → Prop := Paired fun p q => p.1 = q.1 ∧ p.2.1 = q.2.1 ∧ RelV p.2.2 q.2.2
def DxP (w : World) (a : Addr) (es : List XEn) (h : Heap) : Prop := es.length ≤ sizeLine ∧ (a == sysModules) = false ∧ ∃ xs, XR es xs ∧ ∃ o ens ep, h.get? a = some o ∧ o.ExactDict ∧ o.data = .dict ens ep ∧
  ens.toList = xs.map (fun x => (⟨x.1.hash w, .ref x.2.1, x.2.2⟩ : DictEntry)) ∧ (xs.map (·.1)).Nodup
def DxO (w : World) (a : Addr) (es : List XEn) : HO := .ext (DxP w a es)
mutual
/-- the value is this key -/
inductive KAt (H : Hp) : NK → V → Prop
  | non : KAt H .none .non
  | num (i : Int) : KAt H (.num i) (.int i)
  | text (x : Str) : KAt H (.text x) (.str x)
  | tup {a : Addr} {ks : List NK} {vs : List V} : H a = some (.tup vs) → KAtA H ks vs → KAt H (.tup ks) (.ref a)
inductive KAtA (H : Hp) : List NK → List V → Prop
  | nil : KAtA H [] []
  | cons {k : NK} {v : V} {ks : List NK} {vs : List V} : KAt H k v → KAtA H ks vs → KAtA H (k :: ks) (v :: vs)
end
section
variable {H H' : Hp} {P : Program} {w : World} {h : Heap} {a : Addr} {es : List XEn}
mutual
theorem KAt.keep (s : ∀ b ys, H b = some (.tup ys) → H' b = some (.tup ys)) : ∀ {k : NK} {v : V}, KAt H k v → KAt H' k v
  | _, _, .non => .non
  | _, _, .num i => .num i
  | _, _, .text x => .text x
  | _, _, .tup e t => .tup (s _ _ e) (KAtA.keep s t)
theorem KAtA.keep (s : ∀ b ys, H b = some (.tup ys) → H' b = some (.tup ys)) : ∀ {ks : List NK} {vs : List V}, KAtA H ks vs → KAtA H' ks vs
  | _, _, .nil => .nil
  | _, _, .cons e t => .cons (KAt.keep s e) (KAtA.keep s t)
end
mutual
theorem KAt.is (ok : HOk P w H h) : ∀ {k : NK} {v : V} {u : Value}, KAt H k v → RelV v u → PySem.NestedIs h k u
  | _, _, u, .non, r => by cases (show u = Value.none from r); exact .none
  | _, _, u, .num i, r => by obtain ⟨t, rfl⟩ := (show ∃ t, u = Value.int i t from r); exact .int i t
  | _, _, u, .text x, r => by obtain ⟨t, rfl⟩ := (show ∃ t, u = Value.str x t from r); exact .text x t
  | _, _, u, .tup (a := a) e t, r => by
    cases (show u = Value.ref a from r)
    obtain ⟨_, its, rv, o, h1, h2, n, h3⟩ := (show ObjOk P w H h a (.tup _) from ok a _ e)
    exact .tup h1 h2 h3 (by simpa using KAtA.is ok t rv)
theorem KAtA.is (ok : HOk P w H h) : ∀ {ks : List NK} {vs : List V} {us : List Value}, KAtA H ks vs → Vals vs us → PySem.NestedAll h ks us
  | _, _, _, .nil, r => by cases r; exact .nil
  | _, _, _, .cons e t, r => by
    cases r with
    | cons r0 r1 => exact .cons (KAt.is ok e r0) (KAtA.is ok t r1)
end
/-- the keys stand -/
def KsOk (H : Hp) (es : List XEn) : Prop := ∀ e ∈ es, KAt H e.1 (.ref e.2.1) ∧ e.1.depth ≤ 8
theorem KsOk.keep (s : ∀ b ys, H b = some (.tup ys) → H' b = some (.tup ys)) (h : KsOk H es) : KsOk H' es := fun e he => ⟨(h e he).1.keep s, (h e he).2⟩
def valX (es : List XEn) (k : NK) : Option V := (es.find? fun e => decide (e.1 = k)).map (·.2.2)
def putX (es : List XEn) (k : NK) (b : Addr) (v : V) : List XEn := if (valX es k).isSome then es.map (fun e => if e.1 = k then (e.1, e.2.1, v) else e) else es ++ [(k, b, v)]
theorem XR.val {xs : List (NK × Addr × Value)} (r : XR es xs) (k : NK) : RelO (valX es k) ((atKey xs k).map (·.2)) := by
  induction r with
  | nil => exact True.intro
  | @cons p q ps qs h t ih =>
    obtain ⟨h1, _, h2⟩ := h
    by_cases e : p.1 = k
    · have e' : q.1 = k := h1.symm.trans e
      have b : atKey (q :: qs) k = some q.2 := by simp [atKey, List.find?_cons, e']
      have c : valX (p :: ps) k = some p.2.2 := by simp [valX, List.find?_cons, e]
      rw [c, b]; exact h2
    · have e' : ¬ q.1 = k := fun z => e (h1.trans z)
      have b : atKey (q :: qs) k = atKey qs k := by simp [atKey, List.find?_cons, e']
      have c : valX (p :: ps) k = valX ps k := by simp [valX, List.find?_cons, e]
      rw [c, b]; exact ih
theorem XR.repl {xs : List (NK × Addr × Value)} (r : XR es xs) (k : NK) {y : V} {u : Value} (ry : RelV y u) : XR (es.map fun e => if e.1 = k then (e.1, e.2.1, y) else e) (xs.map (putAt k u)) := by
  induction r with
  | nil => exact .nil
  | @cons p q ps qs h t ih =>
    rw [List.map_cons, List.map_cons]
    refine .cons ?_ ih
    obtain ⟨h1, h2, h3⟩ := h
    unfold putAt
    by_cases e : p.1 = k
    · rw [if_pos e, if_pos (h1.symm.trans e)]; exact ⟨h1, h2, ry⟩
    · rw [if_neg e, if_neg (fun z => e (h1.trans z))]; exact ⟨h1, h2, h3⟩
theorem XR.put {xs : List (NK × Addr × Value)} (r : XR es xs) (k : NK) {b : Addr} {y : V} {u : Value} (ry : RelV y u) : XR (putX es k b y) (storedH xs k b u) := by
  have e : (valX es k).isSome = (atKey xs k).isSome := by rw [(r.val k).isSome_eq, Option.isSome_map]
  unfold putX storedH
  rw [e]
  by_cases q : (atKey xs k).isSome = true
  · rw [if_pos q, if_pos q]; exact r.repl k ry
  · rw [if_neg q, if_neg q]; exact Paired.snoc r ⟨rfl, rfl, ry⟩
end
section
variable {X : Cx} {pins : List (Addr × Obj)} {σ : St} {H : Hp} {s : Shared} {a b : Addr} {y v : V} {u r : Value} {o : Option V} {A : Around} {E : Value → Shared → Prop} {es : List XEn} {k : NK}
/-- the dict at a, and a key that is asked of it -/
structure XAsk (w : World) (H : Hp) (a : Addr) (es : List XEn) (b : Addr) (k : NK) : Prop where
  d : Rd H a (DxO w a es)
  ks : KsOk H es
  kat : KAt H k (.ref b)
  dp : k.depth ≤ 8
theorem XAsk.key {P : Program} {w : World} {h : Heap} (g : XAsk w H a es b k) (ok : HOk P w H h) : (PySem.nestedKind P w).is h k b := ⟨g.kat.is ok rfl, g.dp⟩
end
end L2
namespace SrtT
open PySem PySem.Calls PyProof.Rows PySem.W PySem.SeqAt SrtO
abbrev tS (xs : List Str) : PyData := .tuple (xs.map .str)
end SrtT
namespace L2
open PySem PySem.Spec PyProof.Rows SrtT
end L2
namespace Sx
open PySem PySem.Spec PyProof.Rows L2
inductive Dt where
  | non | bl (b : Bool) | int (i : Int) | str (x : Str) | lst (xs : List Dt) | tup (xs : List Dt)
  | dic (kvs : List (Key × Dt)) | dit (kvs : List (List Key × Dt)) | ins (C : Addr) (fs : List (Str × Dt)) | scr (ns : List Int) | ty (n : String) | exn (a C dd : Addr) (d : Dt) | wk (v : V) | dx (w : World) (ks : List Dt) (vs : List Dt)
mutual
def nkD : Dt → Option NK
  | .non => some .none
  | .int i => some (.num i)
  | .str x => some (.text x)
  | .tup ds => (nkDs ds).map .tup
  | _ => none
def nkDs : List Dt → Option (List NK)
  | [] => some []
  | d :: ds => match nkD d, nkDs ds with
    | some k, some ks => some (k :: ks)
    | _, _ => none
end
mutual
inductive Rp (K : PySem.W.Frag) (B : Hp) : V → Dt → Prop
  | non : Rp K B .non .non
  | bl (b : Bool) : Rp K B (.bl b) (.bl b)
  | int (i : Int) : Rp K B (.int i) (.int i)
  | str (x : Str) : Rp K B (.str x) (.str x)
  | lst {a : Addr} {xs : List V} {ds : List Dt} : B a = some (.lst xs) → RpA K B xs ds → Rp K B (.ref a) (.lst ds)
  | tup {a : Addr} {xs : List V} {ds : List Dt} : B a = some (.tup xs) → RpA K B xs ds → Rp K B (.ref a) (.tup ds)
  | dic {a : Addr} {kvs : List (Key × V)} {ds : List (Key × Dt)} : Rd B a (.dK kvs) → kvs.map (·.1) = ds.map (·.1) → RpA K B (kvs.map (·.2)) (ds.map (·.2)) → Rp K B (.ref a) (.dic ds)
  | dit {a : Addr} {kvs : List (List Key × V)} {ds : List (List Key × Dt)} : Rd B a (.dT kvs) → kvs.map (·.1) = ds.map (·.1) → RpA K B (kvs.map (·.2)) (ds.map (·.2)) → Rp K B (.ref a) (.dit ds)
  | ins {a C dx : Addr} {fs : List (Str × V)} {ds : List (Str × Dt)} : B a = some (.ins C dx fs) → fs.map (·.1) = ds.map (·.1) → RpA K B (fs.map (·.2)) (ds.map (·.2)) → Rp K B (.ref a) (.ins C ds)
  | scr {a : Addr} {ns : List Int} : SqL K B a (ns.map V.int) → Rp K B (.ref a) (.scr ns)
  | ty (n : String) : Rp K B (.ty n) (.ty n)
  | exn {a C dd : Addr} {fs : List (Str × V)} {v : V} {d : Dt} : B dd = some (.xd fs) → fs.lookup (Str.ofString "value") = some v → Rp K B v d → Rp K B (.ref a) (.exn a C dd d)
  | wk (v : V) : Rp K B v (.wk v)
  | dx {a : Addr} {w : World} {es : List XEn} {ks vs : List Dt} : Rd B a (DxO w a es) → RpA K B (es.map fun e => .ref e.2.1) ks → nkDs ks = some (es.map (·.1)) → (∀ e ∈ es, e.1.depth ≤ 8) → RpA K B (es.map (·.2.2)) vs → Rp K B (.ref a) (.dx w ks vs)
inductive RpA (K : PySem.W.Frag) (B : Hp) : List V → List Dt → Prop
  | nil : RpA K B [] []
  | cons {v : V} {vs : List V} {d : Dt} {ds : List Dt} : Rp K B v d → RpA K B vs ds → RpA K B (v :: vs) (d :: ds)
end
def isDict : HO → Prop
  | .dK _ => True
  | .dT _ => True
  | .ext _ => True
  | _ => False
def Lv (B B' : Hp) : Prop := ∀ b o, B b = some o → B' b = some o ∨ ∃ u, isDict u ∧ (o = u ∨ ∃ ob, o = .frz ob u) ∧ (B' b = some u ∨ ∃ ob, B' b = some (.frz ob u))
theorem Lv.of {B B' : Hp} (s : Same B B') : Lv B B' := fun b o e => .inl (s b o e)
theorem Lv.refl (B : Hp) : Lv B B := fun _ _ e => .inl e
theorem isDict_frz {ob : Obj} {u : HO} : ¬ isDict (.frz ob u) := fun z => z
theorem Lv.trans {B B1 B2 : Hp} (s : Lv B B1) (t : Lv B1 B2) : Lv B B2 := fun b o e => by
  rcases s b o e with h | ⟨u, hu, ho, hb⟩
  · exact t b o h
  · rcases hb with hb | ⟨ob, hb⟩
    · rcases t b _ hb with g | ⟨w, hw, gw, gb⟩
      · exact .inr ⟨u, hu, ho, .inl g⟩
      · rcases gw with gw | ⟨oc, gw⟩
        · subst gw; exact .inr ⟨u, hu, ho, gb⟩
        · subst gw; exact absurd hu isDict_frz
    · rcases t b _ hb with g | ⟨w, hw, gw, gb⟩
      · exact .inr ⟨u, hu, ho, .inr ⟨ob, g⟩⟩
      · rcases gw with gw | ⟨oc, gw⟩
        · subst gw; exact absurd hw isDict_frz
        · injection gw with _ g2
          subst g2
          exact .inr ⟨u, hu, ho, gb⟩
theorem Lv.keep {B B' : Hp} {b : Addr} {o : HO} (s : Lv B B') (e : B b = some o) (h1 : ¬ isDict o) (h2 : ∀ ob u, o = .frz ob u → ¬ isDict u) : B' b = some o := by
  rcases s b o e with h | ⟨u, hu, ho, _⟩
  · exact h
  · rcases ho with ho | ⟨ob, ho⟩
    · subst ho; exact absurd hu h1
    · exact absurd hu (h2 ob u ho)
theorem Lv.lst {B B' : Hp} {b : Addr} {xs : List V} (s : Lv B B') (e : B b = some (.lst xs)) : B' b = some (.lst xs) := s.keep e (fun z => z) (fun _ _ h => by cases h)
theorem Lv.tup {B B' : Hp} {b : Addr} {xs : List V} (s : Lv B B') (e : B b = some (.tup xs)) : B' b = some (.tup xs) := s.keep e (fun z => z) (fun _ _ h => by cases h)
theorem Lv.ins {B B' : Hp} {b C dx : Addr} {fs : List (Str × V)} (s : Lv B B') (e : B b = some (.ins C dx fs)) : B' b = some (.ins C dx fs) := s.keep e (fun z => z) (fun _ _ h => by cases h)
theorem Lv.rd {B B' : Hp} {b : Addr} {u : HO} (s : Lv B B') (hu : isDict u) (e : Rd B b u) : Rd B' b u := by
  rcases e with e | ⟨ob, e⟩
  · rcases s b _ e with h | ⟨w, hw, ho, hb⟩
    · exact .inl h
    · rcases ho with ho | ⟨oc, ho⟩
      · subst ho; rcases hb with hb | ⟨od, hb⟩
        · exact .inl hb
        · exact .inr ⟨od, hb⟩
      · subst ho; exact absurd hu isDict_frz
  · rcases s b _ e with h | ⟨w, hw, ho, hb⟩
    · exact .inr ⟨ob, h⟩
    · rcases ho with ho | ⟨oc, ho⟩
      · subst ho; exact absurd hw isDict_frz
      · injection ho with _ h2
        subst h2
        rcases hb with hb | ⟨od, hb⟩
        · exact .inl hb
        · exact .inr ⟨od, hb⟩
theorem Lv.sql {K : PySem.W.Frag} {B B' : Hp} {a : Addr} {xs : List V} (s : Lv B B') (h : SqL K B a xs) : SqL K B' a xs := by
  rcases h with (h | ⟨o, h⟩) | h
  · exact .inl (.inl (s.lst h))
  · exact .inl (.inr ⟨o, s.keep h (fun z => z) (fun _ _ q => by injection q with _ q2; subst q2; exact fun z => z)⟩)
  · exact .inr h
/-- .. where all stays -/
def Le (B B' : Hp) : Prop := ∀ b o, B b = some o → B' b = some o
theorem Le.lv {B B' : Hp} (s : Le B B') : Lv B B' := fun b o e => .inl (s b o e)
theorem Le.of {B B' : Hp} (s : Same B B') : Le B B' := fun b o e => s b o e
theorem Le.refl (B : Hp) : Le B B := fun _ _ e => e
theorem Le.trans {B B1 B2 : Hp} (s : Le B B1) (t : Le B1 B2) : Le B B2 := fun b o e => t b o (s b o e)
theorem Le.lst {B B' : Hp} {b : Addr} {xs : List V} (s : Le B B') (e : B b = some (.lst xs)) : B' b = some (.lst xs) := s.lv.lst e
theorem Le.tup {B B' : Hp} {b : Addr} {xs : List V} (s : Le B B') (e : B b = some (.tup xs)) : B' b = some (.tup xs) := s.lv.tup e
theorem Le.frz {B B' : Hp} {b : Addr} {ob : Obj} {u : HO} (s : Le B B') (e : B b = some (.frz ob u)) : B' b = some (.frz ob u) := s b _ e
theorem Le.sql {K : PySem.W.Frag} {B B' : Hp} {a : Addr} {xs : List V} (s : Le B B') (h : SqL K B a xs) : SqL K B' a xs := s.lv.sql h
section
variable {K : PySem.W.Frag} {B B' : Hp}
mutual
theorem Rp.monoV (s : Lv B B') : ∀ {v : V} {d : Dt}, Rp K B v d → Rp K B' v d
  | _, _, .non => .non
  | _, _, .bl b => .bl b
  | _, _, .int i => .int i
  | _, _, .str x => .str x
  | _, _, .lst h a => .lst (s.lst h) (RpA.monoV s a)
  | _, _, .tup h a => .tup (s.tup h) (RpA.monoV s a)
  | _, _, .dic h e a => .dic (s.rd trivial h) e (RpA.monoV s a)
  | _, _, .dit h e a => .dit (s.rd trivial h) e (RpA.monoV s a)
  | _, _, .ins h e a => .ins (s.ins h) e (RpA.monoV s a)
  | _, _, .scr h => .scr (s.sql h)
  | _, _, .ty n => .ty n
  | _, _, .exn h e r => .exn (s.keep h (fun z => z) (fun _ _ z => by cases z)) e (Rp.monoV s r)
  | _, _, .wk v => .wk v
  | _, _, .dx h k e d a => .dx (s.rd trivial h) (RpA.monoV s k) e d (RpA.monoV s a)
theorem RpA.monoV (s : Lv B B') : ∀ {vs : List V} {ds : List Dt}, RpA K B vs ds → RpA K B' vs ds
  | _, _, .nil => .nil
  | _, _, .cons h a => .cons (Rp.monoV s h) (RpA.monoV s a)
end
theorem RpA.paired : ∀ {vs : List V} {ds : List Dt}, RpA K B vs ds → Paired (Rp K B) vs ds
  | _, _, .nil => .nil
  | _, _, .cons h a => .cons h (RpA.paired a)
theorem RpA.of : ∀ {vs : List V} {ds : List Dt}, Paired (Rp K B) vs ds → RpA K B vs ds
  | _, _, .nil => .nil
  | _, _, .cons h a => .cons h (RpA.of a)
theorem RpA.len {vs : List V} {ds : List Dt} (h : RpA K B vs ds) : vs.length = ds.length := h.paired.length
end
section
variable {α β : Type} {F : α → β → Prop}
theorem pget : ∀ {l : List α} {m : List β} {i : Nat} {a : α}, Paired F l m → l[i]? = some a → ∃ b, m[i]? = some b ∧ F a b
  | _, _, _, _, .nil, e => by simp at e
  | _, _, 0, _, .cons h _, e => by simp at e; subst e; exact ⟨_, rfl, h⟩
  | _, _, i + 1, _, .cons _ t, e => by
    obtain ⟨b, h1, h2⟩ := pget (i := i) t (by simpa using e)
    exact ⟨b, by simpa using h1, h2⟩
theorem pget' : ∀ {l : List α} {m : List β} {i : Nat} {b : β}, Paired F l m → m[i]? = some b → ∃ a, l[i]? = some a ∧ F a b
  | _, _, _, _, .nil, e => by simp at e
  | _, _, 0, _, .cons h _, e => by simp at e; subst e; exact ⟨_, rfl, h⟩
  | _, _, i + 1, _, .cons _ t, e => by
    obtain ⟨b, h1, h2⟩ := pget' (i := i) t (by simpa using e)
    exact ⟨b, by simpa using h1, h2⟩
theorem pset {a : α} {b : β} (h : F a b) : ∀ {l : List α} {m : List β} (i : Nat), Paired F l m → Paired F (l.set i a) (m.set i b)
  | _, _, _, .nil => .nil
  | _, _, 0, .cons _ t => .cons h t
  | _, _, i + 1, .cons g t => .cons g (pset h i t)
theorem papp : ∀ {l l' : List α} {m m' : List β}, Paired F l m → Paired F l' m' → Paired F (l ++ l') (m ++ m')
  | _, _, _, _, .nil, t => t
  | _, _, _, _, .cons h s, t => .cons h (papp s t)
theorem ptake : ∀ {l : List α} {m : List β} (n : Nat), Paired F l m → Paired F (l.take n) (m.take n)
  | _, _, 0, _ => .nil
  | _, _, _ + 1, .nil => .nil
  | _, _, n + 1, .cons h t => .cons h (ptake n t)
theorem pdrop : ∀ {l : List α} {m : List β} (n : Nat), Paired F l m → Paired F (l.drop n) (m.drop n)
  | _, _, 0, h => h
  | _, _, _ + 1, .nil => .nil
  | _, _, n + 1, .cons _ t => pdrop n t
theorem prev : ∀ {l : List α} {m : List β}, Paired F l m → Paired F l.reverse m.reverse
  | _, _, .nil => .nil
  | _, _, .cons h t => by rw [List.reverse_cons, List.reverse_cons]; exact papp (prev t) (.cons h .nil)
end
inductive Sl where
  | no | dt (d : Dt) | pt (a : Addr)
def SlR (K : PySem.W.Frag) (B : Hp) : Sl → V → Prop
  | .no, _ => False
  | .dt d, v => Rp K B v d
  | .pt a, v => v = .ref a
def OkS (K : PySem.W.Frag) (B : Hp) (s : Sl) (o : Option V) : Prop := s = .no ∨ ∃ v, o = some v ∧ SlR K B s v
abbrev EnR (K : PySem.W.Frag) (B : Hp) (ρ : List Sl) (σ : L2.St) : Prop := Paired (OkS K B) ρ σ
inductive Co where
  | lst (xs : List Sl) | dic (kvs : List (Key × Sl)) | dit (kvs : List (List Key × Sl)) | ins (C dx : Addr) (fs : List (Str × Sl)) | raw (o : HO)
def KvR (K : PySem.W.Frag) (B : Hp) {κ : Type} (p : κ × Sl) (q : κ × V) : Prop := p.1 = q.1 ∧ SlR K B p.2 q.2
def CoR (K : PySem.W.Frag) (B : Hp) : Co → HO → Prop
  | .lst ss, o => ∃ xs, o = .lst xs ∧ Paired (SlR K B) ss xs
  | .dic ss, o => ∃ kvs, o = .dK kvs ∧ Paired (KvR K B) ss kvs
  | .dit ss, o => ∃ kvs, o = .dT kvs ∧ Paired (KvR K B) ss kvs
  | .ins C dx ss, o => ∃ fs, o = .ins C dx fs ∧ Paired (KvR K B) ss fs
  | .raw u, o => o = u
abbrev Chs := List (Addr × Co)
def ChR (K : PySem.W.Frag) (B : Hp) (p : Addr × Co) (q : Addr × HO) : Prop := p.1 = q.1 ∧ CoR K B p.2 q.2
def Hc (K : PySem.W.Frag) (B : Hp) (L : Chs) (Fr : List (Addr × HO)) (H : Hp) : Prop := ∃ ho, Paired (ChR K B) L ho ∧ Hd B (ho ++ Fr) H
section
variable {K : PySem.W.Frag} {B B' H H' : Hp} {L : Chs} {Fr : List (Addr × HO)}
theorem SlR.monoV (s : Lv B B') : ∀ {r : Sl} {v : V}, SlR K B r v → SlR K B' r v
  | .no, _, h => h
  | .dt _, _, h => Rp.monoV s h
  | .pt _, _, h => h
theorem OkS.monoV (s : Lv B B') {r : Sl} {o : Option V} (h : OkS K B r o) : OkS K B' r o := by
  rcases h with h | ⟨v, e, h⟩
  · exact .inl h
  · exact .inr ⟨v, e, h.monoV s⟩
theorem EnR.monoV (s : Lv B B') {ρ : List Sl} {σ : L2.St} (h : EnR K B ρ σ) : EnR K B' ρ σ := Paired.mapP h fun _ _ q => q.monoV s
theorem KvR.monoV {κ : Type} (s : Lv B B') {p : κ × Sl} {q : κ × V} (h : KvR K B p q) : KvR K B' p q := ⟨h.1, h.2.monoV s⟩
theorem CoR.monoV (s : Lv B B') : ∀ {c : Co} {o : HO}, CoR K B c o → CoR K B' c o
  | .lst _, _, ⟨xs, e, h⟩ => ⟨xs, e, Paired.mapP h fun _ _ q => q.monoV s⟩
  | .dic _, _, ⟨xs, e, h⟩ => ⟨xs, e, Paired.mapP h fun _ _ q => q.monoV s⟩
  | .dit _, _, ⟨xs, e, h⟩ => ⟨xs, e, Paired.mapP h fun _ _ q => q.monoV s⟩
  | .ins _ _ _, _, ⟨xs, e, h⟩ => ⟨xs, e, Paired.mapP h fun _ _ q => q.monoV s⟩
  | .raw _, _, h => h
theorem ChR.monoV (s : Lv B B') {p : Addr × Co} {q : Addr × HO} (h : ChR K B p q) : ChR K B' p q := ⟨h.1, h.2.monoV s⟩
theorem chs_monoV (s : Lv B B') {ho : List (Addr × HO)} (h : Paired (ChR K B) L ho) : Paired (ChR K B') L ho := Paired.mapP h fun _ _ q => q.monoV s
theorem Hc.seq (S : Hc K B L Fr H) : Same B H := by obtain ⟨_, _, S⟩ := S; exact S.old
/-- the k-th changing object as it stands -/
theorem hd_at : ∀ {ho : List (Addr × HO)} {k : Nat} {p : Addr} {o : HO}, Hd B ho H → ho[k]? = some (p, o) → H p = some o := fun S e => (S.at_ _ (List.mem_of_getElem? e)).1
theorem hd_no {ho : List (Addr × HO)} {k : Nat} {p : Addr} {o : HO} (S : Hd B ho H) (e : ho[k]? = some (p, o)) : B p = none := (S.at_ _ (List.mem_of_getElem? e)).2
theorem map_set {α β : Type} (f : α → β) : ∀ (l : List α) (k : Nat) (x : α), (l.set k x).map f = (l.map f).set k (f x)
  | [], _, _ => rfl
  | _ :: _, 0, _ => rfl
  | a :: l, k + 1, x => congrArg (f a :: ·) (map_set f l k x)
theorem set_same {α : Type} : ∀ {l : List α} {k : Nat} {x : α}, l[k]? = some x → l.set k x = l
  | [], _, _, h => by simp at h
  | _ :: _, 0, _, h => by simp at h; subst h; rfl
  | a :: l, k + 1, x, h => congrArg (a :: ·) (set_same (l := l) (k := k) (by simpa using h))
theorem hd_put {ho : List (Addr × HO)} {k : Nat} {p : Addr} {o : HO} (S : Hd B ho H) (e : ho[k]? = some (p, o)) (o' : HO) : Hd B (ho.set k (p, o')) (upd H p o') := by
  have hm : (ho.set k (p, o')).map (·.1) = ho.map (·.1) := by
    rw [map_set]
    exact set_same (by rw [List.getElem?_map, e]; rfl)
  refine ⟨same_upd2 S.old (hd_no S e) o', fun q hq => ?_, by rw [hm]; exact S.nd⟩
  obtain ⟨j, hj⟩ := List.mem_iff_getElem?.mp hq
  by_cases hjk : k = j
  · subst hjk
    have hlt : k < ho.length := (List.getElem?_eq_some_iff.mp e).1
    rw [List.getElem?_set_self hlt] at hj
    cases hj
    exact ⟨upd_same, hd_no S e⟩
  · rw [List.getElem?_set_ne hjk] at hj
    have h := S.at_ q (List.mem_of_getElem? hj)
    have ne : q.1 ≠ p := fun z => by
      have e1 : (ho.map (·.1))[j]? = some p := by rw [List.getElem?_map, hj, ← z]; rfl
      have e2 : (ho.map (·.1))[k]? = some p := by rw [List.getElem?_map, e]; rfl
      exact hjk (nd_ix S.nd e2 e1)
    exact ⟨by rw [upd_ne ne]; exact h.1, h.2⟩
theorem Hc.at_ (S : Hc K B L Fr H) {k : Nat} {p : Addr} {c : Co} (e : L[k]? = some (p, c)) : ∃ o, H p = some o ∧ CoR K B c o ∧ B p = none := by
  obtain ⟨ho, h1, S⟩ := S
  obtain ⟨⟨q, o⟩, e2, h2⟩ := pget h1 e
  obtain ⟨ep, hc⟩ := h2
  have ep : p = q := ep
  subst ep
  have e3 : (ho ++ Fr)[k]? = some (p, o) := by
    rw [List.getElem?_append_left (List.getElem?_eq_some_iff.mp e2).1]; exact e2
  exact ⟨o, hd_at S e3, hc, hd_no S e3⟩
theorem Hc.put (S : Hc K B L Fr H) {k : Nat} {p : Addr} {c : Co} (e : L[k]? = some (p, c)) {c' : Co} {o' : HO} (h : CoR K B c' o') : Hc K B (L.set k (p, c')) Fr (upd H p o') := by
  obtain ⟨ho, h1, S⟩ := S
  obtain ⟨⟨q, o⟩, e2, h2⟩ := pget h1 e
  have ep : p = q := h2.1
  subst ep
  have hlt := (List.getElem?_eq_some_iff.mp e2).1
  have e3 : (ho ++ Fr)[k]? = some (p, o) := by rw [List.getElem?_append_left hlt]; exact e2
  refine ⟨ho.set k (p, o'), pset (F := ChR K B) (a := (p, c')) (b := (p, o')) ⟨rfl, h⟩ k h1, ?_⟩
  have S2 := hd_put S e3 o'
  rwa [List.set_append_left _ _ hlt] at S2
/-- a new object that stays as it is -/
theorem Hc.fix (S : Hc K B L Fr H) {p : Addr} (hp : H p = none) (o : HO) : Le B (upd B p o) ∧ Hc K (upd B p o) L Fr (upd H p o) := by
  obtain ⟨ho, h1, S⟩ := S
  have s : Le B (upd B p o) := Le.of (same_upd (S.free hp) o)
  exact ⟨s, ho, chs_monoV s.lv h1, S.fix hp o⟩
theorem Hc.new (S : Hc K B L Fr H) {p : Addr} (hp : H p = none) {c : Co} {o : HO} (h : CoR K B c o) : Hc K B (L ++ [(p, c)]) Fr (upd H p o) := by
  obtain ⟨ho, h1, S⟩ := S
  have S2 := S.new hp o
  refine ⟨ho ++ [(p, o)], papp h1 (.cons ⟨rfl, h⟩ .nil), S2.perm ?_⟩
  rw [List.append_assoc]
  exact List.perm_middle
theorem Hc.free (S : Hc K B L Fr H) {p : Addr} (hp : H p = none) : B p = none := S.seq.free hp
theorem perm_paired {α β : Type} {F : α → β → Prop} {l l' : List α} (h : l.Perm l') : ∀ {m : List β}, Paired F l m → ∃ m', m.Perm m' ∧ Paired F l' m' := by
  induction h with
  | nil => intro m h; exact ⟨m, .refl m, h⟩
  | cons x _ ih =>
    intro m h
    cases h with
    | cons a t =>
      obtain ⟨m', q1, q2⟩ := ih t
      exact ⟨_ :: m', .cons _ q1, .cons a q2⟩
  | swap x y l =>
    intro m h
    cases h with
    | cons a t => cases t with
      | cons b t => exact ⟨_, .swap _ _ _, .cons b (.cons a t)⟩
  | trans _ _ ih1 ih2 =>
    intro m h
    obtain ⟨m1, q1, q2⟩ := ih1 h
    obtain ⟨m2, q3, q4⟩ := ih2 q2
    exact ⟨m2, q1.trans q3, q4⟩
theorem Hc.perm {L' : Chs} (S : Hc K B L Fr H) (h : L.Perm L') : Hc K B L' Fr H := by
  obtain ⟨ho, h1, S⟩ := S
  obtain ⟨m, q1, q2⟩ := perm_paired h h1
  exact ⟨m, q2, S.perm (q1.symm.append_right Fr)⟩
end
section
variable {K : PySem.W.Frag} {B B' : Hp}
theorem Rp.mono (s : Le B B') {v : V} {d : Dt} (h : Rp K B v d) : Rp K B' v d := Rp.monoV s.lv h
theorem RpA.mono (s : Le B B') {vs : List V} {ds : List Dt} (h : RpA K B vs ds) : RpA K B' vs ds := RpA.monoV s.lv h
theorem SlR.mono (s : Le B B') {r : Sl} {v : V} (h : SlR K B r v) : SlR K B' r v := h.monoV s.lv
theorem OkS.mono (s : Le B B') {r : Sl} {o : Option V} (h : OkS K B r o) : OkS K B' r o := h.monoV s.lv
theorem EnR.mono (s : Le B B') {ρ : List Sl} {σ : L2.St} (h : EnR K B ρ σ) : EnR K B' ρ σ := EnR.monoV s.lv h
theorem KvR.mono {κ : Type} (s : Le B B') {p : κ × Sl} {q : κ × V} (h : KvR K B p q) : KvR K B' p q := h.monoV s.lv
theorem CoR.mono (s : Le B B') {c : Co} {o : HO} (h : CoR K B c o) : CoR K B' c o := h.monoV s.lv
theorem ChR.mono (s : Le B B') {p : Addr × Co} {q : Addr × HO} (h : ChR K B p q) : ChR K B' p q := h.monoV s.lv
end
abbrev Pd := Sl → Chs → Prop
def WE (K : PySem.W.Frag) (te : TE) (ρ : List Sl) (L : Chs) (Φ : Pd) : Prop :=
  ∀ (Fr : List (Addr × HO)) (B : Hp) (σ : L2.St) (H : Hp) (Q : VK), EnR K B ρ σ → Hc K B L Fr H → (∀ r L' v B' H', Φ r L' → Le B B' → Hc K B' L' Fr H' → SlR K B' r v → Q v H') → te σ H Q
def WT (K : PySem.W.Frag) (tt : TT) (ρ : List Sl) (L : Chs) (Φ : Bool → Chs → Prop) : Prop :=
  ∀ (Fr : List (Addr × HO)) (B : Hp) (σ : L2.St) (H : Hp) (Q : Bool → Hp → Prop), EnR K B ρ σ → Hc K B L Fr H → (∀ b L' B' H', Φ b L' → Le B B' → Hc K B' L' Fr H' → Q b H') → tt σ H Q
/-- an operation on values -/
def WR (K : PySem.W.Frag) (r : R2) (x y : Sl) (L : Chs) (Φ : Pd) : Prop :=
  ∀ (Fr : List (Addr × HO)) (B : Hp) (H : Hp) (Q : VK) (v u : V), Hc K B L Fr H → SlR K B x v → SlR K B y u → (∀ r L' v B' H', Φ r L' → Le B B' → Hc K B' L' Fr H' → SlR K B' r v → Q v H') → r v u H Q
def WC (K : PySem.W.Frag) (r : List V → Hp → VK → Prop) (xs : List Sl) (L : Chs) (Φ : Pd) : Prop :=
  ∀ (Fr : List (Addr × HO)) (B : Hp) (H : Hp) (Q : VK) (vs : List V), Hc K B L Fr H → Paired (SlR K B) xs vs → (∀ r L' v B' H', Φ r L' → Le B B' → Hc K B' L' Fr H' → SlR K B' r v → Q v H') → r vs H Q
structure En2 where
  nx : List Sl → Chs → Prop
  rt : Pd
  bk : List Sl → Chs → Prop := fun _ _ => False
  ct : List Sl → Chs → Prop := fun _ _ => False
structure EnOk (K : PySem.W.Frag) (D : En2) (Fr : List (Addr × HO)) (B : Hp) (D' : Ends) : Prop where
  nx : ∀ ρ L σ B' H', D.nx ρ L → Le B B' → EnR K B' ρ σ → Hc K B' L Fr H' → D'.nx σ H'
  rt : ∀ r L v B' H', D.rt r L → Le B B' → Hc K B' L Fr H' → SlR K B' r v → D'.rt v H'
  bk : ∀ ρ L σ B' H', D.bk ρ L → Le B B' → EnR K B' ρ σ → Hc K B' L Fr H' → D'.bk σ H'
  ct : ∀ ρ L σ B' H', D.ct ρ L → Le B B' → EnR K B' ρ σ → Hc K B' L Fr H' → D'.ct σ H'
theorem EnOk.mono {K : PySem.W.Frag} {D : En2} {Fr : List (Addr × HO)} {B B1 : Hp} {D' : Ends} (h : EnOk K D Fr B D') (s : Le B B1) : EnOk K D Fr B1 D' :=
  ⟨fun ρ L σ B' H' a b c d => h.nx ρ L σ B' H' a (s.trans b) c d, fun r L v B' H' a b c d => h.rt r L v B' H' a (s.trans b) c d, fun ρ L σ B' H' a b c d => h.bk ρ L σ B' H' a (s.trans b) c d, fun ρ L σ B' H' a b c d => h.ct ρ L σ B' H' a (s.trans b) c d⟩
def WS (K : PySem.W.Frag) (t : TS) (D : En2) (ρ : List Sl) (L : Chs) : Prop :=
  ∀ (Fr : List (Addr × HO)) (B : Hp) (σ : L2.St) (H : Hp) (D' : Ends), EnR K B ρ σ → Hc K B L Fr H → EnOk K D Fr B D' → t D' σ H
end Sx
namespace Sx
open PySem PySem.Spec PyProof.Rows L2
section
variable {K : PySem.W.Frag} {ρ : List Sl} {L : Chs} {Φ : Pd} {te ta tb tc : TE} {t u : TS} {D : En2} {r : R2}
def Sl.ok : Sl → Bool
  | .no => false
  | _ => true
theorem lz {n : Nat} (h : Nat.ble n sizeLine = true) : n ≤ sizeLine := Nat.le_of_ble_eq_true h
theorem sz {n : Nat} (h : n ≤ 1000000) : n ≤ sizeLine := Nat.le_trans h (by decide)
theorem szl {n : Nat} (h : n < 1000000) : n < sizeLine := Nat.lt_of_lt_of_le h (by decide)
theorem r_II {g : Int → Int → Int} {i j : Int} (q : Φ (.dt (.int (g i j))) L) : WR K (rI0 fun i j => .int (g i j)) (.dt (.int i)) (.dt (.int j)) L Φ := by
  intro Fr B H Q v u hc rx ry k
  cases rx; cases ry
  exact ⟨i, j, rfl, rfl, k _ L _ B H q (Le.refl B) hc (.int _)⟩
theorem r_IB {g : Int → Int → Bool} {i j : Int} (q : Φ (.dt (.bl (g i j))) L) : WR K (rI0 fun i j => .bl (g i j)) (.dt (.int i)) (.dt (.int j)) L Φ := by
  intro Fr B H Q v u hc rx ry k
  cases rx; cases ry
  exact ⟨i, j, rfl, rfl, k _ L _ B H q (Le.refl B) hc (.bl _)⟩
theorem r_CI {C : Int → Int → Prop} {g : Int → Int → Int} {i j : Int} (hc : C i j) (q : Φ (.dt (.int (g i j))) L) : WR K (rI C fun i j => .int (g i j)) (.dt (.int i)) (.dt (.int j)) L Φ := by
  intro Fr B H Q v u h rx ry k
  cases rx; cases ry
  exact ⟨i, j, rfl, rfl, hc, k _ L _ B H q (Le.refl B) h (.int _)⟩
theorem r_mod {i j : Int} (hj : 0 < j) (q : Φ (.dt (.int (i % j))) L) : WR K (rI (fun _ j => 0 < j) fun i j => .int (i % j)) (.dt (.int i)) (.dt (.int j)) L Φ := r_CI hj q
theorem r_fdiv {i j : Int} (hj : 0 < j) (hm : j < 1073741824) (q : Φ (.dt (.int (i / j))) L) : WR K (rI CDiv fun i j => .int (i / j)) (.dt (.int i)) (.dt (.int j)) L Φ := r_CI ⟨hj, hm⟩ q
theorem r_mul {i j : Int} (h : (-(2 ^ 64) < i ∧ i < 2 ^ 64) ∨ (-(2 ^ 64) < j ∧ j < 2 ^ 64)) (q : Φ (.dt (.int (i * j))) L) : WR K (rI CMul fun i j => .int (i * j)) (.dt (.int i)) (.dt (.int j)) L Φ := r_CI h q
/-- a power of written numbers: n is its value -/
theorem r_pow (n : Int) {i j : Int} (hn : decide (i ^ j.toNat = n) = true) (h : (decide (0 ≤ j) && (decide (j ≤ 1000000) && decide (i.natAbs < 18446744073709551616))) = true) (q : Φ (.dt (.int n)) L) :
    WR K (rI CPow fun i j => .int (i ^ j.toNat)) (.dt (.int i)) (.dt (.int j)) L Φ := by
  have e := of_decide_eq_true hn
  simp only [Bool.and_eq_true, decide_eq_true_eq] at h
  subst e
  exact r_CI ⟨h.1, h.2.1, h.2.2⟩ q
theorem dec_iff {p q : Prop} [Decidable p] [Decidable q] (h : p ↔ q) : decide p = decide q := by
  by_cases hp : p
  · rw [decide_eq_true hp, decide_eq_true (h.mp hp)]
  · rw [decide_eq_false hp, decide_eq_false fun z => hp (h.mpr z)]
theorem r_eqI {i j : Int} (q : Φ (.dt (.bl (decide (i = j)))) L) : WR K rEq (.dt (.int i)) (.dt (.int j)) L Φ := by
  intro Fr B H Q v u h rx ry k
  cases rx; cases ry
  refine ⟨rfl, k _ L _ B H q (Le.refl B) h ?_⟩
  rw [dec_iff (p := V.int i = V.int j) (q := i = j) ⟨fun e => by injection e, fun e => by rw [e]⟩]
  exact .bl _
theorem r_eqS {i j : Str} (q : Φ (.dt (.bl (decide (i = j)))) L) : WR K rEq (.dt (.str i)) (.dt (.str j)) L Φ := by
  intro Fr B H Q v u h rx ry k
  cases rx; cases ry
  refine ⟨rfl, k _ L _ B H q (Le.refl B) h ?_⟩
  rw [dec_iff (p := V.str i = V.str j) (q := i = j) ⟨fun e => by injection e, fun e => by rw [e]⟩]
  exact .bl _
theorem r_eqB {i j : Bool} (q : Φ (.dt (.bl (decide (i = j)))) L) : WR K rEq (.dt (.bl i)) (.dt (.bl j)) L Φ := by
  intro Fr B H Q v u h rx ry k
  cases rx; cases ry
  refine ⟨rfl, k _ L _ B H q (Le.refl B) h ?_⟩
  rw [dec_iff (p := V.bl i = V.bl j) (q := i = j) ⟨fun e => by injection e, fun e => by rw [e]⟩]
  exact .bl _
theorem r_addS {i j : Str} (hl : i.length + j.length ≤ 1000000) (q : Φ (.dt (.str (i ++ j))) L) : WR K (fun x y H Q => ∃ i j, x = .str i ∧ y = .str j ∧ i.length + j.length ≤ sizeLine ∧ Q (.str (i ++ j)) H) (.dt (.str i)) (.dt (.str j)) L Φ := by
  intro Fr B H Q v u h rx ry k
  cases rx; cases ry
  exact ⟨i, j, rfl, rfl, sz hl, k _ L _ B H q (Le.refl B) h (.str _)⟩
/-- x is None -/
def isNonD : Sl → Bool
  | .dt .non => true
  | .dt (.wk v) => decide (v = .non)
  | _ => false
theorem isNon_iff {B : Hp} {x : Sl} {v : V} (h : SlR K B x v) : decide (v = .non) = isNonD x := by
  cases x with
  | no => exact h.elim
  | pt a => cases h; rfl
  | dt d => cases h <;> rfl
theorem r_isN {x : Sl} (q : Φ (.dt (.bl (isNonD x))) L) : WR K (fun x y H Q => y = .non ∧ Q (.bl (decide (x = .non))) H) x (.dt .non) L Φ := by
  intro Fr B H Q v u h rx ry k
  cases ry
  refine ⟨rfl, k _ L _ B H q (Le.refl B) h ?_⟩
  rw [isNon_iff rx]
  exact .bl _
theorem r_notN {x : Sl} (q : Φ (.dt (.bl (!isNonD x))) L) : WR K (fun x y H Q => y = .non ∧ Q (.bl (!decide (x = .non))) H) x (.dt .non) L Φ := by
  intro Fr B H Q v u h rx ry k
  cases ry
  refine ⟨rfl, k _ L _ B H q (Le.refl B) h ?_⟩
  rw [isNon_iff rx]
  exact .bl _
theorem rpa_atI {B : Hp} {xs : List V} {ds : List Dt} {i : Int} {d : Dt} (ha : RpA K B xs ds) (e : atI ds i = some d) : ∃ v, atI xs i = some v ∧ Rp K B v d := by
  unfold atI at e ⊢
  rw [ha.len]
  cases q : ixN ds.length i with
  | none => rw [q] at e; cases e
  | some j =>
    rw [q] at e
    exact pget' ha.paired e
theorem r_ixL {ds : List Dt} {i : Int} {d : Dt} (h : atI ds i = some d) (q : Φ (.dt d) L) : WR K (rIxL K) (.dt (.lst ds)) (.dt (.int i)) L Φ := by
  intro Fr B H Q v u hc rx ry k
  cases ry
  cases rx with
  | lst hb ha =>
    obtain ⟨v, e, r⟩ := rpa_atI ha h
    exact ⟨_, _, i, v, rfl, rfl, SqL.of (hc.seq _ _ hb), e, k _ L _ B H q (Le.refl B) hc r⟩
theorem r_ixT {ds : List Dt} {i : Int} {d : Dt} (h : atI ds i = some d) (q : Φ (.dt d) L) : WR K (rIxT K) (.dt (.tup ds)) (.dt (.int i)) L Φ := by
  intro Fr B H Q v u hc rx ry k
  cases ry
  cases rx with
  | tup hb ha =>
    obtain ⟨v, e, r⟩ := rpa_atI ha h
    exact ⟨_, _, i, v, rfl, rfl, SqT.of (hc.seq _ _ hb), e, k _ L _ B H q (Le.refl B) hc r⟩
theorem r_ixS {z : Str} {i : Int} {c : Nat} (hz : z.length ≤ 1000000) (h : atI z.cps.toList i = some c) (q : Φ (.dt (.str ⟨#[c]⟩)) L) : WR K rIxS (.dt (.str z)) (.dt (.int i)) L Φ := by
  intro Fr B H Q v u hc rx ry k
  cases ry
  cases rx
  exact ⟨_, i, c, rfl, rfl, sz hz, h, k _ L _ B H q (Le.refl B) hc (.str _)⟩
theorem r_ixScr {ns : List Int} {i n : Int} (h : atI ns i = some n) (q : Φ (.dt (.int n)) L) : WR K (rIxL K) (.dt (.scr ns)) (.dt (.int i)) L Φ := by
  intro Fr B H Q v u hc rx ry k
  cases ry
  cases rx with
  | scr hb =>
    have e : atI (ns.map V.int) i = some (V.int n) := by
      unfold atI at h ⊢
      rw [List.length_map]
      cases q : ixN ns.length i with
      | none => rw [q] at h; cases h
      | some j =>
        rw [q] at h
        have h : ns[j]? = some n := h
        show (ns.map V.int)[j]? = some (V.int n)
        rw [List.getElem?_map, h]; rfl
    exact ⟨_, _, i, _, rfl, rfl, hc.seq.seq hb, e, k _ L _ B H q (Le.refl B) hc (.int n)⟩
end
end Sx
namespace Sx
open PySem PySem.Spec PyProof.Rows L2
section
variable {K : PySem.W.Frag} {ρ : List Sl} {L : Chs} {Φ : Pd} {te ta tb tc : TE} {t u : TS} {D : En2} {r : R2} {tt tt2 : TT} {aa : TA}
theorem s_seq (h : WS K t { D with nx := fun ρ' L' => WS K u D ρ' L' } ρ L) : WS K (tSeq t u) D ρ L := by
  intro Fr B σ H D' he hc ok
  refine h Fr B σ H _ he hc ⟨fun ρ' L' σ' B' H' a s e c => a Fr B' σ' H' D' e c (ok.mono s), ok.rt, ok.bk, ok.ct⟩
theorem s_next (q : D.nx ρ L) : WS K tNext D ρ L := fun Fr B σ H D' he hc ok => ok.nx ρ L σ B H q (Le.refl B) he hc
theorem s_drop (h : WE K te ρ L fun _ L1 => D.nx ρ L1) : WS K (tDrop te) D ρ L := by
  intro Fr B σ H D' he hc ok
  exact h Fr B σ H _ he hc fun x L1 v B1 H1 h1 s1 hc1 r1 => ok.nx ρ L1 σ B1 H1 h1 s1 (he.mono s1) hc1
theorem s_ret (h : WE K te ρ L D.rt) : WS K (tRet te) D ρ L := by
  intro Fr B σ H D' he hc ok
  exact h Fr B σ H _ he hc fun x L1 v B1 H1 h1 s1 hc1 r1 => ok.rt x L1 v B1 H1 h1 s1 hc1 r1
theorem s_if (h : WT K tt ρ L fun b L1 => if b = true then WS K t D ρ L1 else WS K u D ρ L1) : WS K (tIfS tt t u) D ρ L := by
  intro Fr B σ H D' he hc ok
  refine h Fr B σ H _ he hc fun b L1 B1 H1 h1 s1 hc1 => ?_
  cases b with
  | true => exact h1 Fr B1 σ H1 D' (he.mono s1) hc1 (ok.mono s1)
  | false => exact h1 Fr B1 σ H1 D' (he.mono s1) hc1 (ok.mono s1)
/-- the slot i: a value -/
theorem en_set {B : Hp} {σ : L2.St} {i : Nat} {r : Sl} {v : V} (he : EnR K B ρ σ) (h : SlR K B r v) : EnR K B (ρ.set i r) (σ.set i (some v)) := pset (F := OkS K B) (Or.inr ⟨v, rfl, h⟩) i he
theorem s_asg {i : Nat} (h : WE K te ρ L fun r L1 => D.nx (ρ.set i r) L1) : WS K (tAsg te (gName i)) D ρ L := by
  intro Fr B σ H D' he hc ok
  exact h Fr B σ H _ he hc fun x L1 v B1 H1 h1 s1 hc1 r1 => ok.nx _ L1 _ B1 H1 h1 s1 (en_set (he.mono s1) r1) hc1
/-- targets of several names -/
def WG (K : PySem.W.Frag) (g : TG) (r : Sl) (ρ : List Sl) (L : Chs) (N : List Sl → Chs → Prop) : Prop :=
  ∀ (Fr : List (Addr × HO)) (B : Hp) (σ : L2.St) (H : Hp) (v : V) (Q : L2.St → Hp → Prop), EnR K B ρ σ → Hc K B L Fr H → SlR K B r v → (∀ ρ' L' σ' B' H', N ρ' L' → Le B B' → EnR K B' ρ' σ' → Hc K B' L' Fr H' → Q σ' H') → g v σ H Q
theorem sl_dts {B : Hp} : ∀ {vs : List V} {ds : List Dt}, RpA K B vs ds → Paired (SlR K B) (ds.map Sl.dt) vs
  | _, _, .nil => .nil
  | _, _, .cons h a => .cons h (sl_dts a)
/-- a promise told by data -/
def SpD (K : PySem.W.Frag) (F : List Sl → Chs → Pd → Prop) : Sp := fun vs H Q _ => ∃ B Fr ss L Φ, Paired (SlR K B) ss vs ∧ Hc K B L Fr H ∧ F ss L Φ ∧ ∀ r L' v B' H', Φ r L' → Le B B' → Hc K B' L' Fr H' → SlR K B' r v → Q v H'
def st2 (N : List Str) (ss : List Sl) : List Sl := ss ++ List.replicate (N.length - ss.length) .no
def Wk : List Sl → List Sl → Prop
  | [], [] => True
  | a :: as, b :: bs => (b = .no ∨ a = b) ∧ Wk as bs
  | _, _ => False
theorem Wk.en {B : Hp} : ∀ {ρ ρ' : List Sl} {σ : L2.St}, Wk ρ ρ' → EnR K B ρ σ → EnR K B ρ' σ
  | [], [], _, _, h => h
  | a :: as, b :: bs, _, ⟨h1, h2⟩, .cons g r => by
    refine .cons ?_ (Wk.en h2 r)
    rcases h1 with h1 | h1
    · exact .inl h1
    · subst h1; exact g
  | [], _ :: _, _, h, _ => h.elim
  | _ :: _, [], _, h, _ => h.elim
end
end Sx
namespace Sx
open PySem PySem.Spec PyProof.Rows L2
section
variable {K : PySem.W.Frag} {ρ : List Sl} {L : Chs} {Φ : Pd} {te ta tb tc tl : TE} {t u : TS} {D : En2} {r : R2} {tt tt2 : TT} {aa : TA} {g : TG} {wi : TI}
def ItD (K : PySem.W.Frag) (J : It) (B0 : Hp) (ds : List Dt) : Prop :=
  ∀ (B H : Hp) (L : Chs) (Fr : List (Addr × HO)) (i : Nat), Le B0 B → Hc K B L Fr H →
    (∀ d, ds[i]? = some d → J.go i H ∧ ∀ x H', J.yld i H x H' → ∃ B', Le B B' ∧ Hc K B' L Fr H' ∧ Rp K B' x d) ∧ (ds.length ≤ i → J.stop i H)
def WI (K : PySem.W.Frag) (wi : TI) (ρ : List Sl) (L : Chs) (Ψ : List Dt → Chs → Prop) : Prop :=
  ∀ (Fr : List (Addr × HO)) (B : Hp) (σ : L2.St) (H : Hp) (R : It → Hp → Prop), EnR K B ρ σ → Hc K B L Fr H →
    (∀ ds L' J B' H', Ψ ds L' → Le B B' → Hc K B' L' Fr H' → ItD K J B' ds → R J H') → wi σ H R
theorem itd_list {B0 : Hp} {a : Addr} {xs : List V} {ds : List Dt} (h : B0 a = some (.lst xs)) (ha : RpA K B0 xs ds) : ItD K (Itl K a) B0 ds := fun B H L Fr i s hc => by
  have hq : SqL K H a xs := SqL.of (hc.seq _ _ (s.lst h))
  refine ⟨fun d hd => ?_, fun hl => ⟨xs, hq, by rw [ha.len]; exact hl⟩⟩
  obtain ⟨v, e, rv⟩ := pget' ha.paired hd
  refine ⟨⟨xs, v, hq, e⟩, fun x H' y => ?_⟩
  obtain ⟨e1, e2⟩ := y
  subst e1
  have e3 := e2 xs hq
  rw [e] at e3
  cases e3
  exact ⟨B, Le.refl B, hc, rv.mono s⟩
def rngD (lo : Int) (n : Nat) : List Dt := (List.range n).map fun k : Nat => Dt.int (lo + (k : Int))
theorem rngD_len (lo : Int) (n : Nat) : (rngD lo n).length = n := by unfold rngD; rw [List.length_map, List.length_range]
theorem rngD_at {lo : Int} {n i : Nat} {d : Dt} (h : (rngD lo n)[i]? = some d) : i < n ∧ d = .int (lo + (i : Int)) := by
  have hl := (List.getElem?_eq_some_iff.mp h).1
  rw [rngD_len] at hl
  unfold rngD at h
  rw [List.getElem?_map, List.getElem?_range hl] at h
  cases h
  exact ⟨hl, rfl⟩
theorem itd_rng {B0 : Hp} {lo : Int} {n : Nat} : ItD K (Itr lo n) B0 (rngD lo n) := fun B H L Fr i s hc => by
  refine ⟨fun d hd => ?_, fun hl => by rw [rngD_len] at hl; exact hl⟩
  obtain ⟨h1, h2⟩ := rngD_at hd
  subst h2
  refine ⟨h1, fun x H' y => ?_⟩
  obtain ⟨e1, e2⟩ := y
  subst e1 e2
  exact ⟨B, Le.refl B, hc, .int _⟩
/-- a text, sign by sign -/
def sgn (c : Nat) : Str := ⟨#[c]⟩
theorem itd_str {B0 : Hp} {z : Str} : ItD K (Its z) B0 (z.cps.toList.map fun c => .str (sgn c)) := fun B H L Fr i s hc => by
  refine ⟨fun d hd => ?_, fun hl => by rw [List.length_map, Array.length_toList] at hl; exact hl⟩
  rw [List.getElem?_map] at hd
  cases q : z.cps.toList[i]? with
  | none => rw [q] at hd; cases hd
  | some c =>
    rw [q] at hd
    cases hd
    have hi := (List.getElem?_eq_some_iff.mp q).1
    rw [Array.length_toList] at hi
    refine ⟨hi, fun x H' y => ?_⟩
    obtain ⟨e1, c', e2, e3⟩ := y
    subst e1 e3
    have e4 : c' = c := by
      rw [Array.getElem?_toList] at q
      rw [q] at e2
      exact (Option.some.inj e2).symm
    subst e4
    exact ⟨B, Le.refl B, hc, .str _⟩
def enumD (ds : List Dt) : List Dt := ds.zipIdx.map fun p => .tup [.int (p.2 : Int), p.1]
theorem enumD_len (ds : List Dt) : (enumD ds).length = ds.length := by unfold enumD; simp
theorem enumD_at {ds : List Dt} {i : Nat} {d : Dt} (h : (enumD ds)[i]? = some d) : ∃ e, ds[i]? = some e ∧ d = .tup [.int (i : Int), e] := by
  unfold enumD at h
  rw [List.getElem?_map, List.getElem?_zipIdx] at h
  cases q : ds[i]? with
  | none => rw [q] at h; cases h
  | some e =>
    rw [q] at h
    have h : some (Dt.tup [.int ((0 + i : Nat) : Int), e]) = some d := h
    rw [Nat.zero_add] at h
    exact ⟨e, rfl, (Option.some.inj h).symm⟩
theorem itd_enum {B0 : Hp} {a : Addr} {xs : List V} {ds : List Dt} (h : B0 a = some (.lst xs)) (ha : RpA K B0 xs ds) : ItD K (Ite K a) B0 (enumD ds) := fun B H L Fr i s hc => by
  have hq : SqL K H a xs := SqL.of (hc.seq _ _ (s.lst h))
  refine ⟨fun d hd => ?_, fun hl => ⟨xs, hq, by rw [ha.len]; rw [enumD_len] at hl; exact hl⟩⟩
  obtain ⟨e0, h0, e⟩ := enumD_at hd
  subst e
  obtain ⟨v, e, rv⟩ := pget' ha.paired h0
  refine ⟨⟨xs, v, hq, e⟩, fun x H' y => ?_⟩
  obtain ⟨T, x', rfl, hT, rfl, e2⟩ := y
  have e3 := e2 xs hq
  rw [e] at e3
  cases e3
  obtain ⟨s2, hc2⟩ := hc.fix hT (.tup [.int (i : Nat), v])
  exact ⟨_, s2, hc2, .tup upd_same (.cons (.int _) (.cons (rv.mono (s.trans s2)) .nil))⟩
def zipD (ds es : List Dt) : List Dt := (ds.zip es).map fun p => .tup [p.1, p.2]
def Nxt (Inv : Nat → List Sl → Chs → Prop) (i : Nat) (ρ : List Sl) (L : Chs) : Prop := ∃ ρ2, Wk ρ ρ2 ∧ Inv i ρ2 L
theorem s_for (h : WI K wi ρ L fun ds L1 => ∃ Inv : Nat → List Sl → Chs → Prop, Nxt Inv 0 ρ L1 ∧
    (∀ i d ρ' L', ds[i]? = some d → Inv i ρ' L' → WG K g (.dt d) ρ' L' fun ρ2 L2 => WS K t { nx := Nxt Inv (i + 1), ct := Nxt Inv (i + 1), bk := D.nx, rt := D.rt } ρ2 L2) ∧ (∀ ρ' L', Inv ds.length ρ' L' → D.nx ρ' L')) :
    WS K (tFor wi g t) D ρ L := by
  intro Fr B σ H D' he hc ok
  refine h Fr B σ H _ he hc fun ds L1 J B1 H1 h1 s1 hc1 hit => ?_
  obtain ⟨Inv, h0, hs, hd⟩ := h1
  let Pv : Nat → L2.St → Hp → Prop := fun i σ' H' => ∃ ρ' L' B', Inv i ρ' L' ∧ Le B1 B' ∧ EnR K B' ρ' σ' ∧ Hc K B' L' Fr H'
  have nxt : ∀ {i : Nat} {ρ' : List Sl} {L' : Chs} {B' : Hp} {σ' : L2.St} {H' : Hp}, Nxt Inv i ρ' L' → Le B1 B' → EnR K B' ρ' σ' → Hc K B' L' Fr H' → Pv i σ' H' := fun ⟨ρ2, w, q⟩ s e c => ⟨ρ2, _, _, q, s, w.en e, c⟩
  refine ⟨fun i m σ' H' => m = ds.length - i ∧ i ≤ ds.length ∧ Pv i σ' H', ⟨ds.length, by simp, Nat.zero_le _, nxt h0 (Le.refl B1) (he.mono s1) hc1⟩, ?_⟩
  rintro i m σ' H' ⟨rfl, hi, ρ', L', B', q, s, e, c⟩
  obtain ⟨hgo, hstop⟩ := hit B' H' L' Fr i s c
  by_cases hlt : i < ds.length
  · have hdi : ds[i]? = some ds[i] := List.getElem?_eq_getElem hlt
    obtain ⟨g1, g2⟩ := hgo _ hdi
    refine .inr ⟨g1, Pv (i + 1), fun σ2 H2 p => ⟨ds.length - (i + 1), by omega, rfl, hlt, p⟩, fun x H2 y => ?_⟩
    obtain ⟨B2, s2, c2, r2⟩ := g2 x H2 y
    refine hs i _ ρ' L' hdi q Fr B2 σ' H2 x _ (e.mono s2) c2 r2 fun ρ3 L3 σ3 B3 H3 a3 s3 e3 c3 => ?_
    have s13 := (s.trans s2).trans s3
    refine a3 Fr B3 σ3 H3 _ e3 c3 ⟨fun ρ4 L4 σ4 B4 H4 a4 s4 e4 c4 => nxt a4 (s13.trans s4) e4 c4, fun r L' v B' H' a b c d => ok.rt r L' v B' H' a ((s1.trans s13).trans b) c d,
      fun ρ4 L4 σ4 B4 H4 a4 s4 e4 c4 => ok.nx ρ4 L4 σ4 B4 H4 a4 ((s1.trans s13).trans s4) e4 c4, fun ρ4 L4 σ4 B4 H4 a4 s4 e4 c4 => nxt a4 (s13.trans s4) e4 c4⟩
  · have ei : i = ds.length := by omega
    subst ei
    exact .inl ⟨hstop (Nat.le_refl _), ok.nx ρ' L' σ' B' H' (hd ρ' L' q) (s1.trans s) e c⟩
theorem wipe_comm (σ : L2.St) (v : Nat) (o : Option V) : ∀ vs : List Nat, v ∈ vs → wipe (σ.set v o) vs = wipe σ vs
  | [], h => by cases h
  | w :: vs, h => by
    unfold wipe
    by_cases hv : v ∈ vs
    · rw [wipe_comm σ v o vs hv]
    · have e : v = w := by
        rcases List.mem_cons.mp h with h | h
        · exact h
        · exact absurd h hv
      subst e
      have gen : ∀ (vs : List Nat) (σ : L2.St), wipe (σ.set v o) vs = if v ∈ vs then wipe σ vs else (wipe σ vs).set v o := fun vs => by
        induction vs with
        | nil => intro σ; rfl
        | cons u us ih =>
          intro σ
          unfold wipe
          rw [ih σ]
          by_cases hu : v ∈ us
          · rw [if_pos hu, if_pos (List.mem_cons_of_mem _ hu)]
          · rw [if_neg hu]
            by_cases hvu : v = u
            · subst hvu
              rw [if_pos List.mem_cons_self, List.set_set]
            · rw [if_neg (fun z => (List.mem_cons.mp z).elim hvu hu)]
              exact List.set_comm _ _ hvu
      rw [gen vs σ, if_neg hv, List.set_set]
theorem wipe_idem (σ : L2.St) : ∀ vs : List Nat, wipe (wipe σ vs) vs = wipe σ vs := fun vs => by
  have gen : ∀ (ws : List Nat), (∀ w ∈ ws, w ∈ vs) → wipe (wipe σ ws) vs = wipe σ vs := fun ws => by
    induction ws with
    | nil => intro _; rfl
    | cons w ws ih =>
      intro h
      show wipe ((wipe σ ws).set w none) vs = wipe σ vs
      rw [wipe_comm _ w none vs (h w List.mem_cons_self)]
      exact ih fun u hu => h u (List.mem_cons_of_mem _ hu)
  exact gen vs fun _ h => h
/-- a comprehension's targets: only slots of vs are stored -/
def WV (K : PySem.W.Frag) (g : TG) (vs : List Nat) (r : Sl) (ρ : List Sl) (L : Chs) (N : List Sl → Chs → Prop) : Prop :=
  ∀ (Fr : List (Addr × HO)) (B : Hp) (σ : L2.St) (H : Hp) (v : V) (Q : L2.St → Hp → Prop), EnR K B ρ σ → Hc K B L Fr H → SlR K B r v →
    (∀ ρ' L' σ' B' H', N ρ' L' → Le B B' → EnR K B' ρ' σ' → Hc K B' L' Fr H' → wipe σ' vs = wipe σ vs → Q σ' H') → g v σ H Q
def WVs (K : PySem.W.Frag) (g : TGs) (vs : List Nat) (rs : List Sl) (ρ : List Sl) (L : Chs) (N : List Sl → Chs → Prop) : Prop :=
  ∀ (Fr : List (Addr × HO)) (B : Hp) (σ : L2.St) (H : Hp) (us : List V) (Q : L2.St → Hp → Prop), EnR K B ρ σ → Hc K B L Fr H → Paired (SlR K B) rs us →
    (∀ ρ' L' σ' B' H', N ρ' L' → Le B B' → EnR K B' ρ' σ' → Hc K B' L' Fr H' → wipe σ' vs = wipe σ vs → Q σ' H') → g us σ H Q
theorem v_tup {n : Nat} {gs : TGs} {vs : List Nat} {ds : List Dt} {N : List Sl → Chs → Prop} (hn : ds.length = n) (h : WVs K gs vs (ds.map Sl.dt) ρ L N) : WV K (gTup K n gs) vs (.dt (.tup ds)) ρ L N := fun Fr B σ H v Q he hc hr k => by
  cases hr with
  | tup hb ha =>
    refine ⟨_, _, rfl, SqT.of (hc.seq _ _ hb), by rw [ha.len, hn], ?_⟩
    exact h Fr B σ H _ Q he hc (sl_dts ha) k
theorem rpa_app {B : Hp} {xs : List V} {ds : List Dt} {v : V} {d : Dt} (h : RpA K B xs ds) (r : Rp K B v d) : RpA K B (xs ++ [v]) (ds ++ [d]) := RpA.of (papp h.paired (.cons r .nil))
end
end Sx
namespace Sx
open PySem PySem.Spec PyProof.Rows L2
section
variable {K : PySem.W.Frag} {ρ : List Sl} {L : Chs} {Φ : Pd} {te ta tb tc tl to : TE} {t u : TS} {D : En2} {r : R2} {tt tt2 : TT} {aa : TA}
def dts (ds : List Dt) : List Sl := ds.map Sl.dt
theorem rp_dts {B : Hp} {ds : List Dt} {vs : List V} (h : RpA K B vs ds) : Paired (SlR K B) (dts ds) vs := sl_dts h
theorem keys_kv {κ : Type} {B : Hp} : ∀ {ds : List (κ × Dt)} {kvs : List (κ × V)}, kvs.map (·.1) = ds.map (·.1) → RpA K B (kvs.map (·.2)) (ds.map (·.2)) → Paired (KvR K B) (ds.map fun p => (p.1, Sl.dt p.2)) kvs
  | [], [], _, _ => .nil
  | d :: ds, kv :: kvs, e, h => by
    rw [List.map_cons, List.map_cons] at e
    injection e with e1 e2
    rw [List.map_cons, List.map_cons] at h
    cases h with
    | cons a b => exact .cons ⟨e1.symm, a⟩ (keys_kv e2 b)
  | [], _ :: _, e, _ => by cases e
  | _ :: _, [], e, _ => by cases e
/-- the slots that point to p now hold what stands there -/
def Fz (p : Addr) (d : Dt) : List Sl → List Sl → Prop
  | [], [] => True
  | a :: as, b :: bs => (a = b ∨ (a = .pt p ∧ b = .dt d)) ∧ Fz p d as bs
  | _, _ => False
theorem Fz.en {B : Hp} {p : Addr} {d : Dt} (hp : Rp K B (.ref p) d) : ∀ {ρ ρ' : List Sl} {σ : L2.St}, Fz p d ρ ρ' → EnR K B ρ σ → EnR K B ρ' σ
  | [], [], _, _, h => h
  | a :: as, b :: bs, _, ⟨h1, h2⟩, .cons g r => by
    refine .cons ?_ (Fz.en hp h2 r)
    rcases h1 with h1 | ⟨h1, h3⟩
    · subst h1; exact g
    · subst h1 h3
      rcases g with g | ⟨v, g1, g2⟩
      · cases g
      · cases g2
        exact .inr ⟨_, g1, hp⟩
  | [], _ :: _, _, h, _ => h.elim
  | _ :: _, [], _, h, _ => h.elim
def isLs : Sl → Chs → Prop
  | .dt (.lst _), _ => True
  | .dt (.scr _), _ => True
  | .pt p, L => ∃ (k : Nat) (ss : List Sl), L[k]? = some (p, Co.lst ss)
  | _, _ => False
theorem isLs.ty {B H : Hp} {Fr : List (Addr × HO)} {x : Sl} {v : V} (i : isLs x L) (hc : Hc K B L Fr H) (r1 : SlR K B x v) : tyV K "list" v H := by
  match x, i with
  | .dt (.lst _), _ =>
    cases r1 with
    | lst hb _ => exact .inl ⟨rfl, _, SqL.of (hc.seq _ _ hb)⟩
  | .dt (.scr _), _ =>
    cases r1 with
    | scr hb => exact .inl ⟨rfl, _, hc.seq.seq hb⟩
  | .pt p, ⟨k, ss, e⟩ =>
    cases r1
    obtain ⟨o, h1, ⟨xs, h2, _⟩, _⟩ := hc.at_ e
    subst h2
    exact .inl ⟨rfl, _, SqL.of h1⟩
def keyD : Dt → Option Key
  | .int i => some (.inl i)
  | .str x => some (.inr x)
  | _ => none
theorem keyD_v {B : Hp} {d : Dt} {k : Key} {v : V} (h : keyD d = some k) (r : Rp K B v d) : v = kV k := by
  cases d with
  | int i => cases h; cases r; rfl
  | str x => cases h; cases r; rfl
  | _ => cases h
def keysD : List Dt → Option (List Key)
  | [] => some []
  | d :: ds => match keyD d, keysD ds with
    | some k, some ks => some (k :: ks)
    | _, _ => none
theorem keysD_v {B : Hp} : ∀ {ds : List Dt} {ks : List Key} {vs : List V}, keysD ds = some ks → RpA K B vs ds → vs = ks.map kV
  | [], _, _, h, r => by cases h; cases r; rfl
  | d :: ds, ks, _, h, r => by
    cases r with
    | cons a b =>
      unfold keysD at h
      cases q : keyD d with
      | none => rw [q] at h; cases h
      | some k =>
        rw [q] at h
        cases q2 : keysD ds with
        | none => rw [q2] at h; cases h
        | some ks2 =>
          rw [q2] at h
          cases h
          rw [keyD_v q a, keysD_v q2 b]
          rfl
section
variable {κ : Type} [DecidableEq κ] {α β : Type}
def valG (kvs : List (κ × α)) (k : κ) : Option α := (kvs.find? fun kv => decide (kv.1 = k)).map (·.2)
theorem valG_rel {F : κ × α → κ × β → Prop} (hF : ∀ p q, F p q → p.1 = q.1) {k : κ} : ∀ {l : List (κ × α)} {m : List (κ × β)}, Paired F l m → (∀ s, valG l k = some s → ∃ v, valG m k = some v ∧ ∃ k', F (k', s) (k', v)) ∧ (valG l k = none → valG m k = none)
  | _, _, .nil => ⟨fun s h => (by cases h), fun _ => rfl⟩
  | p :: l, q :: m, .cons h t => by
    have e := hF p q h
    by_cases hk : p.1 = k
    · have h1 : valG (p :: l) k = some p.2 := by unfold valG; rw [List.find?_cons, decide_eq_true hk]; rfl
      have h2 : valG (q :: m) k = some q.2 := by unfold valG; rw [List.find?_cons, decide_eq_true (e ▸ hk)]; rfl
      rw [h1, h2]
      refine ⟨fun s hs => ?_, fun z => by cases z⟩
      cases hs
      refine ⟨_, rfl, p.1, ?_⟩
      have e2 : q = (p.1, q.2) := by rw [e]
      rw [e2] at h
      exact h
    · have h1 : valG (p :: l) k = valG l k := by unfold valG; rw [List.find?_cons, decide_eq_false hk]
      have h2 : valG (q :: m) k = valG m k := by unfold valG; rw [List.find?_cons, decide_eq_false (e ▸ hk)]
      rw [h1, h2]
      exact valG_rel hF t
end
theorem kvr_key {κ : Type} {B : Hp} (p : κ × Sl) (q : κ × V) (h : KvR K B p q) : p.1 = q.1 := h.1
/-- what the dict x holds at the key y -/
def DG (x : Sl) (y : Dt) (L : Chs) (o : Option Sl) : Prop :=
  (∃ (k : Nat) (p : Addr) (kvs : List (Key × Sl)) (key : Key), x = .pt p ∧ L[k]? = some (p, Co.dic kvs) ∧ keyD y = some key ∧ o = valG kvs key) ∨
  (∃ kvs key, x = .dt (.dic kvs) ∧ keyD y = some key ∧ o = (valG kvs key).map .dt) ∨
  (∃ (k : Nat) (p : Addr) (kvs : List (List Key × Sl)) (ds : List Dt) (key : List Key), x = .pt p ∧ L[k]? = some (p, Co.dit kvs) ∧ y = .tup ds ∧ keysD ds = some key ∧ o = valG kvs key) ∨
  ∃ kvs ds key, x = .dt (.dit kvs) ∧ y = .tup ds ∧ keysD ds = some key ∧ o = (valG kvs key).map .dt
theorem kvs_val {κ : Type} [DecidableEq κ] {B : Hp} {kvs : List (κ × Sl)} {vs : List (κ × V)} {k : κ} (h : Paired (KvR K B) kvs vs) : (∀ s, valG kvs k = some s → ∃ v, valV vs k = some v ∧ SlR K B s v) ∧ (valG kvs k = none → valV vs k = none) := by
  obtain ⟨h1, h2⟩ := valG_rel (F := KvR K B) kvr_key (k := k) h
  exact ⟨fun s hs => by obtain ⟨v, e, _, r⟩ := h1 s hs; exact ⟨v, e, r.2⟩, h2⟩
theorem valG_map {κ : Type} [DecidableEq κ] (k : κ) : ∀ kvs : List (κ × Dt), valG (kvs.map fun p => (p.1, Sl.dt p.2)) k = (valG kvs k).map .dt
  | [] => rfl
  | p :: r => by
    unfold valG
    rw [List.map_cons, List.find?_cons, List.find?_cons]
    by_cases hk : p.1 = k
    · rw [decide_eq_true hk]; rfl
    · rw [decide_eq_false hk]; exact valG_map k r
theorem rd_same {B H : Hp} {a : Addr} {u : HO} (s : Same B H) (h : Rd B a u) : Rd H a u := by
  rcases h with h | ⟨ob, h⟩
  · exact .inl (s _ _ h)
  · exact .inr ⟨ob, s _ _ h⟩
theorem DG.get {B H : Hp} {Fr : List (Addr × HO)} {x : Sl} {y : Dt} {o : Option Sl} {xv yv : V} (h : DG x y L o) (hc : Hc K B L Fr H) (rx : SlR K B x xv) (ry : Rp K B yv y) :
    ∃ a ov, xv = .ref a ∧ DGet H a yv ov ∧ (∀ s, o = some s → ∃ v, ov = some v ∧ SlR K B s v) ∧ (o = none → ov = none) := by
  rcases h with ⟨k, p, kvs, key, rfl, e, hk, rfl⟩ | ⟨kvs, key, rfl, hk, rfl⟩ | ⟨k, p, kvs, ds, key, rfl, e, rfl, hk, rfl⟩ | ⟨kvs, ds, key, rfl, rfl, hk, rfl⟩
  · cases rx
    obtain ⟨o, h1, ⟨vs, h2, h3⟩, _⟩ := hc.at_ e
    subst h2
    rw [keyD_v hk ry]
    exact ⟨p, _, rfl, DGet.k h1, (kvs_val h3).1, (kvs_val h3).2⟩
  · cases rx with
    | dic hb e1 e2 =>
      have h3 := keys_kv e1 e2
      rw [keyD_v hk ry]
      have hb2 := rd_same hc.seq hb
      refine ⟨_, _, rfl, .inl ⟨_, key, hb2, rfl, rfl⟩, fun s hs => ?_, fun hn => ?_⟩
      · exact (kvs_val h3).1 s (by rw [valG_map]; exact hs)
      · exact (kvs_val h3).2 (by rw [valG_map]; exact hn)
  · cases rx
    obtain ⟨o, h1, ⟨vs, h2, h3⟩, _⟩ := hc.at_ e
    subst h2
    cases ry with
    | tup hb ha =>
      rw [keysD_v hk ha] at hb
      exact ⟨p, _, rfl, DGet.t h1 (hc.seq _ _ hb), (kvs_val h3).1, (kvs_val h3).2⟩
  · cases rx with
    | dit hb e1 e2 =>
      have h3 := keys_kv e1 e2
      cases ry with
      | tup hb' ha =>
        rw [keysD_v hk ha] at hb'
        have hb2 := rd_same hc.seq hb
        refine ⟨_, _, rfl, .inr ⟨_, key, _, hb2, rfl, hc.seq _ _ hb', rfl⟩, fun s hs => ?_, fun hn => ?_⟩
        · exact (kvs_val h3).1 s (by rw [valG_map]; exact hs)
        · exact (kvs_val h3).2 (by rw [valG_map]; exact hn)
end
end Sx
namespace Sx
open PySem PySem.Spec PyProof.Rows L2
section
variable {K : PySem.W.Frag} {ρ : List Sl} {L : Chs} {Φ : Pd} {te ta tb tc tl to : TE} {t u : TS} {D : En2} {r : R2} {tt tt2 : TT} {aa : TA}
theorem c_int1 {i : Int} (q : Φ (.dt (.int i)) L) : WC K (fun xs H Q => (∃ i, xs = [.int i] ∧ Q (.int i) H) ∨ ∃ k, xs = [.bl k] ∧ Q (.int (if k then 1 else 0)) H) [.dt (.int i)] L Φ := by
  intro Fr B H Q vs hc rs k
  cases rs with
  | cons a b => cases b; cases a; exact .inl ⟨i, rfl, k _ L _ B H q (Le.refl B) hc (.int i)⟩
theorem c_intB {b : Bool} (q : Φ (.dt (.int (if b then 1 else 0))) L) : WC K (fun xs H Q => (∃ i, xs = [.int i] ∧ Q (.int i) H) ∨ ∃ k, xs = [.bl k] ∧ Q (.int (if k then 1 else 0)) H) [.dt (.bl b)] L Φ := by
  intro Fr B H Q vs hc rs k
  cases rs with
  | cons a c => cases c; cases a; exact .inr ⟨b, rfl, k _ L _ B H q (Le.refl B) hc (.int _)⟩
theorem c_abs {i : Int} (q : Φ (.dt (.int (if i < 0 then -i else i))) L) : WC K (fun xs H Q => ∃ i, xs = [.int i] ∧ Q (.int (if i < 0 then -i else i)) H) [.dt (.int i)] L Φ := by
  intro Fr B H Q vs hc rs k
  cases rs with
  | cons a b => cases b; cases a; exact ⟨i, rfl, k _ L _ B H q (Le.refl B) hc (.int _)⟩
theorem c_ii {f : Int → Int → Int} {i j : Int} (q : Φ (.dt (.int (f i j))) L) : WC K (fun xs H Q => ∃ i j, xs = [.int i, .int j] ∧ Q (.int (f i j)) H) [.dt (.int i), .dt (.int j)] L Φ := by
  intro Fr B H Q vs hc rs k
  cases rs with
  | cons a b =>
    cases a
    cases b with
    | cons a b => cases b; cases a; exact ⟨i, j, rfl, k _ L _ B H q (Le.refl B) hc (.int _)⟩
theorem c_lenS {z : Str} (hz : z.length ≤ 1000000) (q : Φ (.dt (.int (z.length : Int))) L) : WC K (fun xs H Q => ∃ z, xs = [.str z] ∧ z.length ≤ sizeLine ∧ Q (.int z.length) H) [.dt (.str z)] L Φ := by
  intro Fr B H Q vs hc rs k
  cases rs with
  | cons a b => cases b; cases a; exact ⟨z, rfl, sz hz, k _ L _ B H q (Le.refl B) hc (.int _)⟩
theorem c_lenL {ds : List Dt} (q : Φ (.dt (.int (ds.length : Int))) L) : WC K (fun xs H Q => ∃ p ys, xs = [.ref p] ∧ (SqL K H p ys ∨ SqT K H p ys) ∧ Q (.int ys.length) H) [.dt (.lst ds)] L Φ := by
  intro Fr B H Q vs hc rs k
  cases rs with
  | cons a b =>
    cases b
    cases a with
    | lst hb ha => exact ⟨_, _, rfl, .inl (SqL.of (hc.seq _ _ hb)), by rw [ha.len]; exact k _ L _ B H q (Le.refl B) hc (.int _)⟩
theorem c_lenT {ds : List Dt} (q : Φ (.dt (.int (ds.length : Int))) L) : WC K (fun xs H Q => ∃ p ys, xs = [.ref p] ∧ (SqL K H p ys ∨ SqT K H p ys) ∧ Q (.int ys.length) H) [.dt (.tup ds)] L Φ := by
  intro Fr B H Q vs hc rs k
  cases rs with
  | cons a b =>
    cases b
    cases a with
    | tup hb ha => exact ⟨_, _, rfl, .inr (SqT.of (hc.seq _ _ hb)), by rw [ha.len]; exact k _ L _ B H q (Le.refl B) hc (.int _)⟩
theorem c_lenScr {ns : List Int} (q : Φ (.dt (.int (ns.length : Int))) L) : WC K (fun xs H Q => ∃ p ys, xs = [.ref p] ∧ (SqL K H p ys ∨ SqT K H p ys) ∧ Q (.int ys.length) H) [.dt (.scr ns)] L Φ := by
  intro Fr B H Q vs hc rs k
  cases rs with
  | cons a b =>
    cases b
    cases a with
    | scr hb => exact ⟨_, _, rfl, .inl (hc.seq.seq hb), by rw [List.length_map]; exact k _ L _ B H q (Le.refl B) hc (.int _)⟩
theorem c_listL {ds : List Dt} (q : Φ (.dt (.lst ds)) L) : WC K (fun xs H Q => ∃ p ys, xs = [.ref p] ∧ (SqL K H p ys ∨ SqT K H p ys) ∧ ∀ l, H l = none → Q (.ref l) (upd H l (.lst ys))) [.dt (.lst ds)] L Φ := by
  intro Fr B H Q vs hc rs k
  cases rs with
  | cons a b =>
    cases b
    cases a with
    | lst hb ha =>
      refine ⟨_, _, rfl, .inl (SqL.of (hc.seq _ _ hb)), fun l hl => ?_⟩
      obtain ⟨s2, hc2⟩ := hc.fix hl (.lst _)
      exact k _ L _ _ _ q s2 hc2 (.lst upd_same (RpA.mono s2 ha))
theorem c_listT {ds : List Dt} (q : Φ (.dt (.lst ds)) L) : WC K (fun xs H Q => ∃ p ys, xs = [.ref p] ∧ (SqL K H p ys ∨ SqT K H p ys) ∧ ∀ l, H l = none → Q (.ref l) (upd H l (.lst ys))) [.dt (.tup ds)] L Φ := by
  intro Fr B H Q vs hc rs k
  cases rs with
  | cons a b =>
    cases b
    cases a with
    | tup hb ha =>
      refine ⟨_, _, rfl, .inr (SqT.of (hc.seq _ _ hb)), fun l hl => ?_⟩
      obtain ⟨s2, hc2⟩ := hc.fix hl (.lst _)
      exact k _ L _ _ _ q s2 hc2 (.lst upd_same (RpA.mono s2 ha))
theorem c_tupL {ds : List Dt} (q : Φ (.dt (.tup ds)) L) : WC K (fun xs H Q => ∃ p ys, xs = [.ref p] ∧ ((SqL K H p ys ∧ ∀ l, H l = none → Q (.ref l) (upd H l (.tup ys))) ∨ (SqT K H p ys ∧ Q (.ref p) H))) [.dt (.lst ds)] L Φ := by
  intro Fr B H Q vs hc rs k
  cases rs with
  | cons a b =>
    cases b
    cases a with
    | lst hb ha =>
      refine ⟨_, _, rfl, .inl ⟨SqL.of (hc.seq _ _ hb), fun l hl => ?_⟩⟩
      obtain ⟨s2, hc2⟩ := hc.fix hl (.tup _)
      exact k _ L _ _ _ q s2 hc2 (.tup upd_same (RpA.mono s2 ha))
theorem rpa_ints {B : Hp} : ∀ {ns : List Int} {vs : List V}, RpA K B vs (ns.map .int) → vs = ns.map V.int
  | [], _, h => by cases h; rfl
  | n :: ns, _, h => by
    cases h with
    | cons a b => cases a; rw [rpa_ints b]; rfl
theorem rpa_strs {B : Hp} : ∀ {ns : List Str} {vs : List V}, RpA K B vs (ns.map .str) → vs = ns.map V.str
  | [], _, h => by cases h; rfl
  | n :: ns, _, h => by
    cases h with
    | cons a b => cases a; rw [rpa_strs b]; rfl
theorem ints_rpa {B : Hp} : ∀ ns : List Int, RpA K B (ns.map V.int) (ns.map .int)
  | [] => .nil
  | n :: ns => .cons (.int n) (ints_rpa ns)
theorem one_strs {B H : Hp} {ns : List Str} {vs : List V} (s : Same B H) (h : Paired (SlR K B) [.dt (.lst (ns.map .str))] vs) : ∃ a, vs = [V.ref a] ∧ SqL K H a (ns.map V.str) := by
  cases h with
  | cons a b =>
    cases b
    cases a with
    | lst hb ha =>
      rw [rpa_strs ha] at hb
      exact ⟨_, rfl, SqL.of (s _ _ hb)⟩
theorem inV_str (z : Str) : ∀ zs : List Str, inV (.str z) (zs.map V.str) = decide (z ∈ zs)
  | [] => by simp [inV]
  | w :: ws => by
    have ih := inV_str z ws
    unfold inV at ih ⊢
    rw [List.map_cons, List.any_cons, ih]
    show ((w == z) || decide (z ∈ ws)) = decide (z ∈ w :: ws)
    by_cases e : w = z
    · subst e; simp
    · have e2 : (w == z) = false := by simpa using e
      rw [e2, Bool.false_or]
      refine dec_iff ⟨fun h => List.mem_cons_of_mem _ h, fun h => ?_⟩
      rcases List.mem_cons.mp h with h | h
      · exact absurd h.symm e
      · exact h
theorem inV_int (z : Int) : ∀ zs : List Int, inV (.int z) (zs.map V.int) = decide (z ∈ zs)
  | [] => by simp [inV]
  | w :: ws => by
    have ih := inV_int z ws
    unfold inV at ih ⊢
    rw [List.map_cons, List.any_cons, ih]
    show ((w == z) || decide (z ∈ ws)) = decide (z ∈ w :: ws)
    by_cases e : w = z
    · subst e; simp
    · have e2 : (w == z) = false := by simpa using e
      rw [e2, Bool.false_or]
      refine dec_iff ⟨fun h => List.mem_cons_of_mem _ h, fun h => ?_⟩
      rcases List.mem_cons.mp h with h | h
      · exact absurd h.symm e
      · exact h
theorem r_inStr {neg : Bool} {z : Str} {zs : List Str} (q : Φ (.dt (.bl (if neg then !decide (z ∈ zs) else decide (z ∈ zs)))) L) : WR K (rIn K neg) (.dt (.str z)) (.dt (.lst (zs.map .str))) L Φ := by
  intro Fr B H Q v u hc rx ry k
  obtain ⟨a, e, hs⟩ := one_strs (ns := zs) (vs := [u]) hc.seq (.cons ry .nil)
  cases e
  cases rx
  refine ⟨a, _, rfl, .inl hs, rfl, by rw [List.all_map]; exact List.all_eq_true.mpr fun _ _ => rfl, ?_⟩
  rw [inV_str]
  exact k _ L _ B H q (Le.refl B) hc (.bl _)
theorem r_cat {ds es : List Dt} (hl : ds.length + es.length ≤ 1000000) (q : Φ (.dt (.lst (ds ++ es))) L) : WR K rCat (.dt (.lst ds)) (.dt (.lst es)) L Φ := by
  intro Fr B H Q v u hc rx ry k
  cases rx with
  | lst hb ha =>
    cases ry with
    | lst hb2 ha2 =>
      refine ⟨_, _, _, _, rfl, rfl, hc.seq _ _ hb, hc.seq _ _ hb2, sz (by rw [ha.len, ha2.len]; exact hl), fun p hp => ?_⟩
      obtain ⟨s2, hc2⟩ := hc.fix hp (.lst _)
      exact k _ L _ _ _ q s2 hc2 (.lst upd_same (RpA.mono s2 (RpA.of (papp ha.paired ha2.paired))))
def WL (K : PySem.W.Frag) (r : V → Option Int → Option Int → Hp → VK → Prop) (x : Sl) (lo hi : Option Int) (L : Chs) (Φ : Pd) : Prop :=
  ∀ (Fr : List (Addr × HO)) (B : Hp) (H : Hp) (Q : VK) (v : V), Hc K B L Fr H → SlR K B x v → (∀ r L' v B' H', Φ r L' → Le B B' → Hc K B' L' Fr H' → SlR K B' r v → Q v H') → r v lo hi H Q
def cutG {α : Type} (xs : List α) (lo hi : Option Int) : List α := (xs.drop (HT.sIx xs.length 0 lo)).take (HT.sIx xs.length xs.length hi - HT.sIx xs.length 0 lo)
theorem cut_rel {α β : Type} {F : α → β → Prop} {l : List α} {m : List β} (h : Paired F l m) (lo hi : Option Int) : Paired F (cutG l lo hi) (cutG m lo hi) := by
  unfold cutG
  rw [h.length]
  exact ptake _ (pdrop _ h)
theorem l_list {ds : List Dt} {lo hi : Option Int} (q : Φ (.dt (.lst (cutG ds lo hi))) L) : WL K (rSlL K) (.dt (.lst ds)) lo hi L Φ := by
  intro Fr B H Q v hc rx k
  cases rx with
  | lst hb ha =>
    refine ⟨_, _, rfl, SqL.of (hc.seq _ _ hb), fun p hp => ?_⟩
    obtain ⟨s2, hc2⟩ := hc.fix hp (.lst (cutV _ lo hi))
    exact k _ L _ _ _ q s2 hc2 (.lst upd_same (RpA.mono s2 (RpA.of (cut_rel ha.paired lo hi))))
theorem l_scr {ns : List Int} {lo hi : Option Int} (q : Φ (.dt (.lst ((cutG ns lo hi).map .int))) L) : WL K (rSlL K) (.dt (.scr ns)) lo hi L Φ := by
  intro Fr B H Q v hc rx k
  cases rx with
  | scr hb =>
    refine ⟨_, _, rfl, hc.seq.seq hb, fun p hp => ?_⟩
    have e : cutV (ns.map V.int) lo hi = (cutG ns lo hi).map V.int := by
      show cutG (ns.map V.int) lo hi = _
      unfold cutG
      rw [List.length_map, List.map_take, List.map_drop]
    rw [e]
    obtain ⟨s2, hc2⟩ := hc.fix hp (.lst ((cutG ns lo hi).map V.int))
    exact k _ L _ _ _ q s2 hc2 (.lst upd_same (ints_rpa _))
end
end Sx
namespace Sx
open PySem PySem.Spec PyProof.Rows L2
/-- a def of the text that the module's name x holds -/
def Df (K : PySem.W.Frag) (mg : Str → Option Value) (x : Str) (st : Stmt) : Prop := ∃ f fd, FunD K x x (defArgs st) (defBody st) (defScope st) [] [] f fd ∧ mg x = some (.ref f)
def KI (K : PySem.W.Frag) (f : Addr) (fd : FuncData) : Prop := PySem.W.keepIn K (.ref f) = true ∧ ∃ oc od osl, K.lookup f = some ⟨oc, od, .func fd, osl⟩
/-- .. and what it promises -/
def Kp (P : Program) (w : World) (K : PySem.W.Frag) (mg : Str → Option Value) (base : Heap) (k : Nat) (x : Str) (ps : List Str) (F : List Sl → Chs → Pd → Prop) : Prop :=
  ∃ f fd, mg x = some (.ref f) ∧ KI K f fd ∧ Binds K fd ps [] ∧ FnOk P w K mg base CX0 k f fd ps (SpD K F)
theorem FunD.ki {K : PySem.W.Frag} {x qual : Str} {params : Arguments} {body : List Stmt} {scope : Scope} {dvs : List V} {kws : List (Str × V)} {f : Addr} {fd : FuncData} (F : FunD K x qual params body scope dvs kws f fd) : KI K f fd := by
  obtain ⟨oc, od, dV, kV, doc, pm, an, cdv, ct, osl, rfl, lk, _, _, _⟩ := F.ex
  exact ⟨F.kp, oc, od, osl, lk⟩
theorem KI.same {K : PySem.W.Frag} {f : Addr} {fd fd' : FuncData} (a : KI K f fd) (b : KI K f fd') : fd = fd' := by
  obtain ⟨_, _, _, _, h1⟩ := a
  obtain ⟨_, _, _, _, h2⟩ := b
  rw [h1] at h2
  injection h2 with h3
  injection h3 with _ _ h4 _
  injection h4
section
variable {P : Program} {w : World} {K : PySem.W.Frag} {mg : Str → Option Value} {base : Heap} {k : Nat} {x : Str} {ps N : List Str} {F : List Sl → Chs → Pd → Prop} {st : Stmt}
theorem Kp.mono {j : Nat} (G : Kp P w K mg base j x ps F) (h : j ≤ k) : Kp P w K mg base k x ps F := by
  obtain ⟨f, fd, a, b, c, d⟩ := G
  exact ⟨f, fd, a, b, c, d.mono h⟩
theorem Kp.imp {F' : List Sl → Chs → Pd → Prop} (G : Kp P w K mg base k x ps F) (h : ∀ ss L Φ, F' ss L Φ → F ss L Φ) : Kp P w K mg base k x ps F' := by
  obtain ⟨f, fd, a, b, c, d⟩ := G
  exact ⟨f, fd, a, b, c, d.imp fun vs H Q E ⟨B, Fr, ss, L, Φ, r, hc, hF, kk⟩ => ⟨B, Fr, ss, L, Φ, r, hc, h _ _ _ hF, kk⟩⟩
end
section
variable {K : PySem.W.Frag} {ρ : List Sl} {L : Chs} {Φ : Pd} {te ta tb tc tl to : TE} {t u : TS} {D : En2} {r : R2} {tt tt2 : TT} {aa kk : TA}
mutual
/-- without dicts and objects -/
def toP : Dt → Option PyData
  | .non => some .none
  | .bl b => some (.bool b)
  | .int i => some (.int i)
  | .str x => some (.str x)
  | .lst ds => (toPs ds).map .list
  | .tup ds => (toPs ds).map .tuple
  | _ => none
def toPs : List Dt → Option (List PyData)
  | [] => some []
  | d :: ds => match toP d, toPs ds with
    | some a, some b => some (a :: b)
    | _, _ => none
end
mutual
theorem rp_dp {B H : Hp} (s : Same B H) : ∀ {d : Dt} {v : V} {e : PyData}, toP d = some e → Rp K B v d → Dp K H v e
  | .non, _, _, h, r => by cases h; cases r; exact .non
  | .bl b, _, _, h, r => by cases h; cases r; exact .bl b
  | .int i, _, _, h, r => by cases h; cases r; exact .int i
  | .str x, _, _, h, r => by cases h; cases r; exact .str x
  | .lst ds, _, e, h, r => by
    unfold toP at h
    cases q : toPs ds with
    | none => rw [q] at h; cases h
    | some es =>
      rw [q] at h
      cases h
      cases r with
      | lst hb ha => exact .lst (SqL.of (s _ _ hb)) (rp_dpA s q ha)
  | .tup ds, _, e, h, r => by
    unfold toP at h
    cases q : toPs ds with
    | none => rw [q] at h; cases h
    | some es =>
      rw [q] at h
      cases h
      cases r with
      | tup hb ha => exact .tup (SqT.of (s _ _ hb)) (rp_dpA s q ha)
  | .dic _, _, _, h, _ => by cases h
  | .dit _, _, _, h, _ => by cases h
  | .ins _ _, _, _, h, _ => by cases h
  | .scr _, _, _, h, _ => by cases h
  | .ty _, _, _, h, _ => by cases h
  | .exn _ _ _ _, _, _, h, _ => by cases h
  | .wk _, _, _, h, _ => by cases h
  | .dx _ _ _, _, _, h, _ => by cases h
theorem rp_dpA {B H : Hp} (s : Same B H) : ∀ {ds : List Dt} {vs : List V} {es : List PyData}, toPs ds = some es → RpA K B vs ds → DpAll K H vs es
  | [], _, _, h, r => by cases h; cases r; exact .nil
  | d :: ds, _, es, h, r => by
    unfold toPs at h
    cases q : toP d with
    | none => rw [q] at h; cases h
    | some e1 =>
      rw [q] at h
      cases q2 : toPs ds with
      | none => rw [q2] at h; cases h
      | some e2 =>
        rw [q2] at h
        cases h
        cases r with
        | cons a b => exact .cons (rp_dp s q a) (rp_dpA s q2 b)
end
def tyD : Dt → Option String
  | .non => some "NoneType"
  | .bl _ => some "bool"
  | .int _ => some "int"
  | .str _ => some "str"
  | .lst _ => some "list"
  | .tup _ => some "tuple"
  | .dic _ => some "dict"
  | .scr _ => none
  | _ => none
theorem tyD_ok {B H : Hp} {d : Dt} {v : V} {n : String} (s : Same B H) (h : tyD d = some n) (r : Rp K B v d) : TyX K H v (.type n) := by
  cases r with
  | non => cases h; exact .base .non
  | bl b => cases h; exact .base (.bl b)
  | int i => cases h; exact .base (.int i)
  | str x => cases h; exact .base (.str x)
  | lst hb ha => cases h; exact .base (.lst (s _ _ hb))
  | tup hb ha => cases h; exact .base (.tup (s _ _ hb))
  | dic hb _ _ =>
    cases h
    rcases hb with hb | ⟨ob, hb⟩
    · exact .base (.dK (s _ _ hb))
    · exact .fDict (s _ _ hb)
  | dit _ _ _ => cases h
  | ins _ _ _ => cases h
  | scr _ => cases h
  | ty _ => cases h
  | exn _ _ _ => cases h
  | wk _ => cases h
  | dx _ _ _ _ _ => cases h
end
end Sx
namespace Sx
open PySem PySem.Spec PyProof.Rows L2
end Sx
namespace Sx
end Sx
namespace Sx
open PySem PySem.Spec PyProof.Rows L2
end Sx
namespace Sx
open PySem PySem.Spec PyProof.Rows L2
end Sx
namespace Sx
end Sx
namespace Sx
open PySem PySem.Spec PyProof.Rows L2
end Sx
namespace Sx
open PySem PySem.Spec PyProof.Rows L2
theorem nle {a b : Nat} (h : Nat.ble a b = true) : a ≤ b := Nat.le_of_ble_eq_true h
theorem atL {α : Type} {l : List α} {i : Int} (h0 : 0 ≤ i) (h : i < l.length) : ∃ c, atI l i = some c ∧ l[i.toNat]? = some c := by
  have hl : i.toNat < l.length := by omega
  refine ⟨l[i.toNat], ?_, List.getElem?_eq_getElem hl⟩
  unfold atI ixN
  rw [if_pos h0, if_pos h]
  show l[i.toNat]? = _
  exact List.getElem?_eq_getElem hl
end Sx
namespace Sx
open PySem PySem.Spec PyProof.Rows L2
section
variable {X : Cx} (K : PySem.W.Frag) {P : Program} {w : World} {mg : Str → Option Value} {base : Heap}
theorem kx_list (hK : X.K = K := by rfl) : IxR X (rIxL K) := by subst hK; exact ix_list
theorem kx_tup (hK : X.K = K := by rfl) : IxR X (rIxT K) := by subst hK; exact ix_tup
theorem ks_list (hK : X.K = K := by rfl) : L2.SlR X (rSlL K) := by subst hK; exact sl_list
theorem k_len (hK : X.K = K := by rfl) : CallR X (.builtin "len") (fun xs H Q => ∃ p ys, xs = [.ref p] ∧ (SqL K H p ys ∨ SqT K H p ys) ∧ Q (.int ys.length) H) := by subst hK; exact call_len_seq
theorem k_list (hK : X.K = K := by rfl) : CallR X (.type "list") (fun xs H Q => ∃ p ys, xs = [.ref p] ∧ (SqL K H p ys ∨ SqT K H p ys) ∧ ∀ l, H l = none → Q (.ref l) (upd H l (.lst ys))) := by subst hK; exact call_list_of
theorem k_tuple (hK : X.K = K := by rfl) : CallR X (.type "tuple") (fun xs H Q => ∃ p ys, xs = [.ref p] ∧ ((SqL K H p ys ∧ ∀ l, H l = none → Q (.ref l) (upd H l (.tup ys))) ∨ (SqT K H p ys ∧ Q (.ref p) H))) := by subst hK; exact call_tuple_of
theorem k_isi (hK : X.K = K := by rfl) : CallR X (.builtin "isinstance") (rIsi K) := by subst hK; exact call_isi
theorem k_in (hK : X.K = K := by rfl) : OpR X (compareOp .In) (rIn K false) := by subst hK; exact op_in_seq
theorem k_notIn (hK : X.K = K := by rfl) : OpR X (compareOp .NotIn) (rIn K true) := by subst hK; exact op_notIn_seq
end
section
variable {X : Cx} (K : PySem.W.Frag) {l e o e2 tg : Expr} {tl te to : TE} {t : TA} {es : List Expr} {T id : String} {name : Str} {r : V → List V → Hp → VK → Prop} {p pos apos cpos tpos : Pos} {ta : TA} {elts : List Expr} {kk : Nat}
theorem ki_list (hl : PE X l tl) (hK : X.K = K := by rfl) : PI X tg l (iList K tl) := by subst hK; exact pi_list hl
theorem ki_enum (hg : Gl X "enumerate") (hm : X.mg "enumerate" = none) (ha : PA X [e] ta) (hs : starEach [e] X.env = [(false, eval e X.env)] := by rfl) (hK : X.K = K := by rfl) : PI X (.Tuple elts kk tpos) (.Call (.Name "enumerate" p) [e] [] pos) (iEnum K ta) := by
  subst hK; exact pi_enum hg hm ha hs
theorem k_bm (pa : PlainAttrs T) (slot : Slot T name id) (hty : typeOf (.builtin id) = pure (.type "method_descriptor")) (hm : MtR X id r) (ho : PE X o to) (ha : PA X (e :: es) t)
    (hbase : attributeBase o name X.env (eval o X.env) = eval o X.env := by rfl)
    (hfew : ((backTo cpos (starEach (e :: es) X.env)).all (fun x => !x.1) && (backToKw cpos (keywordEach [] X.env)).all (fun x => x.1.isSome)
      && decide ((e :: es).length + ([] : List Keyword).length + (if ([] : List Keyword).isEmpty then 0 else 1) < 30)) = true := by rfl)
    (hline : (apos.endLine == cpos.line) = true := by rfl)
    (hs : starEach (e :: es) X.env = (false, eval e X.env) :: starEach es X.env := by rfl) (hplain : (backTo cpos (starEach es X.env)).any (·.1) = false := by rfl) (hK : X.K = K := by rfl) :
    PE X (.Call (.Attribute o name apos) (e :: es) [] cpos) (tBM K T r to t) := by
  subst hK; exact pe_bm pa slot hty hm ho ha hbase hfew hline hs hplain
theorem kg_tup {n : Nat} {ts : TGs} (hc : X.calm = true) (h : PGs X es ts) (hn : (assignEach es X.env).length = n := by rfl) (hst : (assignEach es X.env).findIdx? (·.1) = none := by rfl) (hK : X.K = K := by rfl) : PG X (.Tuple es kk pos) (gTup K n ts) := by
  subst hK; exact pg_tup hc h hn hst
end
end Sx
namespace Sx
end Sx
namespace Sx
open PySem PySem.Spec PyProof.Rows L2
theorem pig {α : Type} [BEq α] [LawfulBEq α] : ∀ (xs ys : List α), xs.Nodup → (∀ x ∈ xs, x ∈ ys) → xs.length ≤ ys.length
  | [], _, _, _ => Nat.zero_le _
  | x :: xs, ys, nd, h => by
    have nd := List.nodup_cons.mp nd
    have hx := h x List.mem_cons_self
    have ih := pig xs (ys.erase x) nd.2 fun y hy => (List.mem_erase_of_ne (fun e : y = x => nd.1 (by rw [← e]; exact hy))).mpr (h y (List.mem_cons_of_mem x hy))
    rw [List.length_erase_of_mem hx] at ih
    have : 0 < ys.length := List.length_pos_of_mem hx
    rw [List.length_cons]
    omega
theorem spare_left {α : Type} [BEq α] [LawfulBEq α] {xs ys : List α} (nd : xs.Nodup) (h : ys.length < xs.length) : ∃ x ∈ xs, x ∉ ys := by
  apply Classical.byContradiction
  intro c
  have := pig xs ys nd fun x hx => Classical.byContradiction fun n => c ⟨x, hx, n⟩
  omega
theorem len_of_mem_filter {α : Type} {f : α → Bool} {l : List α} {x : α} (h : x ∈ l) (hf : f x = true) : 0 < (l.filter f).length := List.length_pos_of_mem (List.mem_filter.mpr ⟨h, hf⟩)
theorem str_app_len (a b : Str) : (a ++ b).length = a.length + b.length := by
  show (a.cps ++ b.cps).size = _
  exact Array.size_append
end Sx
namespace Sx
open PySem PySem.Spec PyProof.Rows L2
end Sx
namespace Sx
open PySem PySem.Spec PyProof.Rows L2
theorem atI_map {α β : Type} (f : α → β) {l : List α} {i : Int} {x : α} (h : atI l i = some x) : atI (l.map f) i = some (f x) := by
  unfold atI at h ⊢
  rw [List.length_map]
  cases q : ixN l.length i with
  | none => rw [q] at h; cases h
  | some j =>
    rw [q] at h
    have h : l[j]? = some x := h
    show (l.map f)[j]? = some (f x)
    rw [List.getElem?_map, h]; rfl
theorem atI_mem {α : Type} {l : List α} {i : Int} {x : α} (h : atI l i = some x) : x ∈ l := by
  unfold atI at h
  cases q : ixN l.length i with
  | none => rw [q] at h; cases h
  | some j => rw [q] at h; exact List.mem_of_getElem? h
abbrev sS (x : Str) : Sl := .dt (.str x)
end Sx
namespace Sx
open PySem PySem.Spec PyProof.Rows L2
end Sx
namespace Sx
open PySem PySem.Spec PyProof.Rows L2
def rEqP (K : PySem.W.Frag) : R2 := fun x y H Q => ∃ d e : PyData, Dp K H x d ∧ Dp K H y e ∧ PyData.plain d = true ∧ PyData.plain e = true ∧ d.depth ≤ 150 ∧ Q (.bl (PyData.eqv d e)) H
def rNeP (K : PySem.W.Frag) : R2 := fun x y H Q => ∃ d e : PyData, Dp K H x d ∧ Dp K H y e ∧ PyData.plain d = true ∧ PyData.plain e = true ∧ d.depth ≤ 150 ∧ Q (.bl (!PyData.eqv d e)) H
section
variable {X : Cx} (K : PySem.W.Frag) {k : Nat}
theorem k_eqP (hr : Room k X.A) (hK : X.K = K := by rfl) : OpR X (compareOp .Eq) (rEqP K) := by
  subst hK
  intro pins s σ H x y v u Q I rx ry h
  obtain ⟨d, e, hd, he, pd, pe, dd, q⟩ := h
  obtain ⟨as, r1⟩ := Dp.reads I d x v hd rx
  obtain ⟨bs, r2⟩ := Dp.reads I e y u he ry
  have un := hr.un
  have m : min d.depth e.depth ≤ d.depth := Nat.min_le_left _ _
  exact SeqAt.eq_plain r1 r2 pd pe (by omega) ⟨.bl _, H, I, rfl, q⟩
theorem k_neP (hr : Room k X.A) (hK : X.K = K := by rfl) : OpR X (compareOp .NotEq) (rNeP K) := by
  subst hK
  intro pins s σ H x y v u Q I rx ry h
  obtain ⟨d, e, hd, he, pd, pe, dd, q⟩ := h
  obtain ⟨as, r1⟩ := Dp.reads I d x v hd rx
  obtain ⟨bs, r2⟩ := Dp.reads I e y u he ry
  have un := hr.un
  have m : min d.depth e.depth ≤ d.depth := Nat.min_le_left _ _
  exact SeqAt.ne_plain r1 r2 pd pe (by omega) ⟨.bl _, H, I, rfl, q⟩
end
mutual
theorem toP_plain : ∀ {d : Dt} {p : PyData}, toP d = some p → PyData.plain p = true
  | .non, _, h => by cases h; rfl
  | .bl _, _, h => by cases h; rfl
  | .int _, _, h => by cases h; rfl
  | .str _, _, h => by cases h; rfl
  | .lst ds, _, h => by
    unfold toP at h
    cases q : toPs ds with
    | none => rw [q] at h; cases h
    | some es => rw [q] at h; cases h; rw [PyData.plain]; exact toPs_plain q
  | .tup ds, _, h => by
    unfold toP at h
    cases q : toPs ds with
    | none => rw [q] at h; cases h
    | some es => rw [q] at h; cases h; rw [PyData.plain]; exact toPs_plain q
  | .dic _, _, h => by cases h
  | .dit _, _, h => by cases h
  | .ins _ _, _, h => by cases h
  | .scr _, _, h => by cases h
  | .ty _, _, h => by cases h
  | .exn _ _ _ _, _, h => by cases h
  | .wk _, _, h => by cases h
  | .dx _ _ _, _, h => by cases h
theorem toPs_plain : ∀ {ds : List Dt} {ps : List PyData}, toPs ds = some ps → PyData.plainAll ps = true
  | [], _, h => by cases h; rfl
  | d :: ds, _, h => by
    unfold toPs at h
    cases q : toP d with
    | none => rw [q] at h; cases h
    | some a =>
      rw [q] at h
      cases q2 : toPs ds with
      | none => rw [q2] at h; cases h
      | some b =>
        rw [q2] at h
        cases h
        rw [PyData.plainAll, toP_plain q, toPs_plain q2]; rfl
end
section
variable {K : PySem.W.Frag} {ρ : List Sl} {L : Chs} {Φ : Pd}
theorem r_eqP {d e : Dt} {a b : PyData} (h1 : toP d = some a) (h2 : toP e = some b) (hd : a.depth ≤ 150) (q : Φ (.dt (.bl (PyData.eqv a b))) L) : WR K (rEqP K) (.dt d) (.dt e) L Φ := by
  intro Fr B H Q v u hc rx ry k
  exact ⟨a, b, rp_dp hc.seq h1 rx, rp_dp hc.seq h2 ry, toP_plain h1, toP_plain h2, hd, k _ L _ B H q (Le.refl B) hc (.bl _)⟩
theorem r_neP {d e : Dt} {a b : PyData} (h1 : toP d = some a) (h2 : toP e = some b) (hd : a.depth ≤ 150) (q : Φ (.dt (.bl (!PyData.eqv a b))) L) : WR K (rNeP K) (.dt d) (.dt e) L Φ := by
  intro Fr B H Q v u hc rx ry k
  exact ⟨a, b, rp_dp hc.seq h1 rx, rp_dp hc.seq h2 ry, toP_plain h1, toP_plain h2, hd, k _ L _ B H q (Le.refl B) hc (.bl _)⟩
end
end Sx
namespace Sx
open PySem PySem.Spec PyProof.Rows L2
theorem cutG_map {α β : Type} (f : α → β) (l : List α) (lo hi : Option Int) : cutG (l.map f) lo hi = (cutG l lo hi).map f := by
  unfold cutG
  rw [List.length_map, List.map_take, List.map_drop]
theorem cutG_mem {α : Type} {l : List α} {lo hi : Option Int} {x : α} (h : x ∈ cutG l lo hi) : x ∈ l := List.mem_of_mem_drop (List.mem_of_mem_take h)
theorem cutG_len {α : Type} (l : List α) (lo hi : Option Int) : (cutG l lo hi).length ≤ l.length := by
  unfold cutG
  rw [List.length_take, List.length_drop]
  omega
end Sx
namespace Sx
open PySem PySem.Spec PyProof.Rows L2
end Sx
namespace Sx
open PySem PySem.Spec PyProof.Rows L2
end Sx
namespace Sx
open PySem PySem.Spec PyProof.Rows L2
section
variable {K : PySem.W.Frag} {ρ : List Sl} {L : Chs} {gs : TGs} {vs : List Nat} {a b c : Dt} {N : List Sl → Chs → Prop}
theorem filter_tt {α : Type} (l : List α) : l.filter (fun _ => true) = l := List.filter_eq_self.mpr fun _ _ => rfl
end
end Sx
namespace Sx
open PySem PySem.Spec PyProof.Rows L2
end Sx
namespace Sx
open PySem PySem.Spec PyProof.Rows L2
end Sx
namespace Sx
open PySem PySem.Spec PyProof.Rows L2
end Sx
namespace Sx
open PySem PySem.Spec PyProof.Rows L2
/-- data without dicts, nested at most c deep -/
def Tp (c : Nat) (d : Dt) : Prop := ∃ p, toP d = some p ∧ p.depth ≤ c
theorem Tp.mono {c e : Nat} {d : Dt} (h : Tp c d) (l : c ≤ e) : Tp e d := by
  obtain ⟨p, a, b⟩ := h
  exact ⟨p, a, Nat.le_trans b l⟩
theorem all_map {α β : Type} {p : β → Prop} {f : α → β} {l : List α} (h : ∀ x ∈ l, p (f x)) : ∀ y ∈ l.map f, p y := fun y hy => by
  obtain ⟨x, hx, e⟩ := List.mem_map.mp hy
  rw [← e]; exact h x hx
end Sx
namespace Sx
end Sx
namespace Sx
open PySem PySem.Spec PyProof.Rows L2
def rRepS : R2 := fun x y H Q => ∃ (z : Str) (n : Int), x = .str z ∧ y = .int n ∧ (-(2 ^ 63) ≤ n ∧ n ≤ 1000) ∧ z.length ≤ 1000 ∧ Q (.str (Txt.mul z n)) H
theorem mulOk_small {z : Str} {n : Int} (h1 : n ≤ 1000) (h2 : z.length ≤ 1000) (h3 : -(2 ^ 63) ≤ n) : MulOk z n := by
  refine ⟨by simp only [Bool.or_eq_false_iff, decide_eq_false_iff_not]; omega, fun a _ => ?_, fun a _ => ?_⟩
  · have e : (2 ^ 63 - 1 : Int) / 1000 ≤ (2 ^ 63 - 1) / n := by
      refine Int.le_ediv_of_mul_le (by omega) ?_
      have : (2 ^ 63 - 1 : Int) / 1000 * n ≤ (2 ^ 63 - 1 : Int) / 1000 * 1000 := Int.mul_le_mul_of_nonneg_left h1 (by decide)
      omega
    have e2 : (1000 : Int) ≤ (2 ^ 63 - 1 : Int) / 1000 := by decide
    omega
  · have : z.length * n.toNat ≤ 1000 * 1000 := Nat.mul_le_mul h2 (by omega)
    unfold Builtin.Str.tooLong
    rw [sizeLine_eq]
    exact decide_eq_false (by omega)
theorem op_repS {X : Cx} : OpR X (binaryOp .Mult) rRepS := by
  intro pins s σ H x y v u Q I rx ry h
  obtain ⟨z, n, rfl, rfl, hn, hz, q⟩ := h
  obtain ⟨t, rfl⟩ := rx
  obtain ⟨t', rfl⟩ := ry
  exact SB.mul (mulOk_small hn.2 hz hn.1) fun t2 k => ⟨.str _, H, I.tok _, ⟨_, rfl⟩, q⟩
theorem txt_mul_len (z : Str) (n : Nat) : (Txt.mul z (n : Int)).length = z.length * n := by
  have h := len_mul z (n : Int)
  rw [decide_eq_false (by omega : ¬ (n : Int) < 0)] at h
  simp only [Bool.false_eq_true, if_false] at h
  rw [← Int.natCast_mul] at h
  exact Int.ofNat.inj h
section
variable {K : PySem.W.Frag} {ρ : List Sl} {L : Chs} {Φ : Pd}
theorem r_repS {z : Str} {n : Int} (h0 : 0 ≤ n) (h1 : n ≤ 1000) (h2 : z.length ≤ 1000) (q : Φ (.dt (.str (Txt.mul z n))) L) : WR K rRepS (.dt (.str z)) (.dt (.int n)) L Φ := by
  intro Fr B H Q v u hc rx ry k
  cases rx
  cases ry
  exact ⟨z, n, rfl, rfl, ⟨by omega, h1⟩, h2, k _ L _ B H q (Le.refl B) hc (.str _)⟩
end
def F_lawB : List Sl → Chs → Pd → Prop := fun ss L Φ => ∃ ns : List Int, ss = [.dt (.scr ns)] ∧ L = [] ∧ ns.length ≤ 63 ∧ (∀ n ∈ ns, ∃ a, a ≤ 1048576 ∧ n.natAbs < 2 ^ a) ∧ ∀ L', Φ (.dt (.bl true)) L'
theorem law_inB {K : PySem.W.Frag} {H : Hp} {a : Addr} {ns : List Int} {E : XK} (hl : ns.length ≤ 63) (hb : ∀ n ∈ ns, Builtin.Int.intBits n ≤ 1048576) (hS : SqL K H a (ns.map V.int)) : SpD K F_lawB [.ref a] H (fun v _ => v = .bl true) E :=
  ⟨H, [], [.dt (.scr ns)], [], fun r _ => r = .dt (.bl true), .cons (.scr hS) .nil, ⟨[], .nil, Hd.base H⟩, ⟨ns, rfl, rfl, hl, fun n hn => ⟨_, hb n hn, PyProof.Rows.natAbs_lt_pow_bits n⟩, fun _ => rfl⟩, fun r L' v B' H' e _ _ rv => by subst e; cases rv; rfl⟩
end Sx
namespace Sx
open PySem PySem.Spec PyProof.Rows L2
/-- the head's walk, with the script's bits -/
theorem walk_bits {l : PySem.W.OpenLaw} {n k : Nat} {q : Program} {loose : List Str} {XP : (Str → Option Value) → Heap → Prop} {YP : World → Heap → Prop} {d : DefRec} {CX : CXT} {x : Str}
    (hn : l.most = some n) (hn2 : n ≤ sizeLine) (hdf : d.params.defaults = []) (hr : Room k callerA)
    (F : ∀ (w : World) (mg : Str → Option Value) (fa : Addr) (h : Heap), YP w h → h.Ns mainGlobals mg → mg d.name = some (.ref fa) →
      ∃ (K : PySem.W.Frag) (fd : FuncData) (sp : Sp), (K.In h ∧ ∀ (s : Shared) (u : Value), BindsTo s fd ⟨[u], []⟩ [(x, u)]) ∧
        (∀ (H : Hp) (a : Addr) (ns : List Int), ns.length ≤ n → (∀ z ∈ ns, Builtin.Int.intBits z ≤ 1048576) → SqL K H a (ns.map V.int) → sp [.ref a] H (fun v _ => v = .bl true) fun _ _ _ => False) ∧
        ∀ base : Heap, K.In base → base.Ns mainGlobals mg → FnOk l.prog w K mg base CX k fa fd [x] sp)
    (no : ∀ (H : Hp) (s : Shared) (e : Value) (s' : Shared), CX [] H s (fun _ _ _ => False) e s' → False) : PySem.W.WalkO q loose XP YP l.row.toRowW d [] (fun f vs => PySem.call f vs) :=
  Att.attach_callB hn hdf fun w s₀ s₁ mg mb fa o pm cd doc a vs ns G Y ho hd hcd hmg hobj hints hlen hbits hg => by
    obtain ⟨K, fd, sp, ⟨KX, hb⟩, hsp, hF⟩ := F w mg fa _ Y G.T.g hmg
    exact law_call KX G.T.g G.T.b G.T.builtins G.T.nolimit hg hobj hints (Nat.le_trans hlen hn2) hr hF hb (fun H _ hS => hsp H a ns hlen hbits hS) fun H e s' => no H s₁ e s'
end Sx
namespace Sx
open PySem PySem.Spec PyProof.Rows L2
theorem ixN_nn {n : Nat} {i : Int} (h0 : 0 ≤ i) (h : i < n) : ixN n i = some i.toNat := by
  unfold ixN
  rw [if_pos h0, if_pos h]
end Sx
namespace Sx
open PySem PySem.Spec PyProof.Rows L2
end Sx
namespace Sx
open PySem PySem.Spec PyProof.Rows L2
end Sx
namespace Sx
open PySem PySem.Spec PyProof.Rows L2
end Sx
namespace Sx
open PySem PySem.Spec PyProof.Rows L2
end Sx
namespace Sx
open PySem PySem.Spec PyProof.Rows L2
end Sx
namespace Sx
open PySem PySem.Spec PyProof.Rows L2
end Sx
namespace Vc
open PySem PySem.Spec PyProof.Rows L2 Sx
abbrev Fp := List (Addr × HO)
/-- av: an object whose address is told; hp: objects told by their addresses; with b no dict is among them -/
inductive Ot where
  | no | src | fz (d : Dt) | lst (os : List Ot) | tup (os : List Ot) | dic (ks : List Key) (os : List Ot) | dit (ks : List (List Key)) (os : List Ot) | ins (C : Addr) (ks : List Str) (os : List Ot) | hp (b : Bool) (a : Addr) (f : Fp) | av (v : V) (o : Ot) | dx (w : World) (ks : List Dt) (os : List Ot)
def hpOk (b : Bool) (f : Fp) : Prop := ∀ p ∈ f, (∀ fs, p.2 ≠ HO.xd fs) ∧ (b = true → ¬ isDict p.2)
mutual
inductive Ow (K : PySem.W.Frag) (B : Hp) (s : Option Addr) : Ot → V → Fp → Prop
  | src {a : Addr} : s = some a → Ow K B s .src (.ref a) []
  | fz {d : Dt} {v : V} : Rp K B v d → Ow K B s (.fz d) v []
  | lst {a : Addr} {os : List Ot} {vs : List V} {f : Fp} : OwA K B s os vs f → Ow K B s (.lst os) (.ref a) ((a, .lst vs) :: f)
  | tup {a : Addr} {os : List Ot} {vs : List V} {f : Fp} : OwA K B s os vs f → Ow K B s (.tup os) (.ref a) ((a, .tup vs) :: f)
  | dic {a : Addr} {ks : List Key} {os : List Ot} {vs : List V} {f : Fp} : ks.length = vs.length → OwA K B s os vs f → Ow K B s (.dic ks os) (.ref a) ((a, .dK (ks.zip vs)) :: f)
  | dit {a : Addr} {ks : List (List Key)} {os : List Ot} {vs : List V} {f : Fp} : ks.length = vs.length → OwA K B s os vs f → Ow K B s (.dit ks os) (.ref a) ((a, .dT (ks.zip vs)) :: f)
  | ins {a C dx : Addr} {ks : List Str} {os : List Ot} {vs : List V} {f : Fp} : ks.length = vs.length → OwA K B s os vs f → Ow K B s (.ins C ks os) (.ref a) ((a, .ins C dx (ks.zip vs)) :: f)
  | av {v : V} {o : Ot} {f : Fp} : Ow K B s o v f → Ow K B s (.av v o) v f
  | dx {a : Addr} {w : World} {es : List XEn} {ks : List Dt} {os : List Ot} {f : Fp} : RpA K B (es.map fun e => .ref e.2.1) ks → nkDs ks = some (es.map (·.1)) → (∀ e ∈ es, e.1.depth ≤ 8) → OwA K B s os (es.map (·.2.2)) f → Ow K B s (.dx w ks os) (.ref a) ((a, DxO w a es) :: f)
  | hp {b : Bool} {a : Addr} {ho : HO} {f : Fp} : hpOk b ((a, ho) :: f) → Ow K B s (.hp b a ((a, ho) :: f)) (.ref a) ((a, ho) :: f)
inductive OwA (K : PySem.W.Frag) (B : Hp) (s : Option Addr) : List Ot → List V → Fp → Prop
  | nil : OwA K B s [] [] []
  | cons {o : Ot} {os : List Ot} {v : V} {vs : List V} {f g : Fp} : Ow K B s o v f → OwA K B s os vs g → OwA K B s (o :: os) (v :: vs) (f ++ g)
end
section
variable {K : PySem.W.Frag} {B B' H : Hp} {s : Option Addr} {R : Fp}
mutual
theorem Ow.mono (l : Le B B') : ∀ {o : Ot} {v : V} {f : Fp}, Ow K B s o v f → Ow K B' s o v f
  | _, _, _, .src e => .src e
  | _, _, _, .fz h => .fz (Rp.mono l h)
  | _, _, _, .lst h => .lst (OwA.mono l h)
  | _, _, _, .tup h => .tup (OwA.mono l h)
  | _, _, _, .dic e h => .dic e (OwA.mono l h)
  | _, _, _, .dit e h => .dit e (OwA.mono l h)
  | _, _, _, .ins e h => .ins e (OwA.mono l h)
  | _, _, _, .hp h => .hp h
  | _, _, _, .av h => .av (Ow.mono l h)
  | _, _, _, .dx k e d h => .dx (RpA.mono l k) e d (OwA.mono l h)
theorem OwA.mono (l : Le B B') : ∀ {os : List Ot} {vs : List V} {f : Fp}, OwA K B s os vs f → OwA K B' s os vs f
  | _, _, _, .nil => .nil
  | _, _, _, .cons h t => .cons (Ow.mono l h) (OwA.mono l t)
end
theorem OwA.len : ∀ {os : List Ot} {vs : List V} {f : Fp}, OwA K B s os vs f → os.length = vs.length
  | _, _, _, .nil => rfl
  | _, _, _, .cons _ t => congrArg (· + 1) (OwA.len t)
mutual
def toD : Ot → Option Dt
  | .no => none
  | .src => none
  | .fz d => some d
  | .lst os => (toDs os).map .lst
  | .tup os => (toDs os).map .tup
  | .dic ks os => (toDs os).map fun ds => .dic (ks.zip ds)
  | .dit ks os => (toDs os).map fun ds => .dit (ks.zip ds)
  | .ins C ks os => (toDs os).map fun ds => .ins C (ks.zip ds)
  | .hp _ _ _ => none
  | .av _ o => toD o
  | .dx w ks os => (toDs os).map fun ds => .dx w ks ds
def toDs : List Ot → Option (List Dt)
  | [] => some []
  | o :: os => match toD o, toDs os with
    | some d, some ds => some (d :: ds)
    | _, _ => none
end
theorem toDs_fz : ∀ ds : List Dt, toDs (ds.map .fz) = some ds
  | [] => rfl
  | d :: ds => by
    show (match toD (.fz d), toDs (ds.map .fz) with | some d, some ds => some (d :: ds) | _, _ => none) = _
    rw [toDs_fz ds]; rfl
theorem zip_fst {α β : Type} : ∀ {ks : List α} {vs : List β}, ks.length = vs.length → (ks.zip vs).map (·.1) = ks
  | [], [], _ => rfl
  | _ :: ks, _ :: vs, h => congrArg (_ :: ·) (zip_fst (ks := ks) (vs := vs) (by simpa using h))
theorem zip_snd {α β : Type} : ∀ {ks : List α} {vs : List β}, ks.length = vs.length → (ks.zip vs).map (·.2) = vs
  | [], [], _ => rfl
  | _ :: ks, _ :: vs, h => congrArg (_ :: ·) (zip_snd (ks := ks) (vs := vs) (by simpa using h))
theorem Hd.fin {p : Addr} {o : HO} (S : Hd B ((p, o) :: R) H) : ∃ B', B' p = some o ∧ Le B B' ∧ Hd B' R H := ⟨_, upd_same, Le.of (same_upd S.no o), S.done⟩
mutual
/-- a tree is fixed for good -/
theorem Ow.freeze : ∀ {o : Ot} {v : V} {f : Fp} {B : Hp} {R : Fp} {d : Dt}, Ow K B s o v f → toD o = some d → Hd B (f ++ R) H → ∃ B', Le B B' ∧ Rp K B' v d ∧ Hd B' R H
  | _, _, _, _, _, _, .src _, e, _ => by cases e
  | _, _, _, _, _, _, .hp _, e, _ => by cases e
  | _, _, _, _, _, _, .av h, e, S => Ow.freeze h (by unfold toD at e; exact e) S
  | _, _, _, B, _, _, .fz h, e, S => by cases e; exact ⟨B, Le.refl B, h, S⟩
  | _, _, _, B, R, d, .lst (a := a) (vs := vs) (f := f) h, e, S => by
    unfold toD at e
    cases q : toDs _ with
    | none => rw [q] at e; cases e
    | some ds =>
      rw [q] at e; cases e
      have S : Hd B (f ++ ((a, HO.lst vs) :: R)) H := S.perm List.perm_middle
      obtain ⟨B1, l1, r1, S1⟩ := OwA.freeze h q S
      obtain ⟨B2, e2, l2, S2⟩ := Hd.fin S1
      exact ⟨B2, l1.trans l2, .lst e2 (RpA.mono l2 r1), S2⟩
  | _, _, _, B, R, d, .tup (a := a) (vs := vs) (f := f) h, e, S => by
    unfold toD at e
    cases q : toDs _ with
    | none => rw [q] at e; cases e
    | some ds =>
      rw [q] at e; cases e
      have S : Hd B (f ++ ((a, HO.tup vs) :: R)) H := S.perm List.perm_middle
      obtain ⟨B1, l1, r1, S1⟩ := OwA.freeze h q S
      obtain ⟨B2, e2, l2, S2⟩ := Hd.fin S1
      exact ⟨B2, l1.trans l2, .tup e2 (RpA.mono l2 r1), S2⟩
  | _, _, _, B, R, d, .dic (a := a) (ks := ks) (vs := vs) (f := f) le h, e, S => by
    unfold toD at e
    cases q : toDs _ with
    | none => rw [q] at e; cases e
    | some ds =>
      rw [q] at e; cases e
      have S : Hd B (f ++ ((a, HO.dK (ks.zip vs)) :: R)) H := S.perm List.perm_middle
      obtain ⟨B1, l1, r1, S1⟩ := OwA.freeze h q S
      obtain ⟨B2, e2, l2, S2⟩ := Hd.fin S1
      have le2 : ks.length = ds.length := le.trans r1.len
      exact ⟨B2, l1.trans l2, .dic (.inl e2) ((zip_fst le).trans (zip_fst le2).symm) (by rw [zip_snd le, zip_snd le2]; exact RpA.mono l2 r1), S2⟩
  | _, _, _, B, R, d, .dit (a := a) (ks := ks) (vs := vs) (f := f) le h, e, S => by
    unfold toD at e
    cases q : toDs _ with
    | none => rw [q] at e; cases e
    | some ds =>
      rw [q] at e; cases e
      have S : Hd B (f ++ ((a, HO.dT (ks.zip vs)) :: R)) H := S.perm List.perm_middle
      obtain ⟨B1, l1, r1, S1⟩ := OwA.freeze h q S
      obtain ⟨B2, e2, l2, S2⟩ := Hd.fin S1
      have le2 : ks.length = ds.length := le.trans r1.len
      exact ⟨B2, l1.trans l2, .dit (.inl e2) ((zip_fst le).trans (zip_fst le2).symm) (by rw [zip_snd le, zip_snd le2]; exact RpA.mono l2 r1), S2⟩
  | _, _, _, B, R, d, .ins (a := a) (C := C) (dx := dx) (ks := ks) (vs := vs) (f := f) le h, e, S => by
    unfold toD at e
    cases q : toDs _ with
    | none => rw [q] at e; cases e
    | some ds =>
      rw [q] at e; cases e
      have S : Hd B (f ++ ((a, HO.ins C dx (ks.zip vs)) :: R)) H := S.perm List.perm_middle
      obtain ⟨B1, l1, r1, S1⟩ := OwA.freeze h q S
      obtain ⟨B2, e2, l2, S2⟩ := Hd.fin S1
      have le2 : ks.length = ds.length := le.trans r1.len
      exact ⟨B2, l1.trans l2, .ins e2 ((zip_fst le).trans (zip_fst le2).symm) (by rw [zip_snd le, zip_snd le2]; exact RpA.mono l2 r1), S2⟩
  | _, _, _, B, R, d, .dx (a := a) (w := w) (es := es) (ks := ks) (f := f) k ke kd h, e, S => by
    unfold toD at e
    cases q : toDs _ with
    | none => rw [q] at e; cases e
    | some ds =>
      rw [q] at e; cases e
      have S : Hd B (f ++ ((a, DxO w a es) :: R)) H := S.perm List.perm_middle
      obtain ⟨B1, l1, r1, S1⟩ := OwA.freeze h q S
      obtain ⟨B2, e2, l2, S2⟩ := Hd.fin S1
      exact ⟨B2, l1.trans l2, .dx (.inl e2) (RpA.mono (l1.trans l2) k) ke kd (RpA.mono l2 r1), S2⟩
theorem OwA.freeze : ∀ {os : List Ot} {vs : List V} {f : Fp} {B : Hp} {R : Fp} {ds : List Dt}, OwA K B s os vs f → toDs os = some ds → Hd B (f ++ R) H → ∃ B', Le B B' ∧ RpA K B' vs ds ∧ Hd B' R H
  | _, _, _, B, _, _, .nil, e, S => by cases e; exact ⟨B, Le.refl B, .nil, S⟩
  | _, _, _, B, R, ds, .cons (o := o) (os := os) h t, e, S => by
    unfold toDs at e
    cases q : toD o with
    | none => rw [q] at e; cases e
    | some d =>
      rw [q] at e
      cases q2 : toDs os with
      | none => rw [q2] at e; cases e
      | some ds =>
        rw [q2] at e; cases e
        rw [List.append_assoc] at S
        obtain ⟨B1, l1, r1, S1⟩ := Ow.freeze h q S
        obtain ⟨B2, l2, r2, S2⟩ := OwA.freeze (t.mono l1) q2 S1
        exact ⟨B2, l1.trans l2, .cons (Rp.mono l2 r1) r2, S2⟩
end
inductive En (K : PySem.W.Frag) (B : Hp) (s : Option Addr) : List Ot → L2.St → Fp → Prop
  | nil : En K B s [] [] []
  | no {ρ : List Ot} {x : Option V} {σ : L2.St} {f : Fp} : En K B s ρ σ f → En K B s (.no :: ρ) (x :: σ) f
  | cons {o : Ot} {v : V} {ρ : List Ot} {σ : L2.St} {f g : Fp} : Ow K B s o v f → En K B s ρ σ g → En K B s (o :: ρ) (some v :: σ) (f ++ g)
theorem En.mono (l : Le B B') : ∀ {ρ : List Ot} {σ : L2.St} {f : Fp}, En K B s ρ σ f → En K B' s ρ σ f
  | _, _, _, .nil => .nil
  | _, _, _, .no h => .no (En.mono l h)
  | _, _, _, .cons h t => .cons (h.mono l) (En.mono l t)
theorem En.len : ∀ {ρ : List Ot} {σ : L2.St} {f : Fp}, En K B s ρ σ f → ρ.length = σ.length
  | _, _, _, .nil => rfl
  | _, _, _, .no h => congrArg (· + 1) (En.len h)
  | _, _, _, .cons _ t => congrArg (· + 1) (En.len t)
def Ot.isNo : Ot → Bool
  | .no => true
  | _ => false
/-- the slot i: its value, its objects, and what stands in its place later -/
theorem En.at_ : ∀ {ρ : List Ot} {σ : L2.St} {f : Fp} {i : Nat} {o : Ot}, En K B s ρ σ f → ρ[i]? = some o → o.isNo = false →
    ∃ v g r1 r2, σ[i]? = some (some v) ∧ f = r1 ++ (g ++ r2) ∧ Ow K B s o v g ∧ (∀ o' v' g' B', Le B B' → Ow K B' s o' v' g' → En K B' s (ρ.set i o') (σ.set i (some v')) (r1 ++ (g' ++ r2))) ∧
      ∀ x, En K B s (ρ.set i .no) (σ.set i x) (r1 ++ r2)
  | _, _, _, i, _, .nil, e, _ => by simp at e
  | _, _, _, 0, _, .no h, e, n => by cases e; cases n
  | _, _, _, i + 1, o, .no (x := x) h, e, n => by
    obtain ⟨v, g, r1, r2, h1, h2, h3, h4, h5⟩ := En.at_ h (i := i) (by simpa using e) n
    exact ⟨v, g, r1, r2, by simpa using h1, h2, h3, fun o' v' g' B' l w => .no (h4 o' v' g' B' l w), fun x => .no (h5 x)⟩
  | _, _, _, 0, o, .cons (v := v) (f := f) (g := g) h t, e, n => by
    cases e
    exact ⟨v, f, [], g, rfl, rfl, h, fun o' v' g' B' l w => (show En K B' s _ _ (g' ++ g) from .cons w (t.mono l)), fun x => .no t⟩
  | _, _, _, i + 1, o, .cons (f := f) (g := g) h t, e, n => by
    obtain ⟨v, g', r1, r2, h1, h2, h3, h4, h5⟩ := En.at_ t (i := i) (by simpa using e) n
    refine ⟨v, g', f ++ r1, r2, by simpa using h1, by rw [h2, List.append_assoc], h3, fun o' v' g' B' l w => ?_, fun x => ?_⟩
    · rw [List.append_assoc]; exact .cons (h.mono l) (h4 o' v' g' B' l w)
    · rw [List.append_assoc]; exact .cons h (h5 x)
theorem set_none_of {α : Type} {l : List α} {i : Nat} {x : α} (h : l[i]? = none) : l.set i x = l := by
  refine List.set_eq_of_length_le ?_
  exact List.getElem?_eq_none_iff.mp h
/-- any slot is dropped -/
theorem En.wipe (h : En K B s ρ σ f) (i : Nat) (x : Option V) : ∃ r1 g r2, f = r1 ++ (g ++ r2) ∧ En K B s (ρ.set i .no) (σ.set i x) (r1 ++ r2) := by
  cases q : ρ[i]? with
  | none =>
    have q2 : σ[i]? = none := List.getElem?_eq_none_iff.mpr (h.len ▸ List.getElem?_eq_none_iff.mp q)
    rw [set_none_of q, set_none_of q2]
    exact ⟨f, [], [], by simp, by simpa using h⟩
  | some o =>
    cases n : o.isNo with
    | false =>
      obtain ⟨v, g, r1, r2, h1, h2, h3, h4, h5⟩ := h.at_ q n
      exact ⟨r1, g, r2, h2, h5 x⟩
    | true =>
      have e : o = .no := by cases o <;> first | rfl | cases n
      subst e
      refine ⟨f, [], [], by simp, ?_⟩
      rw [List.append_nil]
      have : ∀ {ρ : List Ot} {σ : L2.St} {f : Fp} {i : Nat}, En K B s ρ σ f → ρ[i]? = some .no → En K B s (ρ.set i .no) (σ.set i x) f := by
        intro ρ σ f i h
        induction h generalizing i with
        | nil => intro e; simp at e
        | no h ih =>
          intro e
          cases i with
          | zero => exact .no h
          | succ i => exact .no (ih (by simpa using e))
        | cons h t ih =>
          intro e
          cases i with
          | zero => cases e; cases h
          | succ i => exact .cons h (ih (by simpa using e))
      exact this h q
/-- a slot gets a value -/
theorem En.put (h : En K B s ρ σ f) {i : Nat} {o : Ot} {v : V} {g : Fp} (w : Ow K B s o v g) (hi : i < ρ.length) : ∃ r1 g0 r2, f = r1 ++ (g0 ++ r2) ∧ En K B s (ρ.set i o) (σ.set i (some v)) (r1 ++ (g ++ r2)) := by
  induction h generalizing i with
  | nil => simp at hi
  | no h ih =>
    cases i with
    | zero => exact ⟨[], [], _, rfl, (show En K B s _ _ (g ++ _) from .cons w h)⟩
    | succ i =>
      obtain ⟨r1, g0, r2, e1, e2⟩ := ih (i := i) (by simpa using hi)
      exact ⟨r1, g0, r2, e1, .no e2⟩
  | @cons o1 v1 ρ σ f1 g1 h t ih =>
    cases i with
    | zero => exact ⟨[], f1, g1, rfl, (show En K B s _ _ (g ++ g1) from .cons w t)⟩
    | succ i =>
      obtain ⟨r1, g0, r2, e1, e2⟩ := ih (i := i) (by simpa using hi)
      refine ⟨f1 ++ r1, g0, r2, by rw [e1, List.append_assoc], ?_⟩
      rw [List.append_assoc]
      exact .cons h e2
end
end Vc
namespace Vc
open PySem PySem.Spec PyProof.Rows L2 Sx
abbrev SrcRep := Addr → Nat → Fp → Prop
def Sf (S : SrcRep) : Option Addr → Nat → Fp → Prop
  | none, _, f => f = []
  | some a, n, f => S a n f
structure Sr (S : SrcRep) (K : PySem.W.Frag) (s : Option Addr) (ρ : List Ot) (σ : L2.St) (B H : Hp) (Fr fp : Fp) (n : Nat) : Prop where
  en : En K B s ρ σ fp
  ex : ∃ sf, Sf S s n sf ∧ Hd B (fp ++ (sf ++ Fr)) H
def BUD : Nat := 2 ^ 2000
inductive Vl where
  | ow (o : Ot) | rf (i : Nat)
def VlR (K : PySem.W.Frag) (B : Hp) (s : Option Addr) (σ : L2.St) : Vl → V → Fp → Prop
  | .ow o, v, f => Ow K B s o v f
  | .rf i, v, f => σ[i]? = some (some v) ∧ f = []
/-- what is wanted where an error is raised: class, value, slots -/
abbrev XW := Addr → Dt → List Ot → Prop
abbrev EW := List Ot → (Vl → List Ot → Prop) → XW → Prop
abbrev DW := List Ot → (Dt → List Ot → Prop) → XW → Prop
abbrev AW := List Ot → (List Vl → List Ot → Prop) → XW → Prop
abbrev LW := List Ot → (List Dt → List Ot → Prop) → XW → Prop
abbrev TW := List Ot → (Bool → List Ot → Prop) → XW → Prop
section
variable (S : SrcRep) (K : PySem.W.Frag) (W : WX)
def KX (s : Option Addr) (σ : L2.St) (B : Hp) (Fr : Fp) (m : Nat) (Ψ : XW) : Prop :=
  ∀ C d ρ' B' H' fp' n' a fs v, Ψ C d ρ' → Le B B' → n' ≤ m → Sr S K s ρ' σ B' H' Fr fp' n' → B' a = some (.xd fs) → fs.lookup (Str.ofString "value") = some v → Rp K B' v d → W (.ref C) (some a) σ H'
/-- the common part: from a state, to what follows for a result of the kind α -/
def Vx {α β : Type} (rel : Hp → Option Addr → L2.St → α → β → Fp → Prop) (b : Bool) (c : Nat) (t : L2.St → Hp → (β → Hp → Prop) → Prop) (w : List Ot → (α → List Ot → Prop) → XW → Prop) : Prop :=
  ∀ ⦃s : Option Addr⦄ ⦃ρ : List Ot⦄ ⦃Φ : α → List Ot → Prop⦄ ⦃Ψ : XW⦄ ⦃Fr : Fp⦄ ⦃B : Hp⦄ ⦃σ : L2.St⦄ ⦃H : Hp⦄ ⦃fp : Fp⦄ ⦃n m : Nat⦄ ⦃Q : β → Hp → Prop⦄, w ρ Φ Ψ → Sr S K s ρ σ B H Fr fp n → n + c ≤ m → m ≤ BUD →
    (∀ x ρ' v B' H' fp' g n', Φ x ρ' → Le B B' → n' ≤ n + c → rel B' s σ x v g → Sr S K s ρ' σ B' H' (g ++ Fr) fp' n' → (b = true → ρ' = ρ ∧ fp' = fp) → Q v H') → KX S K W s σ B Fr m Ψ → t σ H Q
def rV : Hp → Option Addr → L2.St → Vl → V → Fp → Prop := fun B s σ x v g => VlR K B s σ x v g
def rD : Hp → Option Addr → L2.St → Dt → V → Fp → Prop := fun B _ _ d v g => Rp K B v d ∧ g = []
inductive VlsR (B : Hp) (s : Option Addr) (σ : L2.St) : List Vl → List V → Fp → Prop
  | nil : VlsR B s σ [] [] []
  | cons {x : Vl} {v : V} {xs : List Vl} {vs : List V} {f g : Fp} : VlR K B s σ x v f → VlsR B s σ xs vs g → VlsR B s σ (x :: xs) (v :: vs) (f ++ g)
def rA : Hp → Option Addr → L2.St → List Vl → List V → Fp → Prop := fun B s σ xs vs g => VlsR K B s σ xs vs g
def rL : Hp → Option Addr → L2.St → List Dt → List V → Fp → Prop := fun B _ _ ds vs g => RpA K B vs ds ∧ g = []
def rB : Hp → Option Addr → L2.St → Bool → Bool → Fp → Prop := fun _ _ _ a b g => a = b ∧ g = []
abbrev VE (b : Bool) (c : Nat) (t : TE) (w : EW) : Prop := Vx S K W (rV K) b c t w
abbrev VD (b : Bool) (c : Nat) (t : TE) (w : DW) : Prop := Vx S K W (rD K) b c t w
abbrev VA (b : Bool) (c : Nat) (t : TA) (w : AW) : Prop := Vx S K W (rA K) b c t w
abbrev VL (b : Bool) (c : Nat) (t : TA) (w : LW) : Prop := Vx S K W (rL K) b c t w
abbrev VT (b : Bool) (c : Nat) (t : TT) (w : TW) : Prop := Vx S K W rB b c t w
end
section
variable {S : SrcRep} {K : PySem.W.Frag} {W : WX} {s : Option Addr} {ρ : List Ot} {σ : L2.St} {B B' H : Hp} {Fr fp g : Fp} {n m : Nat} {Ψ : XW}
theorem Hd.sub {ch ch' : Fp} (h : Hd B ch H) (l : ch'.Sublist ch) : Hd B ch' H := ⟨h.old, fun p hp => h.at_ p (l.subset hp), h.nd.sublist (l.map _)⟩
theorem VlR.mono (l : Le B B') : ∀ {x : Vl} {v : V} {f : Fp}, VlR K B s σ x v f → VlR K B' s σ x v f
  | .ow _, _, _, h => Ow.mono l h
  | .rf _, _, _, h => h
theorem VlsR.mono (l : Le B B') : ∀ {x : List Vl} {v : List V} {f : Fp}, VlsR K B s σ x v f → VlsR K B' s σ x v f
  | _, _, _, .nil => .nil
  | _, _, _, .cons h t => .cons (h.mono l) (VlsR.mono l t)
theorem VlsR.len : ∀ {x : List Vl} {v : List V} {f : Fp}, VlsR K B s σ x v f → x.length = v.length
  | _, _, _, .nil => rfl
  | _, _, _, .cons _ t => congrArg (· + 1) (VlsR.len t)
theorem Sr.dropF (h : Sr S K s ρ σ B H (g ++ Fr) fp n) : Sr S K s ρ σ B H Fr fp n := by
  obtain ⟨e, sf, a, b⟩ := h
  exact ⟨e, sf, a, Hd.sub b (((List.Sublist.refl sf).append (List.sublist_append_right g Fr)).append_left fp)⟩
theorem Sr.permF {Fr' : Fp} (h : Sr S K s ρ σ B H Fr fp n) (p : Fr'.Perm Fr) : Sr S K s ρ σ B H Fr' fp n := by
  obtain ⟨e, sf, a, b⟩ := h
  exact ⟨e, sf, a, b.perm ((p.append_left sf).append_left fp)⟩
theorem KX.mono (h : KX S K W s σ B Fr m Ψ) (l : Le B B') : KX S K W s σ B' Fr m Ψ := fun C d ρ' B2 H' fp' n' a fs v q l2 => h C d ρ' B2 H' fp' n' a fs v q (l.trans l2)
theorem KX.frame (h : KX S K W s σ B Fr m Ψ) : KX S K W s σ B (g ++ Fr) m Ψ := fun C d ρ' B2 H' fp' n' a fs v q l2 l3 st => h C d ρ' B2 H' fp' n' a fs v q l2 l3 st.dropF
/-- the heap alone, nothing changing but the frame -/
theorem Sr.hc (h : Sr S K s ρ σ B H Fr fp n) : ∃ F, Hc K B [] F H ∧ ∀ B' H', Le B B' → Hc K B' [] F H' → Sr S K s ρ σ B' H' Fr fp n := by
  obtain ⟨e, sf, a, b⟩ := h
  refine ⟨_, ⟨[], .nil, b⟩, fun B' H' l c => ?_⟩
  obtain ⟨ho, h1, c⟩ := c
  cases h1
  exact ⟨e.mono l, sf, a, c⟩
theorem Sr.same (h : Sr S K s ρ σ B H Fr fp n) : Same B H := by obtain ⟨e, sf, a, b⟩ := h; exact b.old
variable {α β γ δ : Type} {rel : Hp → Option Addr → L2.St → α → β → Fp → Prop} {rel2 : Hp → Option Addr → L2.St → γ → δ → Fp → Prop}
/-- first t, then u by the result, the first result's objects in the frame -/
theorem Vx.bind {ζ η : Type} {rel3 : Hp → Option Addr → L2.St → ζ → η → Fp → Prop} {b1 b2 : Bool} {c1 c2 : Nat} {t : L2.St → Hp → (β → Hp → Prop) → Prop} {w : List Ot → (α → List Ot → Prop) → XW → Prop} (ht : Vx S K W rel b1 c1 t w)
    {u : β → L2.St → Hp → (η → Hp → Prop) → Prop} {wu : α → List Ot → (ζ → List Ot → Prop) → XW → Prop}
    (hu : ∀ x v B0 s σ g, rel B0 s σ x v g → ∀ ⦃ρ : List Ot⦄ ⦃Φ : ζ → List Ot → Prop⦄ ⦃Ψ : XW⦄ ⦃Fr : Fp⦄ ⦃H : Hp⦄ ⦃fp : Fp⦄ ⦃n m : Nat⦄ ⦃Q : η → Hp → Prop⦄, wu x ρ Φ Ψ → Sr S K s ρ σ B0 H (g ++ Fr) fp n → n + c2 ≤ m → m ≤ BUD →
      (∀ z ρ' y B' H' fp' k n', Φ z ρ' → Le B0 B' → n' ≤ n + c2 → rel3 B' s σ z y k → Sr S K s ρ' σ B' H' (k ++ Fr) fp' n' → (b2 = true → ρ' = ρ ∧ fp' = fp) → Q y H') → KX S K W s σ B0 Fr m Ψ → u v σ H Q) :
    Vx S K W rel3 (b1 && b2) (c1 + c2) (fun σ H Q => t σ H fun v H1 => u v σ H1 Q) (fun ρ Φ Ψ => w ρ (fun x ρ1 => wu x ρ1 Φ Ψ) Ψ) := by
  intro s ρ Φ Ψ Fr B σ H fp n m Q hw st hn hm k kx
  refine ht hw st (by omega) hm (fun x ρ' v B' H' fp' g n' q l ln r st' hb => ?_) kx
  refine hu x v B' s σ g r q st' (by omega) hm (fun z ρ2 y B2 H2 fp2 k2 n2 q2 l2 ln2 r2 st2 hb2 => ?_) (kx.mono l)
  refine k z ρ2 y B2 H2 fp2 k2 n2 q2 (l.trans l2) (by omega) r2 st2 fun hb12 => ?_
  rw [Bool.and_eq_true] at hb12
  obtain ⟨e1, e2⟩ := hb hb12.1
  obtain ⟨e3, e4⟩ := hb2 hb12.2
  exact ⟨e3.trans e1, e4.trans e2⟩
theorem Vx.le {b : Bool} {c c' : Nat} {t : L2.St → Hp → (β → Hp → Prop) → Prop} {w : List Ot → (α → List Ot → Prop) → XW → Prop} (h : Vx S K W rel b c t w) (l : c ≤ c') : Vx S K W rel b c' t w := by
  intro s ρ Φ Ψ Fr B σ H fp n m Q hw st hn hm k kx
  exact h hw st (by omega) hm (fun x ρ' v B' H' fp' g n' q l' ln => k x ρ' v B' H' fp' g n' q l' (by omega)) kx
def dVar (i : Nat) : DW := fun ρ Φ _ => ∃ d, ρ[i]? = some (.fz d) ∧ Φ d ρ
def vVar (i : Nat) : EW := fun ρ Φ _ => ∃ o, ρ[i]? = some o ∧ match o with | .no => False | .src => Φ (.ow .src) ρ | .fz d => Φ (.ow (.fz d)) ρ | _ => Φ (.rf i) ρ
theorem d_var {i : Nat} : VD S K W true 0 (tVar i) (dVar i) := by
  intro s ρ Φ Ψ Fr B σ H fp n m Q hw st hn hm k kx
  obtain ⟨d, e, q⟩ := hw
  obtain ⟨v, g, r1, r2, h1, h2, h3, _⟩ := st.en.at_ e rfl
  cases h3 with
  | fz r => exact ⟨v, h1, k d ρ v B H fp [] n q (Le.refl B) (by omega) ⟨r, rfl⟩ st fun _ => ⟨rfl, rfl⟩⟩
theorem v_var {i : Nat} : VE S K W true 0 (tVar i) (vVar i) := by
  intro s ρ Φ Ψ Fr B σ H fp n m Q hw st hn hm k kx
  obtain ⟨o, e, q⟩ := hw
  cases o with
  | no => exact q.elim
  | src =>
    obtain ⟨v, g, r1, r2, h1, h2, h3, _⟩ := st.en.at_ e rfl
    cases h3 with
    | src r => exact ⟨_, h1, k _ ρ _ B H fp [] n q (Le.refl B) (by omega) (.src r) st fun _ => ⟨rfl, rfl⟩⟩
  | fz d =>
    obtain ⟨v, g, r1, r2, h1, h2, h3, _⟩ := st.en.at_ e rfl
    cases h3 with
    | fz r => exact ⟨v, h1, k _ ρ v B H fp [] n q (Le.refl B) (by omega) (.fz r) st fun _ => ⟨rfl, rfl⟩⟩
  | _ =>
    obtain ⟨v, g, r1, r2, h1, h2, h3, _⟩ := st.en.at_ e rfl
    exact ⟨v, h1, k _ ρ v B H fp [] n q (Le.refl B) (by omega) ⟨h1, rfl⟩ st fun _ => ⟨rfl, rfl⟩⟩
def dC (d : Dt) : DW := fun ρ Φ _ => Φ d ρ
theorem d_c {v : V} {d : Dt} (h : ∀ B, Rp K B v d) : VD S K W true 0 (tC v) (dC d) := by
  intro s ρ Φ Ψ Fr B σ H fp n m Q hw st hn hm k kx
  exact k d ρ v B H fp [] n hw (Le.refl B) (by omega) ⟨h B, rfl⟩ st fun _ => ⟨rfl, rfl⟩
theorem d_int {i : Int} : VD S K W true 0 (tC (.int i)) (dC (.int i)) := d_c fun _ => .int i
theorem d_str {x : Str} : VD S K W true 0 (tC (.str x)) (dC (.str x)) := d_c fun _ => .str x
theorem d_bl {x : Bool} : VD S K W true 0 (tC (.bl x)) (dC (.bl x)) := d_c fun _ => .bl x
theorem d_non : VD S K W true 0 (tC .non) (dC .non) := d_c fun _ => .non
def vD (w : DW) : EW := fun ρ Φ Ψ => w ρ (fun d ρ' => Φ (.ow (.fz d)) ρ') Ψ
theorem v_d {b : Bool} {c : Nat} {t : TE} {w : DW} (h : VD S K W b c t w) : VE S K W b c t (vD w) := by
  intro s ρ Φ Ψ Fr B σ H fp n m Q hw st hn hm k kx
  exact h hw st hn hm (fun d ρ' v B' H' fp' g n' q l ln r st' hb => k _ ρ' v B' H' fp' g n' q l ln (by obtain ⟨r, e⟩ := r; subst e; exact .fz r) st' hb) kx
/-- the value is data from here on -/
def dF (w : EW) : DW := fun ρ Φ Ψ => w ρ (fun x ρ1 => match x with | .ow o => ∃ d, toD o = some d ∧ Φ d ρ1 | .rf i => ∃ o d, ρ1[i]? = some o ∧ toD o = some d ∧ Φ d (ρ1.set i (.fz d))) Ψ
theorem toD_no {o : Ot} {d : Dt} (h : toD o = some d) : o.isNo = false := by cases o <;> first | rfl | cases h
theorem set_same' {l : L2.St} {i : Nat} {v : V} (h : l[i]? = some (some v)) : l.set i (some v) = l := set_same h
/-- the slot i is fixed -/
theorem Sr.fzSlot {i : Nat} {o : Ot} {d : Dt} (st : Sr S K s ρ σ B H Fr fp n) (e : ρ[i]? = some o) (hd : toD o = some d) {v : V} (hv : σ[i]? = some (some v)) : ∃ B' fp', Le B B' ∧ Rp K B' v d ∧ Sr S K s (ρ.set i (.fz d)) σ B' H Fr fp' n := by
  obtain ⟨en, sf, a, b⟩ := st
  obtain ⟨v', g, r1, r2, h1, h2, h3, h4, _⟩ := en.at_ e (toD_no hd)
  rw [hv] at h1
  cases h1
  subst h2
  have b2 : Hd B (g ++ ((r1 ++ r2) ++ (sf ++ Fr))) H := b.perm (by
    rw [← List.append_assoc]
    exact List.Perm.append_right _ (List.perm_append_comm_assoc g r1 r2))
  obtain ⟨B', l, r, b3⟩ := Ow.freeze h3 hd b2
  refine ⟨B', r1 ++ ([] ++ r2), l, r, ?_, sf, a, b3⟩
  have := h4 (.fz d) v [] B' l (.fz r)
  rwa [set_same' hv] at this
theorem Sr.fzVal {o : Ot} {d : Dt} {v : V} (st : Sr S K s ρ σ B H (g ++ Fr) fp n) (h : Ow K B s o v g) (hd : toD o = some d) : ∃ B', Le B B' ∧ Rp K B' v d ∧ Sr S K s ρ σ B' H Fr fp n := by
  obtain ⟨en, sf, a, b⟩ := st
  have b2 : Hd B (g ++ (fp ++ (sf ++ Fr))) H := b.perm (by
    rw [← List.append_assoc fp, ← List.append_assoc fp, ← List.append_assoc g]
    refine (List.Perm.append_right Fr ?_).trans (by rw [List.append_assoc (fp ++ sf)])
    exact List.perm_append_comm)
  obtain ⟨B', l, r, b3⟩ := Ow.freeze h hd b2
  exact ⟨B', l, r, en.mono l, sf, a, b3⟩
theorem d_f {b : Bool} {c : Nat} {t : TE} {w : EW} (h : VE S K W b c t w) : VD S K W false c t (dF w) := by
  intro s ρ Φ Ψ Fr B σ H fp n m Q hw st hn hm k kx
  refine h hw st hn hm (fun x ρ' v B' H' fp' g n' q l ln r st' hb => ?_) kx
  cases x with
  | ow o =>
    obtain ⟨d, e, q⟩ := q
    obtain ⟨B2, l2, r2, st2⟩ := st'.fzVal r e
    exact k d ρ' v B2 H' fp' [] n' q (l.trans l2) ln ⟨r2, rfl⟩ st2 fun z => by cases z
  | rf i =>
    obtain ⟨o, d, e1, e2, q⟩ := q
    obtain ⟨r, e⟩ := r
    subst e
    obtain ⟨B2, fp2, l2, r2, st2⟩ := st'.fzSlot e1 e2 r
    exact k d _ v B2 H' fp2 [] n' q (l.trans l2) ln ⟨r2, rfl⟩ st2 fun z => by cases z
end
end Vc
namespace Vc
open PySem PySem.Spec PyProof.Rows L2 Sx
section
variable {S : SrcRep} {K : PySem.W.Frag} {W : WX} {s : Option Addr} {ρ : List Ot} {σ : L2.St} {B B' H : Hp} {Fr fp g : Fp} {n m : Nat} {Ψ : XW} {b1 b2 b3 b : Bool} {c1 c2 c3 c : Nat} {te ta tb tc : TE}
abbrev Fd := Dt → Dt → (Dt → Prop) → Prop
def Lf (K : PySem.W.Frag) (r : R2) (f : Fd) : Prop := ∀ x y Φ, f x y Φ → WR K r (.dt x) (.dt y) [] fun z L => ∃ d, z = .dt d ∧ L = [] ∧ Φ d
def dOp (f : Fd) (wa wb : DW) : DW := fun ρ Φ Ψ => wa ρ (fun x ρ1 => wb ρ1 (fun y ρ2 => f x y fun z => Φ z ρ2) Ψ) Ψ
theorem d_op {r : R2} {f : Fd} {wa wb : DW} (lf : Lf K r f) (ha : VD S K W b1 c1 ta wa) (hb : VD S K W b2 c2 tb wb) : VD S K W (b1 && b2) (c1 + c2) (tOp r ta tb) (dOp f wa wb) := by
  refine Vx.bind ha fun x v B0 s σ g r0 ρ Φ Ψ Fr H fp n m Q hw st hn hm k kx => ?_
  obtain ⟨rx, e⟩ := r0
  subst e
  refine hb hw st hn hm (fun y ρ' u B' H' fp' g' n' q l ln r1 st' hq => ?_) kx
  obtain ⟨ry, e⟩ := r1
  subst e
  obtain ⟨F, hc, back⟩ := st'.hc
  refine lf x y _ q F B' H' _ v u hc (Rp.mono l rx) ry fun z L' z' B2 H2 hz l2 c2 rz => ?_
  obtain ⟨d, e1, e2, qd⟩ := hz
  subst e1 e2
  exact k d ρ' z' B2 H2 fp' [] n' qd (l.trans l2) ln ⟨rz, rfl⟩ (back B2 H2 l2 c2) hq
abbrev Fu := Dt → (Dt → Prop) → Prop
def dUn (f : Fu) (wa : DW) : DW := fun ρ Φ Ψ => wa ρ (fun x ρ1 => f x fun z => Φ z ρ1) Ψ
theorem d_un {r : V → Hp → VK → Prop} {f : Fu} {wa : DW} (lf : Lf K (fun v _ H Q => r v H Q) fun x _ Φ => f x Φ) (ha : VD S K W b1 c1 ta wa) : VD S K W b1 c1 (tUn r ta) (dUn f wa) := by
  intro s ρ Φ Ψ Fr B σ H fp n m Q hw st hn hm k kx
  refine ha hw st hn hm (fun x ρ' v B' H' fp' g n' q l ln r0 st' hq => ?_) kx
  obtain ⟨rx, e⟩ := r0
  subst e
  obtain ⟨F, hc, back⟩ := st'.hc
  refine lf x .non _ q F B' H' _ v .non hc rx .non fun z L' z' B2 H2 hz l2 c2 rz => ?_
  obtain ⟨d, e1, e2, qd⟩ := hz
  subst e1 e2
  exact k d ρ' z' B2 H2 fp' [] n' qd (l.trans l2) ln ⟨rz, rfl⟩ (back B2 H2 l2 c2) hq
def lNil : LW := fun ρ Φ _ => Φ [] ρ
def lCons (w : DW) (r : LW) : LW := fun ρ Φ Ψ => w ρ (fun x ρ1 => r ρ1 (fun xs ρ2 => Φ (x :: xs) ρ2) Ψ) Ψ
theorem l_nil : VL S K W true 0 tNil lNil := fun s ρ Φ Ψ Fr B σ H fp n m Q hw st hn hm k kx => k [] ρ [] B H fp [] n hw (Le.refl B) (by omega) ⟨.nil, rfl⟩ st fun _ => ⟨rfl, rfl⟩
theorem l_cons {w : DW} {r : LW} {tr : TA} (ha : VD S K W b1 c1 te w) (hb : VL S K W b2 c2 tr r) : VL S K W (b1 && b2) (c1 + c2) (tCons te tr) (lCons w r) := by
  refine Vx.bind ha fun x v B0 s σ g r0 ρ Φ Ψ Fr H fp n m Q hw st hn hm k kx => ?_
  obtain ⟨rx, e⟩ := r0
  subst e
  refine hb hw st hn hm (fun xs ρ' us B' H' fp' g' n' q l ln r1 st' hq => ?_) kx
  obtain ⟨ry, e⟩ := r1
  subst e
  exact k (x :: xs) ρ' (v :: us) B' H' fp' [] n' q l ln ⟨.cons (Rp.mono l rx) ry, rfl⟩ st' hq
def aNil : AW := fun ρ Φ _ => Φ [] ρ
def aCons (w : EW) (r : AW) : AW := fun ρ Φ Ψ => w ρ (fun x ρ1 => r ρ1 (fun xs ρ2 => Φ (x :: xs) ρ2) Ψ) Ψ
theorem a_nil : VA S K W true 0 tNil aNil := fun s ρ Φ Ψ Fr B σ H fp n m Q hw st hn hm k kx => k [] ρ [] B H fp [] n hw (Le.refl B) (by omega) .nil st fun _ => ⟨rfl, rfl⟩
theorem a_cons {w : EW} {r : AW} {tr : TA} (ha : VE S K W b1 c1 te w) (hb : VA S K W b2 c2 tr r) : VA S K W (b1 && b2) (c1 + c2) (tCons te tr) (aCons w r) := by
  refine Vx.bind ha fun x v B0 s σ g r0 ρ Φ Ψ Fr H fp n m Q hw st hn hm k kx => ?_
  refine hb hw st hn hm (fun xs ρ' us B' H' fp' g' n' q l ln r1 st' hq => ?_) kx.frame
  refine k (x :: xs) ρ' (v :: us) B' H' fp' (g ++ g') n' q l ln (.cons (VlR.mono l r0) r1) (st'.permF ?_) hq
  rw [← List.append_assoc]
  exact List.Perm.append_right Fr List.perm_append_comm
abbrev Fc := List Dt → (Dt → Prop) → Prop
def Lc (K : PySem.W.Frag) (r : List V → Hp → VK → Prop) (f : Fc) : Prop := ∀ xs Φ, f xs Φ → WC K r (dts xs) [] fun z L => ∃ d, z = .dt d ∧ L = [] ∧ Φ d
def dCb (f : Fc) (wa : LW) : DW := fun ρ Φ Ψ => wa ρ (fun xs ρ1 => f xs fun z => Φ z ρ1) Ψ
theorem d_cb {r : List V → Hp → VK → Prop} {f : Fc} {wa : LW} {tl : TA} (lf : Lc K r f) (ha : VL S K W b1 c1 tl wa) : VD S K W b1 c1 (tCB r tl) (dCb f wa) := by
  intro s ρ Φ Ψ Fr B σ H fp n m Q hw st hn hm k kx
  refine ha hw st hn hm (fun x ρ' v B' H' fp' g n' q l ln r0 st' hq => ?_) kx
  obtain ⟨rx, e⟩ := r0
  subst e
  obtain ⟨F, hc, back⟩ := st'.hc
  refine lf x _ q F B' H' _ v hc (rp_dts rx) fun z L' z' B2 H2 hz l2 c2 rz => ?_
  obtain ⟨d, e1, e2, qd⟩ := hz
  subst e1 e2
  exact k d ρ' z' B2 H2 fp' [] n' qd (l.trans l2) ln ⟨rz, rfl⟩ (back B2 H2 l2 c2) hq
theorem Sr.new {p : Addr} (st : Sr S K s ρ σ B H (g ++ Fr) fp n) (hp : H p = none) (o : HO) : Sr S K s ρ σ B (upd H p o) (((p, o) :: g) ++ Fr) fp n := by
  obtain ⟨e, sf, a, b⟩ := st
  refine ⟨e, sf, a, (b.new hp o).perm ?_⟩
  show (fp ++ (sf ++ ((p, o) :: (g ++ Fr)))).Perm _
  rw [← List.append_assoc, ← List.append_assoc fp]
  exact List.perm_middle
theorem Sr.fix {p : Addr} (st : Sr S K s ρ σ B H Fr fp n) (hp : H p = none) (o : HO) : ∃ B', B' p = some o ∧ Le B B' ∧ Sr S K s ρ σ B' (upd H p o) Fr fp n := by
  obtain ⟨e, sf, a, b⟩ := st
  have l : Le B (upd B p o) := Le.of (same_upd (b.free hp) o)
  exact ⟨_, upd_same, l, e.mono l, sf, a, b.fix hp o⟩
def asO : List Vl → Option (List Ot)
  | [] => some []
  | .ow o :: xs => (asO xs).map (o :: ·)
  | .rf _ :: _ => none
theorem asO_ow : ∀ {xs : List Vl} {os : List Ot} {vs : List V} {f : Fp}, asO xs = some os → VlsR K B s σ xs vs f → OwA K B s os vs f
  | [], _, _, _, e, h => by cases e; cases h; exact .nil
  | .ow o :: xs, os, _, _, e, h => by
    unfold asO at e
    cases q : asO xs with
    | none => rw [q] at e; cases e
    | some us =>
      rw [q] at e
      cases e
      cases h with
      | cons h t => exact .cons h (asO_ow q t)
  | .rf _ :: _, _, _, _, e, _ => by cases e
def vLst (wa : AW) : EW := fun ρ Φ Ψ => wa ρ (fun xs ρ1 => ∃ os, asO xs = some os ∧ os.length ≤ sizeLine ∧ Φ (.ow (.lst os)) ρ1) Ψ
def vTup (wa : AW) : EW := fun ρ Φ Ψ => wa ρ (fun xs ρ1 => ∃ os, asO xs = some os ∧ os.length ≤ sizeLine ∧ Φ (.ow (.tup os)) ρ1) Ψ
theorem v_lst {wa : AW} {t : TA} (ha : VA S K W b c t wa) : VE S K W b c (tLst t) (vLst wa) := by
  intro s ρ Φ Ψ Fr B σ H fp n m Q hw st hn hm k kx
  refine ha hw st hn hm (fun xs ρ' vs B' H' fp' g n' q l ln r st' hb => ?_) kx
  obtain ⟨os, e, le, q⟩ := q
  have ow := asO_ow e r
  exact ⟨by rw [← ow.len]; exact le, fun p hp => k _ ρ' _ B' _ fp' _ n' q l ln (.lst ow) (st'.new hp _) hb⟩
theorem v_tup {wa : AW} {t : TA} (ha : VA S K W b c t wa) : VE S K W b c (tTup t) (vTup wa) := by
  intro s ρ Φ Ψ Fr B σ H fp n m Q hw st hn hm k kx
  refine ha hw st hn hm (fun xs ρ' vs B' H' fp' g n' q l ln r st' hb => ?_) kx
  obtain ⟨os, e, le, q⟩ := q
  have ow := asO_ow e r
  exact ⟨by rw [← ow.len]; exact le, fun p hp => k _ ρ' _ B' _ fp' _ n' q l ln (.tup ow) (st'.new hp _) hb⟩
def dLst (wa : LW) : DW := fun ρ Φ Ψ => wa ρ (fun ds ρ1 => ds.length ≤ sizeLine ∧ Φ (.lst ds) ρ1) Ψ
def dTup (wa : LW) : DW := fun ρ Φ Ψ => wa ρ (fun ds ρ1 => ds.length ≤ sizeLine ∧ Φ (.tup ds) ρ1) Ψ
theorem d_lst {wa : LW} {t : TA} (ha : VL S K W b c t wa) : VD S K W b c (tLst t) (dLst wa) := by
  intro s ρ Φ Ψ Fr B σ H fp n m Q hw st hn hm k kx
  refine ha hw st hn hm (fun xs ρ' vs B' H' fp' g n' q l ln r st' hb => ?_) kx
  obtain ⟨r, e⟩ := r
  subst e
  refine ⟨by rw [r.len]; exact q.1, fun p hp => ?_⟩
  obtain ⟨B2, e2, l2, st2⟩ := Sr.fix (Fr := Fr) st' hp (.lst vs)
  exact k _ ρ' _ B2 _ fp' [] n' q.2 (l.trans l2) ln ⟨.lst e2 (RpA.mono l2 r), rfl⟩ st2 hb
theorem d_tup {wa : LW} {t : TA} (ha : VL S K W b c t wa) : VD S K W b c (tTup t) (dTup wa) := by
  intro s ρ Φ Ψ Fr B σ H fp n m Q hw st hn hm k kx
  refine ha hw st hn hm (fun xs ρ' vs B' H' fp' g n' q l ln r st' hb => ?_) kx
  obtain ⟨r, e⟩ := r
  subst e
  refine ⟨by rw [r.len]; exact q.1, fun p hp => ?_⟩
  obtain ⟨B2, e2, l2, st2⟩ := Sr.fix (Fr := Fr) st' hp (.tup vs)
  exact k _ ρ' _ B2 _ fp' [] n' q.2 (l.trans l2) ln ⟨.tup e2 (RpA.mono l2 r), rfl⟩ st2 hb
variable {tt uu : TT}
def tBl (w : DW) : TW := fun ρ Φ Ψ => w ρ (fun d ρ1 => ∃ b, d = .bl b ∧ Φ b ρ1) Ψ
theorem t_test {w : DW} (h : VD S K W b c te w) : VT S K W b c (tTest te) (tBl w) := by
  intro s ρ Φ Ψ Fr B σ H fp n m Q hw st hn hm k kx
  refine h hw st hn hm (fun d ρ' v B' H' fp' g n' q l ln r st' hb => ?_) kx
  obtain ⟨x, e, q⟩ := q
  obtain ⟨r, e2⟩ := r
  subst e e2
  cases r
  exact ⟨x, rfl, k x ρ' x B' H' fp' [] n' q l ln ⟨rfl, rfl⟩ st' hb⟩
theorem t_B {w : DW} (h : VD S K W b c te w) : VT S K W b c (tB te) (tBl w) := t_test h
def tAndW (w u : TW) : TW := fun ρ Φ Ψ => w ρ (fun x ρ1 => if x = true then u ρ1 Φ Ψ else Φ false ρ1) Ψ
def tOrW (w u : TW) : TW := fun ρ Φ Ψ => w ρ (fun x ρ1 => if x = true then Φ true ρ1 else u ρ1 Φ Ψ) Ψ
def tNotW (w : TW) : TW := fun ρ Φ Ψ => w ρ (fun x ρ1 => Φ (!x) ρ1) Ψ
def tYesW : TW := fun ρ Φ _ => Φ true ρ
theorem t_yes : VT S K W true 0 tYes tYesW := fun s ρ Φ Ψ Fr B σ H fp n m Q hw st hn hm k kx => k true ρ true B H fp [] n hw (Le.refl B) (by omega) ⟨rfl, rfl⟩ st fun _ => ⟨rfl, rfl⟩
theorem t_not {w : TW} (h : VT S K W b c tt w) : VT S K W b c (tNot tt) (tNotW w) := by
  intro s ρ Φ Ψ Fr B σ H fp n m Q hw st hn hm k kx
  refine h hw st hn hm (fun x ρ' v B' H' fp' g n' q l ln r st' hb => ?_) kx
  obtain ⟨e1, e2⟩ := r
  subst e1 e2
  exact k (!x) ρ' (!x) B' H' fp' [] n' q l ln ⟨rfl, rfl⟩ st' hb
theorem t_and {w u : TW} (h : VT S K W b1 c1 tt w) (h2 : VT S K W b2 c2 uu u) : VT S K W (b1 && b2) (c1 + c2) (tAnd tt uu) (tAndW w u) := by
  refine Vx.bind h fun x v B0 s σ g r ρ Φ Ψ Fr H fp n m Q hw st hn hm k kx => ?_
  obtain ⟨e1, e2⟩ := r
  subst e1 e2
  cases x with
  | true => exact h2 hw st hn hm k kx
  | false => exact k false ρ false B0 H fp [] n hw (Le.refl B0) (by omega) ⟨rfl, rfl⟩ st fun _ => ⟨rfl, rfl⟩
theorem t_or {w u : TW} (h : VT S K W b1 c1 tt w) (h2 : VT S K W b2 c2 uu u) : VT S K W (b1 && b2) (c1 + c2) (tOr tt uu) (tOrW w u) := by
  refine Vx.bind h fun x v B0 s σ g r ρ Φ Ψ Fr H fp n m Q hw st hn hm k kx => ?_
  obtain ⟨e1, e2⟩ := r
  subst e1 e2
  cases x with
  | false => exact h2 hw st hn hm k kx
  | true => exact k true ρ true B0 H fp [] n hw (Le.refl B0) (by omega) ⟨rfl, rfl⟩ st fun _ => ⟨rfl, rfl⟩
def dAnd (w u : DW) : DW := fun ρ Φ Ψ => w ρ (fun d ρ1 => ∃ x, d = .bl x ∧ if x = true then u ρ1 Φ Ψ else Φ (.bl false) ρ1) Ψ
def dOr (w u : DW) : DW := fun ρ Φ Ψ => w ρ (fun d ρ1 => ∃ x, d = .bl x ∧ if x = true then Φ (.bl true) ρ1 else u ρ1 Φ Ψ) Ψ
def dNot (w : DW) : DW := fun ρ Φ Ψ => w ρ (fun d ρ1 => ∃ x, d = .bl x ∧ Φ (.bl (!x)) ρ1) Ψ
theorem d_and {w u : DW} (h : VD S K W b1 c1 ta w) (h2 : VD S K W b2 c2 tb u) : VD S K W (b1 && b2) (c1 + c2) (tAndV ta tb) (dAnd w u) := by
  refine Vx.bind h fun d v B0 s σ g r ρ Φ Ψ Fr H fp n m Q hw st hn hm k kx => ?_
  obtain ⟨x, e, hw⟩ := hw
  obtain ⟨r, e2⟩ := r
  subst e e2
  cases r
  refine ⟨x, rfl, ?_⟩
  cases x with
  | true => exact h2 hw st hn hm k kx
  | false => exact k _ ρ _ B0 H fp [] n hw (Le.refl B0) (by omega) ⟨.bl false, rfl⟩ st fun _ => ⟨rfl, rfl⟩
theorem d_not {w : DW} (h : VD S K W b c ta w) : VD S K W b c (tNotV ta) (dNot w) := by
  intro s ρ Φ Ψ Fr B σ H fp n m Q hw st hn hm k kx
  refine h hw st hn hm (fun d ρ' v B' H' fp' g n' q l ln r st' hb => ?_) kx
  obtain ⟨x, e, q⟩ := q
  obtain ⟨r, e2⟩ := r
  subst e e2
  cases r
  exact ⟨x, rfl, k _ ρ' _ B' H' fp' [] n' q l ln ⟨.bl _, rfl⟩ st' hb⟩
/-- x if c else y, of any kind -/
def xIf {α : Type} (w : TW) (wa wb : List Ot → (α → List Ot → Prop) → XW → Prop) : List Ot → (α → List Ot → Prop) → XW → Prop := fun ρ Φ Ψ => w ρ (fun x ρ1 => if x = true then wa ρ1 Φ Ψ else wb ρ1 Φ Ψ) Ψ
end
end Vc
namespace Vc
open PySem PySem.Spec PyProof.Rows L2 Sx
structure EdV where
  nx : List Ot → Prop
  rt : Ot → List Ot → Prop
  xc : XW
  bk : List Ot → Prop := fun _ => False
  ct : List Ot → Prop := fun _ => False
abbrev SW := List Ot → EdV → Prop
section
variable (S : SrcRep) (K : PySem.W.Frag) (W : WX) (pn : Nat → Bool)
structure Aft (g : Bool) (s : Option Addr) (B : Hp) (σ : L2.St) (N : Nat) (s' : Option Addr) (ρ' : List Ot) (σ' : L2.St) (B' H' : Hp) (Fr fp' : Fp) (n' : Nat) : Prop where
  le : Le B B'
  nn : n' ≤ N
  gs : g = true → s' = s
  pp : ∀ k, pn k = true → σ'[k]? = σ[k]?
  st : Sr S K s' ρ' σ' B' H' Fr fp' n'
structure EO (g : Bool) (s : Option Addr) (E : EdV) (D : Ends) (Fr : Fp) (B : Hp) (σ : L2.St) (N : Nat) : Prop where
  nx : ∀ s' ρ' σ' B' H' fp' n', E.nx ρ' → Aft S K pn g s B σ N s' ρ' σ' B' H' Fr fp' n' → D.nx σ' H'
  rt : ∀ s' ρ' σ' B' H' fp' n' o v k, E.rt o ρ' → Ow K B' s' o v k → Aft S K pn g s B σ N s' ρ' σ' B' H' (k ++ Fr) fp' n' → D.rt v H'
  bk : ∀ s' ρ' σ' B' H' fp' n', E.bk ρ' → Aft S K pn g s B σ N s' ρ' σ' B' H' Fr fp' n' → D.bk σ' H'
  ct : ∀ s' ρ' σ' B' H' fp' n', E.ct ρ' → Aft S K pn g s B σ N s' ρ' σ' B' H' Fr fp' n' → D.ct σ' H'
  xc : ∀ s' ρ' σ' B' H' fp' n' C d a fs v, E.xc C d ρ' → Aft S K pn g s B σ N s' ρ' σ' B' H' Fr fp' n' → B' a = some (.xd fs) → fs.lookup (Str.ofString "value") = some v → Rp K B' v d → W (.ref C) (some a) σ' H'
def VS (g : Bool) (c : Nat) (t : TS) (w : SW) : Prop :=
  ∀ ⦃s : Option Addr⦄ ⦃ρ : List Ot⦄ ⦃E : EdV⦄ ⦃Fr : Fp⦄ ⦃B : Hp⦄ ⦃σ : L2.St⦄ ⦃H : Hp⦄ ⦃fp : Fp⦄ ⦃n : Nat⦄ ⦃D : Ends⦄, w ρ E → Sr S K s ρ σ B H Fr fp n → n + c ≤ BUD → EO S K W pn g s E D Fr B σ (n + c) → t D σ H
end
section
variable {S : SrcRep} {K : PySem.W.Frag} {W : WX} {pn : Nat → Bool} {s s' : Option Addr} {ρ ρ' : List Ot} {σ σ' : L2.St} {B B' H H' : Hp} {Fr fp fp' : Fp} {n n' N N' : Nat} {g g1 g2 g3 b b1 b2 : Bool} {c c1 c2 c3 : Nat} {te ta tb : TE} {tt : TT} {t u : TS} {E : EdV} {D : Ends}
theorem Aft.here (st : Sr S K s ρ σ B H Fr fp n) (h : n ≤ N) : Aft S K pn g s B σ N s ρ σ B H Fr fp n := ⟨Le.refl B, h, fun _ => rfl, fun _ _ => rfl, st⟩
theorem Aft.trans {s2 : Option Addr} {ρ2 : List Ot} {σ2 : L2.St} {B2 H2 : Hp} {Fr2 fp2 : Fp} {n2 : Nat} (a : Aft S K pn g1 s B σ N s' ρ' σ' B' H' Fr fp' n') (b : Aft S K pn g2 s' B' σ' N' s2 ρ2 σ2 B2 H2 Fr2 fp2 n2) (h : N' ≤ N) (hg : g = true → g1 = true ∧ g2 = true) :
    Aft S K pn g s B σ N s2 ρ2 σ2 B2 H2 Fr2 fp2 n2 := ⟨a.le.trans b.le, Nat.le_trans b.nn h, fun z => (b.gs (hg z).2).trans (a.gs (hg z).1), fun k z => (b.pp k z).trans (a.pp k z), b.st⟩
theorem Aft.weak {N2 : Nat} (a : Aft S K pn g1 s B σ N s' ρ' σ' B' H' Fr fp' n') (h : N ≤ N2) (hg : g = true → g1 = true) : Aft S K pn g s B σ N2 s' ρ' σ' B' H' Fr fp' n' := ⟨a.le, Nat.le_trans a.nn h, fun z => a.gs (hg z), a.pp, a.st⟩
/-- the ends seen from further on -/
theorem EO.from (e : EO S K W pn g s E D Fr B σ N) (a : Aft S K pn g1 s B σ N' s' ρ' σ' B' H' Fr fp' n') (h : N2 ≤ N) (hg : g = true → g1 = true ∧ g2 = true) (hN : N' ≤ N) : EO S K W pn g2 s' E D Fr B' σ' N2 := by
  have tr : ∀ {s2 : Option Addr} {ρ2 : List Ot} {σ2 : L2.St} {B2 H2 : Hp} {Fr2 fp2 : Fp} {n2 : Nat}, Aft S K pn g2 s' B' σ' N2 s2 ρ2 σ2 B2 H2 Fr2 fp2 n2 → Aft S K pn g s B σ N s2 ρ2 σ2 B2 H2 Fr2 fp2 n2 := fun b => (a.weak hN (fun z => (hg z).1)).trans b h fun z => ⟨z, (hg z).2⟩
  exact ⟨fun s2 ρ2 σ2 B2 H2 fp2 n2 q b => e.nx s2 ρ2 σ2 B2 H2 fp2 n2 q (tr b), fun s2 ρ2 σ2 B2 H2 fp2 n2 o v k q w b => e.rt s2 ρ2 σ2 B2 H2 fp2 n2 o v k q w (tr b),
    fun s2 ρ2 σ2 B2 H2 fp2 n2 q b => e.bk s2 ρ2 σ2 B2 H2 fp2 n2 q (tr b), fun s2 ρ2 σ2 B2 H2 fp2 n2 q b => e.ct s2 ρ2 σ2 B2 H2 fp2 n2 q (tr b), fun s2 ρ2 σ2 B2 H2 fp2 n2 C d a fs v q b => e.xc s2 ρ2 σ2 B2 H2 fp2 n2 C d a fs v q (tr b)⟩
theorem EO.kx (e : EO S K W pn g s E D Fr B σ N) : KX S K W s σ B Fr N E.xc := fun C d ρ' B' H' fp' n' a fs v q l ln st h1 h2 h3 => e.xc s ρ' σ B' H' fp' n' C d a fs v q ⟨l, ln, fun _ => rfl, fun _ _ => rfl, st⟩ h1 h2 h3
theorem EO.weak {N2 : Nat} (e : EO S K W pn g s E D Fr B σ N) (h : N2 ≤ N) (hg : g = true → g1 = true) : EO S K W pn g1 s E D Fr B σ N2 :=
  ⟨fun s2 ρ2 σ2 B2 H2 fp2 n2 q b => e.nx s2 ρ2 σ2 B2 H2 fp2 n2 q (b.weak h hg), fun s2 ρ2 σ2 B2 H2 fp2 n2 o v k q w b => e.rt s2 ρ2 σ2 B2 H2 fp2 n2 o v k q w (b.weak h hg),
    fun s2 ρ2 σ2 B2 H2 fp2 n2 q b => e.bk s2 ρ2 σ2 B2 H2 fp2 n2 q (b.weak h hg), fun s2 ρ2 σ2 B2 H2 fp2 n2 q b => e.ct s2 ρ2 σ2 B2 H2 fp2 n2 q (b.weak h hg), fun s2 ρ2 σ2 B2 H2 fp2 n2 C d a fs v q b => e.xc s2 ρ2 σ2 B2 H2 fp2 n2 C d a fs v q (b.weak h hg)⟩
def sSeq (w u : SW) : SW := fun ρ E => w ρ { E with nx := fun ρ' => u ρ' E }
theorem s_seq {w1 w2 : SW} (h1 : VS S K W pn g1 c1 t w1) (h2 : VS S K W pn g2 c2 u w2) : VS S K W pn (g1 && g2) (c1 + c2) (tSeq t u) (sSeq w1 w2) := by
  intro s ρ E Fr B σ H fp n D hw st hn e
  have hg : (g1 && g2) = true → g1 = true ∧ g2 = true := fun z => by rwa [Bool.and_eq_true] at z
  refine h1 hw st (by omega) ⟨fun s' ρ' σ' B' H' fp' n' q a => ?_, fun s2 ρ2 σ2 B2 H2 fp2 n2 o v k q w b => e.rt s2 ρ2 σ2 B2 H2 fp2 n2 o v k q w (b.weak (by omega) fun z => (hg z).1),
    fun s2 ρ2 σ2 B2 H2 fp2 n2 q b => e.bk s2 ρ2 σ2 B2 H2 fp2 n2 q (b.weak (by omega) fun z => (hg z).1), fun s2 ρ2 σ2 B2 H2 fp2 n2 q b => e.ct s2 ρ2 σ2 B2 H2 fp2 n2 q (b.weak (by omega) fun z => (hg z).1),
    fun s2 ρ2 σ2 B2 H2 fp2 n2 C d a fs v q b => e.xc s2 ρ2 σ2 B2 H2 fp2 n2 C d a fs v q (b.weak (by omega) fun z => (hg z).1)⟩
  have nn := a.nn
  exact h2 q a.st (by omega) (e.from a (by omega) hg (by omega))
def sNext : SW := fun ρ E => E.nx ρ
def sBreak : SW := fun ρ E => E.bk ρ
def sCont : SW := fun ρ E => E.ct ρ
theorem s_next : VS S K W pn true 0 tNext sNext := fun s ρ E Fr B σ H fp n D hw st hn e => e.nx s ρ σ B H fp n hw (Aft.here st (by omega))
def sDrop (w : EW) : SW := fun ρ E => w ρ (fun _ ρ1 => E.nx ρ1) E.xc
theorem s_drop {w : EW} (h : VE S K W b c te w) : VS S K W pn true c (tDrop te) (sDrop w) := fun s ρ E Fr B σ H fp n D hw st hn e =>
  h hw st (Nat.le_refl _) hn (fun x ρ' v B' H' fp' g n' q l ln r st' hb => e.nx s ρ' σ B' H' fp' n' q ⟨l, ln, fun _ => rfl, fun _ _ => rfl, st'.dropF⟩) e.kx
def sRet (pn : Nat → Bool) (w : EW) : SW := fun ρ E => w ρ (fun x ρ1 => match x with | .ow o => E.rt o ρ1 | .rf i => ∃ o, ρ1[i]? = some o ∧ o.isNo = false ∧ pn i = false ∧ E.rt o (ρ1.set i .no)) E.xc
def sRetD (w : DW) : SW := fun ρ E => w ρ (fun d ρ1 => E.rt (.fz d) ρ1) E.xc
theorem pm2 {α : Type} (k a b d : List α) : (k ++ (a ++ (b ++ d))).Perm (a ++ (b ++ (k ++ d))) := (List.perm_append_comm_assoc k a _).trans (List.Perm.append_left a (List.perm_append_comm_assoc k b d))
theorem pm3 {α : Type} (k a b c d : List α) : (k ++ (a ++ (b ++ (c ++ d)))).Perm (a ++ (b ++ (c ++ (k ++ d)))) := (List.perm_append_comm_assoc k a _).trans (List.Perm.append_left a (pm2 k b c d))
/-- a slot is emptied, its objects go to the frame -/
theorem Sr.take {i : Nat} {o : Ot} {v : V} (st : Sr S K s ρ σ B H Fr fp n) (e : ρ[i]? = some o) (hn : o.isNo = false) (hv : σ[i]? = some (some v)) : ∃ k fp', Ow K B s o v k ∧ Sr S K s (ρ.set i .no) σ B H (k ++ Fr) fp' n := by
  obtain ⟨en, sf, a, b⟩ := st
  obtain ⟨v', k, r1, r2, h1, h2, h3, _, h5⟩ := en.at_ e hn
  rw [hv] at h1
  cases h1
  subst h2
  refine ⟨k, r1 ++ r2, h3, ?_, sf, a, b.perm ?_⟩
  · have := h5 (some v)
    rwa [set_same' hv] at this
  · simp only [List.append_assoc]
    exact List.Perm.append_left r1 (pm2 k r2 sf Fr).symm
theorem s_ret {w : EW} (h : VE S K W b c te w) : VS S K W pn true c (tRet te) (sRet pn w) := fun s ρ E Fr B σ H fp n D hw st hn e =>
  h hw st (Nat.le_refl _) hn (fun x ρ' v B' H' fp' g n' q l ln r st' hb => by
    cases x with
    | ow o => exact e.rt s ρ' σ B' H' fp' n' o v g q r ⟨l, ln, fun _ => rfl, fun _ _ => rfl, st'⟩
    | rf i =>
      obtain ⟨o, e1, e2, _, q⟩ := q
      obtain ⟨r, e0⟩ := r
      subst e0
      obtain ⟨k, fp2, w2, st2⟩ := Sr.take (Fr := Fr) st' e1 e2 r
      exact e.rt s _ σ B' H' fp2 n' o v k q w2 ⟨l, ln, fun _ => rfl, fun _ _ => rfl, st2⟩) e.kx
theorem s_retD {w : DW} (h : VD S K W b c te w) : VS S K W pn true c (tRet te) (sRetD w) := fun s ρ E Fr B σ H fp n D hw st hn e =>
  h hw st (Nat.le_refl _) hn (fun d ρ' v B' H' fp' g n' q l ln r st' hb => by
    obtain ⟨r, e0⟩ := r
    subst e0
    exact e.rt s ρ' σ B' H' fp' n' _ v [] q (.fz r) ⟨l, ln, fun _ => rfl, fun _ _ => rfl, st'⟩) e.kx
def sRetN : SW := fun ρ E => E.rt (.fz .non) ρ
def sIf (w : TW) (wa wb : SW) : SW := fun ρ E => w ρ (fun x ρ1 => if x = true then wa ρ1 E else wb ρ1 E) E.xc
theorem s_if {w : TW} {wa wb : SW} (h : VT S K W b c1 tt w) (h1 : VS S K W pn g2 c2 t wa) (h2 : VS S K W pn g3 c3 u wb) : VS S K W pn (g2 && g3) (c1 + (c2 + c3)) (tIfS tt t u) (sIf w wa wb) := by
  intro s ρ E Fr B σ H fp n D hw st hn e
  have hg : (g2 && g3) = true → g2 = true ∧ g3 = true := fun z => by rwa [Bool.and_eq_true] at z
  refine h hw st (Nat.le_refl (n + c1)) (by omega) (fun x ρ' v B' H' fp' g n' q l ln r st' hb => ?_) (e.weak (g1 := g2 && g3) (by omega) fun z => z).kx
  obtain ⟨e1, e2⟩ := r
  subst e1 e2
  have a : Aft S K pn true s B σ (n + c1) s ρ' σ B' H' Fr fp' n' := ⟨l, ln, fun _ => rfl, fun _ _ => rfl, st'⟩
  cases x with
  | true => exact h1 q st' (by omega) (e.from a (by omega) (fun z => ⟨rfl, (hg z).1⟩) (by omega))
  | false => exact h2 q st' (by omega) (e.from a (by omega) (fun z => ⟨rfl, (hg z).2⟩) (by omega))
theorem pp_set {i : Nat} {x : Option V} (h : pn i = false) : ∀ k, pn k = true → (σ.set i x)[k]? = σ[k]? := fun k hk => by
  refine List.getElem?_set_ne fun z => ?_
  subst z
  rw [h] at hk
  cases hk
/-- a value goes into a slot -/
theorem Sr.store {i : Nat} {o : Ot} {v : V} {k : Fp} (st : Sr S K s ρ σ B H (k ++ Fr) fp n) (w : Ow K B s o v k) (hi : i < ρ.length) : ∃ fp', Sr S K s (ρ.set i o) (σ.set i (some v)) B H Fr fp' n := by
  obtain ⟨en, sf, a, b⟩ := st
  obtain ⟨r1, g0, r2, e1, e2⟩ := en.put w hi
  subst e1
  refine ⟨_, e2, sf, a, Hd.sub (b.perm (ch' := (r1 ++ (k ++ (g0 ++ r2))) ++ (sf ++ Fr)) ?_) ?_⟩
  · simp only [List.append_assoc]
    exact List.Perm.append_left r1 (pm3 k g0 r2 sf Fr)
  · refine List.Sublist.append_right ?_ _
    exact ((List.sublist_append_right g0 r2).append_left k).append_left r1
def stO (pn : Nat → Bool) (i : Nat) (x : Vl) (ρ1 : List Ot) (N : List Ot → Prop) : Prop :=
  pn i = false ∧ i < ρ1.length ∧ match x with | .ow o => N (ρ1.set i o) | .rf j => ∃ o d, ρ1[j]? = some o ∧ toD o = some d ∧ N ((ρ1.set j (.fz d)).set i (.fz d))
def sAsg (pn : Nat → Bool) (i : Nat) (w : EW) : SW := fun ρ E => w ρ (fun x ρ1 => stO pn i x ρ1 E.nx) E.xc
theorem s_asg {w : EW} {i : Nat} (h : VE S K W b c te w) : VS S K W pn true c (tAsg te (gName i)) (sAsg pn i w) := fun s ρ E Fr B σ H fp n D hw st hn e =>
  h hw st (Nat.le_refl _) hn (fun x ρ' v B' H' fp' g n' q l ln r st' hb => by
    obtain ⟨hp, hi, q⟩ := q
    cases x with
    | ow o =>
      obtain ⟨fp2, st2⟩ := st'.store r hi
      exact e.nx s _ _ B' H' fp2 n' q ⟨l, ln, fun _ => rfl, pp_set hp, st2⟩
    | rf j =>
      obtain ⟨o, d, e1, e2, q⟩ := q
      obtain ⟨r, e0⟩ := r
      subst e0
      obtain ⟨B2, fp2, l2, r2, st2⟩ := Sr.fzSlot (Fr := Fr) st' e1 e2 r
      obtain ⟨fp3, st3⟩ := Sr.store (k := []) (i := i) st2 (.fz r2) (by rw [List.length_set]; exact hi)
      exact e.nx s _ _ B2 H' fp3 n' q ⟨l.trans l2, ln, fun _ => rfl, pp_set hp, st3⟩) e.kx
def sAsgD (pn : Nat → Bool) (i : Nat) (w : DW) : SW := fun ρ E => w ρ (fun d ρ1 => pn i = false ∧ i < ρ1.length ∧ E.nx (ρ1.set i (.fz d))) E.xc
theorem s_asgD {w : DW} {i : Nat} (h : VD S K W b c te w) : VS S K W pn true c (tAsg te (gName i)) (sAsgD pn i w) := fun s ρ E Fr B σ H fp n D hw st hn e =>
  h hw st (Nat.le_refl _) hn (fun d ρ' v B' H' fp' g n' q l ln r st' hb => by
    obtain ⟨hp, hi, q⟩ := q
    obtain ⟨r, e0⟩ := r
    subst e0
    obtain ⟨fp2, st2⟩ := Sr.store (k := []) st' (.fz r) hi
    exact e.nx s _ _ B' H' fp2 n' q ⟨l, ln, fun _ => rfl, pp_set hp, st2⟩) e.kx
/-- targets: data into names -/
inductive Tg where
  | nm (i : Nat) | tp (gs : List Tg)
mutual
def Tg.tg (K : PySem.W.Frag) : Tg → TG
  | .nm i => gName i
  | .tp gs => gTup K (lenT gs) (tgs K gs)
def tgs (K : PySem.W.Frag) : List Tg → TGs
  | [] => gNil
  | g :: gs => gCons (g.tg K) (tgs K gs)
def lenT : List Tg → Nat
  | [] => 0
  | _ :: gs => lenT gs + 1
end
mutual
/-- the slots behind it -/
def Tg.put (pn : Nat → Bool) : Tg → Dt → List Ot → (List Ot → Prop) → Prop
  | .nm i, d, ρ, N => pn i = false ∧ i < ρ.length ∧ N (ρ.set i (.fz d))
  | .tp gs, .tup ds, ρ, N => putT pn gs ds ρ N
  | .tp _, _, _, _ => False
def putT (pn : Nat → Bool) : List Tg → List Dt → List Ot → (List Ot → Prop) → Prop
  | [], [], ρ, N => N ρ
  | g :: gs, d :: ds, ρ, N => g.put pn d ρ fun ρ1 => putT pn gs ds ρ1 N
  | _, _, _, _ => False
end
theorem putT_len : ∀ {gs : List Tg} {ds : List Dt} {ρ : List Ot} {N : List Ot → Prop}, putT pn gs ds ρ N → ds.length = lenT gs
  | [], [], _, _, _ => rfl
  | _ :: gs, _ :: ds, _, _, h => by
    unfold putT at h
    have : ∀ {g : Tg} {d : Dt} {ρ : List Ot} {M : List Ot → Prop}, Tg.put pn g d ρ M → ∃ ρ1, M ρ1 := by
      intro g d ρ M h
      exact (go g d ρ M h)
    obtain ⟨ρ1, h1⟩ := this h
    rw [List.length_cons, putT_len h1]
    rfl
  | [], _ :: _, _, _, h => by unfold putT at h; exact h.elim
  | _ :: _, [], _, _, h => by unfold putT at h; exact h.elim
where
  go : ∀ (g : Tg) (d : Dt) (ρ : List Ot) (M : List Ot → Prop), Tg.put pn g d ρ M → ∃ ρ1, M ρ1
  | .nm i, d, ρ, M, h => ⟨_, by unfold Tg.put at h; exact h.2.2⟩
  | .tp gs, .tup ds, ρ, M, h => by unfold Tg.put at h; exact goT gs ds ρ M h
  | .tp _, .non, _, _, h => by unfold Tg.put at h; exact h.elim
  | .tp _, .bl _, _, _, h => by unfold Tg.put at h; exact h.elim
  | .tp _, .int _, _, _, h => by unfold Tg.put at h; exact h.elim
  | .tp _, .str _, _, _, h => by unfold Tg.put at h; exact h.elim
  | .tp _, .lst _, _, _, h => by unfold Tg.put at h; exact h.elim
  | .tp _, .dic _, _, _, h => by unfold Tg.put at h; exact h.elim
  | .tp _, .dit _, _, _, h => by unfold Tg.put at h; exact h.elim
  | .tp _, .ins _ _, _, _, h => by unfold Tg.put at h; exact h.elim
  | .tp _, .scr _, _, _, h => by unfold Tg.put at h; exact h.elim
  | .tp _, .ty _, _, _, h => by unfold Tg.put at h; exact h.elim
  | .tp _, .exn _ _ _ _, _, _, h => by unfold Tg.put at h; exact h.elim
  | .tp _, .wk _, _, _, h => by unfold Tg.put at h; exact h.elim
  goT : ∀ (gs : List Tg) (ds : List Dt) (ρ : List Ot) (M : List Ot → Prop), putT pn gs ds ρ M → ∃ ρ1, M ρ1
  | [], [], ρ, M, h => ⟨ρ, by unfold putT at h; exact h⟩
  | g :: gs, d :: ds, ρ, M, h => by
    unfold putT at h
    obtain ⟨ρ1, h1⟩ := go g d ρ _ h
    exact goT gs ds ρ1 M h1
  | [], _ :: _, _, _, h => by unfold putT at h; exact h.elim
  | _ :: _, [], _, _, h => by unfold putT at h; exact h.elim
end
end Vc
namespace Vc
open PySem PySem.Spec PyProof.Rows L2 Sx
mutual
def Tg.inn (vs : List Nat) : Tg → Bool
  | .nm i => vs.contains i
  | .tp gs => innT vs gs
def innT (vs : List Nat) : List Tg → Bool
  | [] => true
  | g :: gs => g.inn vs && innT vs gs
end
section
variable {S : SrcRep} {K : PySem.W.Frag} {W : WX} {pn : Nat → Bool} {s s' : Option Addr} {ρ ρ' : List Ot} {σ σ' : L2.St} {B B' H H' : Hp} {Fr fp fp' : Fp} {n n' N N' : Nat} {g g1 g2 g3 b b1 b2 b3 : Bool} {c c1 c2 c3 : Nat} {te ta tb : TE} {tt : TT} {t u : TS} {E : EdV} {D : Ends} {wi : TI}
theorem pp_trans {σ1 σ2 : L2.St} (h1 : ∀ k, pn k = true → σ1[k]? = σ[k]?) (h2 : ∀ k, pn k = true → σ2[k]? = σ1[k]?) : ∀ k, pn k = true → σ2[k]? = σ[k]? := fun k z => (h2 k z).trans (h1 k z)
mutual
theorem tg_put : ∀ (g : Tg) {d : Dt} {ρ : List Ot} {σ : L2.St} {M : List Ot → Prop} {v : V} {fp : Fp} {Q : L2.St → Hp → Prop}, g.put pn d ρ M → Sr S K s ρ σ B H Fr fp n → Rp K B v d →
    (∀ ρ' σ' fp', M ρ' → (∀ k, pn k = true → σ'[k]? = σ[k]?) → Sr S K s ρ' σ' B H Fr fp' n → (∀ vs, g.inn vs = true → wipe σ' vs = wipe σ vs) → Q σ' H) → g.tg K v σ H Q
  | .nm i, d, ρ, σ, M, v, fp, Q, h, st, r, k => by
    unfold Tg.put at h
    obtain ⟨hp, hi, q⟩ := h
    obtain ⟨fp2, st2⟩ := Sr.store (k := []) st (.fz r) hi
    exact k _ _ fp2 q (pp_set hp) st2 fun vs z => wipe_comm σ i _ vs (List.contains_iff_mem.mp (by unfold Tg.inn at z; exact z))
  | .tp gs, .tup ds, ρ, σ, M, v, fp, Q, h, st, r, k => by
    unfold Tg.put at h
    cases r with
    | tup hb ha =>
      refine ⟨_, _, rfl, SqT.of (st.same _ _ hb), by rw [ha.len]; exact putT_len h, ?_⟩
      exact tgs_put gs h st ha fun ρ' σ' fp' q pp st' w => k ρ' σ' fp' q pp st' fun vs z => w vs (by unfold Tg.inn at z; exact z)
  | .tp _, .non, _, _, _, _, _, _, h, _, _, _ => by unfold Tg.put at h; exact h.elim
  | .tp _, .bl _, _, _, _, _, _, _, h, _, _, _ => by unfold Tg.put at h; exact h.elim
  | .tp _, .int _, _, _, _, _, _, _, h, _, _, _ => by unfold Tg.put at h; exact h.elim
  | .tp _, .str _, _, _, _, _, _, _, h, _, _, _ => by unfold Tg.put at h; exact h.elim
  | .tp _, .lst _, _, _, _, _, _, _, h, _, _, _ => by unfold Tg.put at h; exact h.elim
  | .tp _, .dic _, _, _, _, _, _, _, h, _, _, _ => by unfold Tg.put at h; exact h.elim
  | .tp _, .dit _, _, _, _, _, _, _, h, _, _, _ => by unfold Tg.put at h; exact h.elim
  | .tp _, .ins _ _, _, _, _, _, _, _, h, _, _, _ => by unfold Tg.put at h; exact h.elim
  | .tp _, .scr _, _, _, _, _, _, _, h, _, _, _ => by unfold Tg.put at h; exact h.elim
  | .tp _, .ty _, _, _, _, _, _, _, h, _, _, _ => by unfold Tg.put at h; exact h.elim
  | .tp _, .exn _ _ _ _, _, _, _, _, _, _, h, _, _, _ => by unfold Tg.put at h; exact h.elim
  | .tp _, .wk _, _, _, _, _, _, _, h, _, _, _ => by unfold Tg.put at h; exact h.elim
theorem tgs_put : ∀ (gs : List Tg) {ds : List Dt} {ρ : List Ot} {σ : L2.St} {M : List Ot → Prop} {vs : List V} {fp : Fp} {Q : L2.St → Hp → Prop}, putT pn gs ds ρ M → Sr S K s ρ σ B H Fr fp n → RpA K B vs ds →
    (∀ ρ' σ' fp', M ρ' → (∀ k, pn k = true → σ'[k]? = σ[k]?) → Sr S K s ρ' σ' B H Fr fp' n → (∀ us, innT us gs = true → wipe σ' us = wipe σ us) → Q σ' H) → tgs K gs vs σ H Q
  | [], [], ρ, σ, M, vs, fp, Q, h, st, r, k => by
    unfold putT at h
    cases r
    exact ⟨rfl, k ρ σ fp h (fun _ _ => rfl) st fun _ _ => rfl⟩
  | g :: gs, d :: ds, ρ, σ, M, vs, fp, Q, h, st, r, k => by
    unfold putT at h
    cases r with
    | cons r1 r2 =>
      refine ⟨_, _, rfl, ?_⟩
      refine tg_put g h st r1 fun ρ1 σ1 fp1 q1 pp1 st1 w1 => ?_
      refine tgs_put gs q1 st1 r2 fun ρ2 σ2 fp2 q2 pp2 st2 w2 => ?_
      refine k ρ2 σ2 fp2 q2 (pp_trans pp1 pp2) st2 fun us z => ?_
      unfold innT at z
      rw [Bool.and_eq_true] at z
      exact (w2 us z.2).trans (w1 us z.1)
  | [], _ :: _, _, _, _, _, _, _, h, _, _, _ => by unfold putT at h; exact h.elim
  | _ :: _, [], _, _, _, _, _, _, h, _, _, _ => by unfold putT at h; exact h.elim
end
def sAsgT (pn : Nat → Bool) (g : Tg) (w : DW) : SW := fun ρ E => w ρ (fun d ρ1 => g.put pn d ρ1 E.nx) E.xc
theorem s_asgT {w : DW} (tg : Tg) (h : VD S K W b c te w) : VS S K W pn true c (tAsg te (tg.tg K)) (sAsgT pn tg w) := fun s ρ E Fr B σ H fp n D hw st hn e =>
  h hw st (Nat.le_refl _) hn (fun d ρ' v B' H' fp' g n' q l ln r st' hb => by
    obtain ⟨r, e0⟩ := r
    subst e0
    exact tg_put tg q st' r fun ρ2 σ2 fp2 q2 pp2 st2 _ => e.nx s ρ2 σ2 B' H' fp2 n' q2 ⟨l, ln, fun _ => rfl, pp2, st2⟩) e.kx
/-- x op= e of ints -/
def sAug (pn : Nat → Bool) (i : Nat) (f : Int → Int → Int) (w : DW) : SW := fun ρ E => ∃ a, ρ[i]? = some (.fz (.int a)) ∧ w ρ (fun d ρ1 => ∃ x, d = .int x ∧ pn i = false ∧ i < ρ1.length ∧ E.nx (ρ1.set i (.fz (.int (f a x))))) E.xc
def VI (S : SrcRep) (K : PySem.W.Frag) (W : WX) (b : Bool) (c : Nat) (wi : TI) (w : LW) : Prop :=
  ∀ ⦃s : Option Addr⦄ ⦃ρ : List Ot⦄ ⦃Φ : List Dt → List Ot → Prop⦄ ⦃Ψ : XW⦄ ⦃Fr : Fp⦄ ⦃B : Hp⦄ ⦃σ : L2.St⦄ ⦃H : Hp⦄ ⦃fp : Fp⦄ ⦃n m : Nat⦄ ⦃R : It → Hp → Prop⦄, w ρ Φ Ψ → Sr S K s ρ σ B H Fr fp n → n + c ≤ m → m ≤ BUD →
    (∀ ds ρ' J B' H' fp' n', Φ ds ρ' → Le B B' → n' ≤ n + c → Sr S K s ρ' σ B' H' Fr fp' n' → (b = true → ρ' = ρ ∧ fp' = fp) → ItD K J B' ds → R J H') → KX S K W s σ B Fr m Ψ → wi σ H R
def iLst (w : DW) : LW := fun ρ Φ Ψ => w ρ (fun d ρ1 => ∃ ds, d = .lst ds ∧ Φ ds ρ1) Ψ
theorem i_list {w : DW} (h : VD S K W b c te w) : VI S K W b c (iList K te) (iLst w) := by
  intro s ρ Φ Ψ Fr B σ H fp n m R hw st hn hm k kx
  refine h hw st hn hm (fun d ρ' v B' H' fp' g n' q l ln r st' hb => ?_) kx
  obtain ⟨ds, e, q⟩ := q
  obtain ⟨r, e0⟩ := r
  subst e e0
  cases r with
  | lst h1 h2 => exact ⟨_, rfl, ⟨_, SqL.of (st'.same _ _ h1)⟩, k ds ρ' _ B' H' fp' n' q l ln st' hb (itd_list h1 h2)⟩
def iScr (w : DW) : LW := fun ρ Φ Ψ => w ρ (fun d ρ1 => ∃ ns, d = .scr ns ∧ Φ (ns.map Dt.int) ρ1) Ψ
def iTupW (w : DW) : LW := fun ρ Φ Ψ => w ρ (fun d ρ1 => ∃ ds, d = .tup ds ∧ Φ ds ρ1) Ψ
def iStrW (w : DW) : LW := fun ρ Φ Ψ => w ρ (fun d ρ1 => ∃ z : Str, d = .str z ∧ Φ (z.cps.toList.map fun c => .str (sgn c)) ρ1) Ψ
theorem i_str {w : DW} (h : VD S K W b c te w) : VI S K W b c (iStr te) (iStrW w) := by
  intro s ρ Φ Ψ Fr B σ H fp n m R hw st hn hm k kx
  refine h hw st hn hm (fun d ρ' v B' H' fp' g n' q l ln r st' hb => ?_) kx
  obtain ⟨z, e, q⟩ := q
  obtain ⟨r, e0⟩ := r
  subst e e0
  cases r
  exact ⟨_, rfl, k _ ρ' _ B' H' fp' n' q l ln st' hb itd_str⟩
variable {ta' : TA}
def iRg1 (w : LW) : LW := fun ρ Φ Ψ => w ρ (fun ds ρ1 => ∃ a : Int, ds = [.int a] ∧ a < 2 ^ 62 ∧ -(2 ^ 62) ≤ a ∧ Φ (rngD 0 a.toNat) ρ1) Ψ
theorem i_rg1 {w : LW} (h : VL S K W b c ta' w) : VI S K W b c (iRng1 ta') (iRg1 w) := by
  intro s ρ Φ Ψ Fr B σ H fp n m R hw st hn hm k kx
  refine h hw st hn hm (fun d ρ' v B' H' fp' g n' q l ln r st' hb => ?_) kx
  obtain ⟨a, e, q1, q2, q⟩ := q
  obtain ⟨r, e0⟩ := r
  subst e e0
  cases r with
  | cons r1 r2 => cases r2; cases r1; exact ⟨a, rfl, q2, q1, k _ ρ' _ B' H' fp' n' q l ln st' hb itd_rng⟩
def iRg2 (w : LW) : LW := fun ρ Φ Ψ => w ρ (fun ds ρ1 => ∃ a z : Int, ds = [.int a, .int z] ∧ (-(2 ^ 62) ≤ a ∧ a < 2 ^ 62 ∧ -(2 ^ 62) ≤ z ∧ z < 2 ^ 62) ∧ Φ (rngD a (z - a).toNat) ρ1) Ψ
def iEnumW (w : LW) : LW := fun ρ Φ Ψ => w ρ (fun ds ρ1 => ∃ es, ds = [.lst es] ∧ Φ (enumD es) ρ1) Ψ
theorem i_enum {w : LW} (h : VL S K W b c ta' w) : VI S K W b c (iEnum K ta') (iEnumW w) := by
  intro s ρ Φ Ψ Fr B σ H fp n m R hw st hn hm k kx
  refine h hw st hn hm (fun d ρ' v B' H' fp' g n' q l ln r st' hb => ?_) kx
  obtain ⟨es, e, q⟩ := q
  obtain ⟨r, e0⟩ := r
  subst e e0
  cases r with
  | cons r1 r2 =>
    cases r2
    cases r1 with
    | lst h1 h2 => exact ⟨_, _, rfl, SqL.of (st'.same _ _ h1), k _ ρ' _ B' H' fp' n' q l ln st' hb (itd_enum h1 h2)⟩
def iZipW (w : LW) : LW := fun ρ Φ Ψ => w ρ (fun ds ρ1 => ∃ es gs, ds = [.lst es, .lst gs] ∧ Φ (zipD es gs) ρ1) Ψ
def Fg : List Ot → List Ot → Prop
  | [], [] => True
  | a :: as, b :: bs => (b = .no ∨ a = b) ∧ Fg as bs
  | _, _ => False
theorem Fg.en : ∀ {ρ ρ' : List Ot} {σ : L2.St} {f : Fp}, Fg ρ ρ' → En K B s ρ σ f → ∃ f', En K B s ρ' σ f' ∧ f'.Sublist f
  | [], [], _, f, _, h => ⟨f, h, .refl _⟩
  | _ :: as, b :: bs, _, _, ⟨h1, h2⟩, .no t => by
    obtain ⟨f', e, l⟩ := Fg.en h2 t
    rcases h1 with h1 | h1
    · subst h1; exact ⟨f', .no e, l⟩
    · subst h1; exact ⟨f', .no e, l⟩
  | _ :: as, b :: bs, _, _, ⟨h1, h2⟩, .cons (f := f) w t => by
    obtain ⟨f', e, l⟩ := Fg.en h2 t
    rcases h1 with h1 | h1
    · subst h1; exact ⟨f', .no e, l.trans (List.sublist_append_right _ _)⟩
    · subst h1; exact ⟨f ++ f', .cons w e, (List.Sublist.refl f).append l⟩
  | [], _ :: _, _, _, h, _ => h.elim
  | _ :: _, [], _, _, h, _ => h.elim
theorem Fg.sr (h : Fg ρ ρ') (st : Sr S K s ρ σ B H Fr fp n) : ∃ fp', Sr S K s ρ' σ B H Fr fp' n := by
  obtain ⟨e, sf, a, b⟩ := st
  obtain ⟨f', e', l⟩ := h.en e
  exact ⟨f', e', sf, a, Hd.sub b (l.append_right _)⟩
theorem Fg.refl : ∀ ρ : List Ot, Fg ρ ρ
  | [] => trivial
  | _ :: r => ⟨.inr rfl, Fg.refl r⟩
/-- so much is known behind it -/
def Fgt (J : List Ot → Prop) (ρ : List Ot) : Prop := ∃ ρ2, Fg ρ ρ2 ∧ J ρ2
theorem Aft.fgt {J : List Ot → Prop} {g : Bool} {s s' : Option Addr} {B B' H' : Hp} {σ σ' : L2.St} {N : Nat} {ρ' : List Ot} {Fr fp' : Fp} {n' : Nat} (h : Fgt J ρ') (a : Aft S K pn g s B σ N s' ρ' σ' B' H' Fr fp' n') : ∃ ρ2 fp2, J ρ2 ∧ Aft S K pn g s B σ N s' ρ2 σ' B' H' Fr fp2 n' := by
  obtain ⟨ρ2, w, q⟩ := h
  obtain ⟨fp2, st2⟩ := w.sr a.st
  exact ⟨ρ2, fp2, q, a.le, a.nn, a.gs, a.pp, st2⟩
def sSeqM (w u : SW) : SW := fun ρ E => ∃ J : List Ot → Prop, w ρ { E with nx := Fgt J } ∧ ∀ ρ2, J ρ2 → u ρ2 E
theorem s_seqM {w1 w2 : SW} (h1 : VS S K W pn g1 c1 t w1) (h2 : VS S K W pn g2 c2 u w2) : VS S K W pn (g1 && g2) (c1 + c2) (tSeq t u) (sSeqM w1 w2) := by
  intro s ρ E Fr B σ H fp n D hw st hn e
  obtain ⟨J, hw, hj⟩ := hw
  have hg : (g1 && g2) = true → g1 = true ∧ g2 = true := fun z => by rwa [Bool.and_eq_true] at z
  refine h1 hw st (by omega) ⟨fun s' ρ' σ' B' H' fp' n' q a => ?_, fun s2 ρ2 σ2 B2 H2 fp2 n2 o v k q w b => e.rt s2 ρ2 σ2 B2 H2 fp2 n2 o v k q w (b.weak (by omega) fun z => (hg z).1),
    fun s2 ρ2 σ2 B2 H2 fp2 n2 q b => e.bk s2 ρ2 σ2 B2 H2 fp2 n2 q (b.weak (by omega) fun z => (hg z).1), fun s2 ρ2 σ2 B2 H2 fp2 n2 q b => e.ct s2 ρ2 σ2 B2 H2 fp2 n2 q (b.weak (by omega) fun z => (hg z).1),
    fun s2 ρ2 σ2 B2 H2 fp2 n2 C d a fs v q b => e.xc s2 ρ2 σ2 B2 H2 fp2 n2 C d a fs v q (b.weak (by omega) fun z => (hg z).1)⟩
  obtain ⟨ρ3, fp3, q3, a3⟩ := a.fgt q
  have nn := a3.nn
  exact h2 (hj ρ3 q3) a3.st (by omega) (e.from a3 (by omega) hg (by omega))
def forP (pn : Nat → Bool) (tg : Tg) (w : SW) (E : EdV) : List Dt → List Ot → Prop
  | [], ρ => E.nx ρ
  | d :: ds, ρ => tg.put pn d ρ fun ρ1 => w ρ1 { nx := Fgt (forP pn tg w E ds), ct := Fgt (forP pn tg w E ds), bk := E.nx, rt := E.rt, xc := E.xc }
def FORN : Nat := 4096
def sFor (pn : Nat → Bool) (tg : Tg) (cb : Nat) (wi : LW) (w : SW) : SW := fun ρ E => wi ρ (fun ds ρ1 => (cb = 0 ∨ ds.length ≤ FORN) ∧ Fgt (forP pn tg w E ds) ρ1) E.xc
theorem Sr.turn {J : It} {B0 : Hp} {ds : List Dt} (hit : ItD K J B0 ds) (st : Sr S K s ρ σ B H Fr fp n) (l : Le B0 B) (i : Nat) :
    (∀ d, ds[i]? = some d → J.go i H ∧ ∀ x H', J.yld i H x H' → ∃ B', Le B B' ∧ Sr S K s ρ σ B' H' Fr fp n ∧ Rp K B' x d) ∧ (ds.length ≤ i → J.stop i H) := by
  obtain ⟨F, hc, back⟩ := st.hc
  obtain ⟨h1, h2⟩ := hit B H [] F i l hc
  refine ⟨fun d hd => ?_, h2⟩
  obtain ⟨h3, h4⟩ := h1 d hd
  refine ⟨h3, fun x H' y => ?_⟩
  obtain ⟨B', l', c', r'⟩ := h4 x H' y
  exact ⟨B', l', back B' H' l' c', r'⟩
theorem s_for {w : SW} {wl : LW} (tg : Tg) (h : VI S K W b c1 wi wl) (h2 : VS S K W pn g2 c2 t w) : VS S K W pn g2 (c1 + FORN * c2) (tFor wi (tg.tg K) t) (sFor pn tg c2 wl w) := by
  intro s ρ E Fr B σ H fp n D hw st hn e
  refine h hw st (Nat.le_refl (n + c1)) (by omega) (fun ds ρ1 J B1 H1 fp1 n1 q l ln st1 hb hit => ?_) (e.weak (g1 := g2) (by omega) fun z => z).kx
  obtain ⟨hlen, ρ0, w0, q⟩ := q
  obtain ⟨fp0, st0⟩ := w0.sr st1
  have hlen : ∀ i, i ≤ ds.length → i * c2 ≤ FORN * c2 := fun i hi => by
    rcases hlen with h0 | h0
    · rw [h0]; omega
    · exact Nat.mul_le_mul_right c2 (Nat.le_trans hi h0)
  let Pv : Nat → L2.St → Hp → Prop := fun i σ' H' => ∃ s' ρ' B' fp' n', forP pn tg w E (ds.drop i) ρ' ∧ Aft S K pn g2 s B1 σ (n1 + i * c2) s' ρ' σ' B' H' Fr fp' n'
  have a0 : Aft S K pn true s B σ (n + c1) s ρ0 σ B1 H1 Fr fp0 n1 := ⟨l, ln, fun _ => rfl, fun _ _ => rfl, st0⟩
  refine ⟨fun i m σ' H' => m = ds.length - i ∧ i ≤ ds.length ∧ Pv i σ' H', ⟨ds.length, by simp, Nat.zero_le _, s, ρ0, B1, fp0, n1, q, Aft.here st0 (by omega)⟩, ?_⟩
  rintro i m σ' H' ⟨rfl, hi, s', ρ', B', fp', n', q', a⟩
  obtain ⟨hgo, hstop⟩ := Sr.turn hit a.st a.le i
  by_cases hlt : i < ds.length
  · have hdi : ds[i]? = some ds[i] := List.getElem?_eq_getElem hlt
    obtain ⟨t1, t2⟩ := hgo _ hdi
    refine .inr ⟨t1, Pv (i + 1), fun σ2 H2 p => ⟨ds.length - (i + 1), by omega, rfl, hlt, p⟩, fun x H2 y => ?_⟩
    obtain ⟨B2, l2, st2, r2⟩ := t2 x H2 y
    rw [List.drop_eq_getElem_cons hlt] at q'
    unfold forP at q'
    refine tg_put tg q' st2 r2 fun ρ3 σ3 fp3 q3 pp3 st3 _ => ?_
    have a3 : Aft S K pn g2 s B1 σ (n1 + i * c2) s' ρ3 σ3 B2 H2 Fr fp3 n' := ⟨a.le.trans l2, a.nn, a.gs, pp_trans a.pp pp3, st3⟩
    have hh := hlen (i + 1) hlt
    have e1 : (i + 1) * c2 = i * c2 + c2 := Nat.succ_mul i c2
    have nn := a.nn
    have gg : g2 = true → true = true ∧ g2 = true := fun z => ⟨rfl, z⟩
    have g22 : g2 = true → g2 = true ∧ g2 = true := fun z => ⟨z, z⟩
    have eo := (e.from a0 (N2 := n1 + FORN * c2) (by omega) gg (by omega))
    have eo2 := eo.from a3 (N2 := n' + c2) (by omega) g22 (by omega)
    refine h2 q3 st3 (by omega) ⟨fun s4 ρ4 σ4 B4 H4 fp4 n4 q4 a4 => by
        obtain ⟨ρ5, fp5, q5, a5⟩ := a4.fgt q4
        exact ⟨s4, ρ5, B4, fp5, n4, q5, a3.weak (N2 := n1 + (i + 1) * c2) (by omega) (fun z => z) |>.trans a5 (by omega) g22⟩, eo2.rt, fun s4 ρ4 σ4 B4 H4 fp4 n4 q4 a4 => eo2.nx s4 ρ4 σ4 B4 H4 fp4 n4 q4 a4,
      fun s4 ρ4 σ4 B4 H4 fp4 n4 q4 a4 => by
        obtain ⟨ρ5, fp5, q5, a5⟩ := a4.fgt q4
        exact ⟨s4, ρ5, B4, fp5, n4, q5, a3.weak (N2 := n1 + (i + 1) * c2) (by omega) (fun z => z) |>.trans a5 (by omega) g22⟩, eo2.xc⟩
  · have ei : i = ds.length := by omega
    subst ei
    refine .inl ⟨hstop (Nat.le_refl _), ?_⟩
    rw [List.drop_length] at q'
    unfold forP at q'
    have hh := hlen ds.length (Nat.le_refl _)
    exact e.nx s' ρ' σ' B' H' fp' n' q' ((a0.weak (N2 := n + (c1 + FORN * c2)) (by omega) fun z => z).trans (N' := n1 + ds.length * c2) a (by omega) fun z => ⟨rfl, z⟩)
end
end Vc
namespace Vc
open PySem PySem.Spec PyProof.Rows L2 Sx
def Ot.free : Ot → Bool
  | .no => true
  | .src => true
  | .fz _ => true
  | .av _ o => o.free
  | _ => false
def wipeO (ρ : List Ot) : List Nat → List Ot
  | [] => ρ
  | v :: vs => (wipeO ρ vs).set v .no
def frees (ρ : List Ot) (vs : List Nat) : Bool := vs.all fun v => match ρ[v]? with | some o => o.free | none => true
mutual
def Tg.fre (ρ : List Ot) : Tg → Bool
  | .nm i => match ρ[i]? with | some o => o.free | none => false
  | .tp gs => freT ρ gs
def freT (ρ : List Ot) : List Tg → Bool
  | [] => true
  | g :: gs => g.fre ρ && freT ρ gs
end
section
variable {S : SrcRep} {K : PySem.W.Frag} {W : WX} {pn : Nat → Bool} {s s' : Option Addr} {ρ ρ' : List Ot} {σ σ' : L2.St} {B B' H H' : Hp} {Fr fp fp' g G1 G2 : Fp} {n n' N N' : Nat} {b b1 b2 b3 : Bool} {c c1 c2 c3 : Nat} {te ta tb : TE} {tt : TT} {wi : TI}
theorem Ow.free : ∀ {o : Ot} {v : V} {f : Fp}, Ow K B s o v f → o.free = true → f = []
  | _, _, _, .src _, _ => rfl
  | _, _, _, .fz _, _ => rfl
  | _, _, _, .av w, h => Ow.free w (by unfold Ot.free at h; exact h)
theorem En.wipe1 : ∀ {ρ : List Ot} {σ : L2.St} {f : Fp}, En K B s ρ σ f → ∀ (i : Nat) (x : Option V), (match ρ[i]? with | some o => o.free | none => true) = true → En K B s (ρ.set i .no) (σ.set i x) f
  | _, _, _, .nil, _, _, _ => .nil
  | _, _, _, .no h, 0, _, _ => .no h
  | _, _, _, .no h, i + 1, x, e => .no (En.wipe1 h i x (by simpa using e))
  | _, _, _, .cons (o := o) (g := g) h t, 0, _, e => by
    have e : o.free = true := e
    rw [h.free e]
    exact .no t
  | _, _, _, .cons h t, i + 1, x, e => .cons h (En.wipe1 t i x (by simpa using e))
theorem En.put1 : ∀ {ρ : List Ot} {σ : L2.St} {f : Fp}, En K B s ρ σ f → ∀ (i : Nat) {d : Dt} {v : V}, (match ρ[i]? with | some o => o.free | none => false) = true → Rp K B v d → En K B s (ρ.set i (.fz d)) (σ.set i (some v)) f
  | _, _, _, .nil, _, _, _, e, _ => by simp at e
  | _, _, _, .no (f := f) h, 0, d, v, _, r => (show En K B s _ _ ([] ++ f) from .cons (.fz r) h)
  | _, _, _, .no h, i + 1, _, _, e, r => .no (En.put1 h i (by simpa using e) r)
  | _, _, _, .cons (o := o) (g := g) h t, 0, _, _, e, r => by
    have e : o.free = true := e
    rw [h.free e]
    exact (show En K B s _ _ ([] ++ g) from .cons (.fz r) t)
  | _, _, _, .cons h t, i + 1, _, _, e, r => .cons h (En.put1 t i (by simpa using e) r)
theorem wipeO_get : ∀ (vs : List Nat) (ρ : List Ot) (i : Nat) (o : Ot), (wipeO ρ vs)[i]? = some o → o = .no ∨ ρ[i]? = some o
  | [], _, _, _, h => .inr h
  | v :: vs, ρ, i, o, h => by
    unfold wipeO at h
    by_cases hv : v = i
    · subst hv
      by_cases hl : v < (wipeO ρ vs).length
      · rw [List.getElem?_set_self hl] at h; exact .inl (Option.some.inj h).symm
      · rw [set_none_of (List.getElem?_eq_none_iff.mpr (Nat.le_of_not_lt hl)), List.getElem?_eq_none_iff.mpr (Nat.le_of_not_lt hl)] at h; cases h
    · rw [List.getElem?_set_ne hv] at h
      exact wipeO_get vs ρ i o h
theorem En.wipeF (h : En K B s ρ σ fp) : ∀ vs : List Nat, frees ρ vs = true → En K B s (wipeO ρ vs) (L2.wipe σ vs) fp
  | [], _ => h
  | v :: vs, e => by
    unfold frees at e
    rw [List.all_cons, Bool.and_eq_true] at e
    refine En.wipe1 (En.wipeF h vs (by unfold frees; exact e.2)) v none ?_
    cases q : (wipeO ρ vs)[v]? with
    | none => rfl
    | some o =>
      rcases wipeO_get vs ρ v o q with h1 | h1
      · subst h1; rfl
      · have := e.1; rw [h1] at this; exact this
mutual
theorem fre_set : ∀ (g : Tg) {ρ : List Ot} {i : Nat} {d : Dt}, g.fre ρ = true → g.fre (ρ.set i (.fz d)) = true
  | .nm j, ρ, i, d, h => by
    unfold Tg.fre at h ⊢
    by_cases e : i = j
    · subst e
      by_cases hl : i < ρ.length
      · rw [List.getElem?_set_self hl]; rfl
      · rw [List.getElem?_eq_none_iff.mpr (Nat.le_of_not_lt hl)] at h; cases h
    · rw [List.getElem?_set_ne e]; exact h
  | .tp gs, ρ, i, d, h => by unfold Tg.fre at h ⊢; exact freT_set gs h
theorem freT_set : ∀ (gs : List Tg) {ρ : List Ot} {i : Nat} {d : Dt}, freT ρ gs = true → freT (ρ.set i (.fz d)) gs = true
  | [], _, _, _, _ => by unfold freT; rfl
  | g :: gs, ρ, i, d, h => by
    unfold freT at h ⊢
    rw [Bool.and_eq_true] at h ⊢
    exact ⟨fre_set g h.1, freT_set gs h.2⟩
end
mutual
theorem tgf_put : ∀ (g : Tg) {d : Dt} {ρ : List Ot} {σ : L2.St} {M : List Ot → Prop} {v : V} {Q : L2.St → Hp → Prop}, g.put pn d ρ M → g.fre ρ = true → En K B s ρ σ fp → Same B H → Rp K B v d →
    (∀ ρ' σ', M ρ' → En K B s ρ' σ' fp → (∀ g' : Tg, g'.fre ρ = true → g'.fre ρ' = true) → (∀ gs, freT ρ gs = true → freT ρ' gs = true) → (∀ vs, g.inn vs = true → wipe σ' vs = wipe σ vs) → Q σ' H) → g.tg K v σ H Q
  | .nm i, d, ρ, σ, M, v, Q, h, f, st, sm, r, k => by
    unfold Tg.put at h
    obtain ⟨hp, hi, q⟩ := h
    exact k _ _ q (st.put1 i (by unfold Tg.fre at f; exact f) r) (fun g' z => fre_set g' z) (fun gs z => freT_set gs z) fun vs z => wipe_comm σ i _ vs (List.contains_iff_mem.mp (by unfold Tg.inn at z; exact z))
  | .tp gs, .tup ds, ρ, σ, M, v, Q, h, f, st, sm, r, k => by
    unfold Tg.put at h
    cases r with
    | tup hb ha =>
      refine ⟨_, _, rfl, SqT.of (sm _ _ hb), by rw [ha.len]; exact putT_len h, ?_⟩
      exact tgsf_put gs h (by unfold Tg.fre at f; exact f) st sm ha fun ρ' σ' q st' w1 w2 w => k ρ' σ' q st' w1 w2 fun vs z => w vs (by unfold Tg.inn at z; exact z)
  | .tp _, .non, _, _, _, _, _, h, _, _, _, _, _ => by unfold Tg.put at h; exact h.elim
  | .tp _, .bl _, _, _, _, _, _, h, _, _, _, _, _ => by unfold Tg.put at h; exact h.elim
  | .tp _, .int _, _, _, _, _, _, h, _, _, _, _, _ => by unfold Tg.put at h; exact h.elim
  | .tp _, .str _, _, _, _, _, _, h, _, _, _, _, _ => by unfold Tg.put at h; exact h.elim
  | .tp _, .lst _, _, _, _, _, _, h, _, _, _, _, _ => by unfold Tg.put at h; exact h.elim
  | .tp _, .dic _, _, _, _, _, _, h, _, _, _, _, _ => by unfold Tg.put at h; exact h.elim
  | .tp _, .dit _, _, _, _, _, _, h, _, _, _, _, _ => by unfold Tg.put at h; exact h.elim
  | .tp _, .ins _ _, _, _, _, _, _, h, _, _, _, _, _ => by unfold Tg.put at h; exact h.elim
  | .tp _, .scr _, _, _, _, _, _, h, _, _, _, _, _ => by unfold Tg.put at h; exact h.elim
  | .tp _, .ty _, _, _, _, _, _, h, _, _, _, _, _ => by unfold Tg.put at h; exact h.elim
  | .tp _, .exn _ _ _ _, _, _, _, _, _, h, _, _, _, _, _ => by unfold Tg.put at h; exact h.elim
  | .tp _, .wk _, _, _, _, _, _, h, _, _, _, _, _ => by unfold Tg.put at h; exact h.elim
theorem tgsf_put : ∀ (gs : List Tg) {ds : List Dt} {ρ : List Ot} {σ : L2.St} {M : List Ot → Prop} {vs : List V} {Q : L2.St → Hp → Prop}, putT pn gs ds ρ M → freT ρ gs = true → En K B s ρ σ fp → Same B H → RpA K B vs ds →
    (∀ ρ' σ', M ρ' → En K B s ρ' σ' fp → (∀ g' : Tg, g'.fre ρ = true → g'.fre ρ' = true) → (∀ gs, freT ρ gs = true → freT ρ' gs = true) → (∀ us, innT us gs = true → wipe σ' us = wipe σ us) → Q σ' H) → tgs K gs vs σ H Q
  | [], [], ρ, σ, M, vs, Q, h, f, st, sm, r, k => by
    unfold putT at h
    cases r
    exact ⟨rfl, k ρ σ h st (fun _ z => z) (fun _ z => z) fun _ _ => rfl⟩
  | g :: gs, d :: ds, ρ, σ, M, vs, Q, h, f, st, sm, r, k => by
    unfold putT at h
    unfold freT at f
    rw [Bool.and_eq_true] at f
    cases r with
    | cons r1 r2 =>
      refine ⟨_, _, rfl, ?_⟩
      refine tgf_put g h f.1 st sm r1 fun ρ1 σ1 q1 st1 w1 w1' w1'' => ?_
      refine tgsf_put gs q1 (w1' gs f.2) st1 sm r2 fun ρ2 σ2 q2 st2 w2 w2' w2'' => ?_
      refine k ρ2 σ2 q2 st2 (fun g' z => w2 g' (w1 g' z)) (fun gs' z => w2' gs' (w1' gs' z)) fun us z => ?_
      unfold innT at z
      rw [Bool.and_eq_true] at z
      exact (w2'' us z.2).trans (w1'' us z.1)
  | [], _ :: _, _, _, _, _, _, h, _, _, _, _, _ => by unfold putT at h; exact h.elim
  | _ :: _, [], _, _, _, _, _, h, _, _, _, _, _ => by unfold putT at h; exact h.elim
end
def noX : XW := fun _ _ _ => False
def lcP (tg : Tg) (wt : TW) (we : EW) (ρb : List Ot) : List Dt → List Ot → (List Ot → Prop) → Prop
  | [], acc, Φ => Φ acc
  | d :: ds, acc, Φ => tg.put (fun _ => false) d ρb fun ρ2 => wt ρ2 (fun x _ => if x = true then we ρ2 (fun y _ => ∃ o, y = .ow o ∧ lcP tg wt we ρb ds (acc ++ [o]) Φ) noX else lcP tg wt we ρb ds acc Φ) noX
def LCN : Nat := 1000000
def vLc (vs : List Nat) (ce : Nat) (tg : Tg) (wi : LW) (wt : TW) (we : EW) : EW := fun ρ Φ Ψ => wi ρ (fun ds ρ1 => ds.length ≤ LCN ∧ (ce = 0 ∨ ds.length ≤ FORN) ∧ (tg.inn vs && frees ρ1 vs && tg.fre (wipeO ρ1 vs)) = true ∧ lcP tg wt we (wipeO ρ1 vs) ds [] fun os => Φ (.ow (.lst os)) ρ1) Ψ
theorem Sr.putF {p : Addr} {o : HO} (st : Sr S K s ρ σ B H (G1 ++ ((p, o) :: G2)) fp n) : H p = some o ∧ ∀ o', Sr S K s ρ σ B (upd H p o') (G1 ++ ((p, o') :: G2)) fp n := by
  obtain ⟨e, sf, a, b⟩ := st
  have pm : ∀ o : HO, (fp ++ (sf ++ (G1 ++ ((p, o) :: G2)))).Perm ((p, o) :: (fp ++ (sf ++ (G1 ++ G2)))) := fun o => by
    have h1 : (fp ++ (sf ++ (G1 ++ ((p, o) :: G2)))) = (fp ++ sf ++ G1) ++ ((p, o) :: G2) := by simp only [List.append_assoc]
    have h2 : (fp ++ (sf ++ (G1 ++ G2))) = (fp ++ sf ++ G1) ++ G2 := by simp only [List.append_assoc]
    rw [h1, h2]
    exact List.perm_middle
  have b2 := b.perm (pm o).symm
  exact ⟨b2.get, fun o' => ⟨e, sf, a, (b2.put o').perm (pm o')⟩⟩
theorem OwA.app : ∀ {os us : List Ot} {vs ws : List V} {f g : Fp}, OwA K B s os vs f → OwA K B s us ws g → OwA K B s (os ++ us) (vs ++ ws) (f ++ g)
  | _, _, _, _, _, _, .nil, h => h
  | _, _, _, _, _, _, .cons a t, h => by
    rw [List.append_assoc]
    exact .cons a (OwA.app t h)
theorem v_lc {vs : List Nat} {tg : Tg} {wl : LW} {wt : TW} {we : EW} (hi : VI S K W b c1 wi wl) (ht : VT S K W true c2 tt wt) (he : VE S K W true c3 te we) : VE S K W b (c1 + FORN * (c2 + c3)) (tLc wi (tg.tg K) tt te vs) (vLc vs (c2 + c3) tg wl wt we) := by
  intro s ρ Φ Ψ Fr B σ H fp n m Q hw st hn hm k kx
  refine hi hw st (by omega) hm (fun ds ρ1 J B1 H1 fp1 n1 q l ln st1 hb hit => ?_) kx
  obtain ⟨hlen, hlen2, hck, q⟩ := q
  rw [Bool.and_eq_true, Bool.and_eq_true] at hck
  obtain ⟨⟨k1, k2⟩, k3⟩ := hck
  have hcost : ∀ i, i ≤ ds.length → i * (c2 + c3) ≤ FORN * (c2 + c3) := fun i hi => by
    rcases hlen2 with h0 | h0
    · rw [h0]; omega
    · exact Nat.mul_le_mul_right _ (Nat.le_trans hi h0)
  intro Dn hD
  have e0 := st1.en
  let Pv : Nat → Hp → Prop := fun i H' => ∃ acc B' av fa n', lcP tg wt we (wipeO ρ1 vs) (ds.drop i) acc (fun os => Φ (.ow (.lst os)) ρ1) ∧ acc.length ≤ i ∧ Le B1 B' ∧ n' ≤ n1 + i * (c2 + c3) ∧ OwA K B' s acc av fa ∧ Sr S K s ρ1 σ B' H' (((Dn, .lst av) :: fa) ++ Fr) fp1 n'
  refine ⟨fun i m H' => m = ds.length - i ∧ i ≤ ds.length ∧ Pv i H', ⟨ds.length, by simp, Nat.zero_le _, [], B1, [], [], n1, q, Nat.le_refl _, Le.refl B1, by omega, .nil, Sr.new (g := []) st1 hD _⟩, ?_⟩
  rintro i m H' ⟨rfl, hi, acc, B', av, fa, n', q', ha, l', ln', oa, st'⟩
  obtain ⟨hgo, hstop⟩ := Sr.turn hit st' l' i
  by_cases hlt : i < ds.length
  · have hdi : ds[i]? = some ds[i] := List.getElem?_eq_getElem hlt
    obtain ⟨t1, t2⟩ := hgo _ hdi
    refine .inr ⟨t1, Pv (i + 1), fun H2 p => ⟨ds.length - (i + 1), by omega, rfl, hlt, p⟩, fun x H2 y => ?_⟩
    obtain ⟨B2, l2, st2, r2⟩ := t2 x H2 y
    rw [List.drop_eq_getElem_cons hlt] at q'
    unfold lcP at q'
    have eb := st2.en.wipeF vs k2
    obtain ⟨_, sf, asf, hd2⟩ := st2
    refine tgf_put tg q' k3 eb hd2.old r2 fun ρ3 σ3 q3 st3 _ _ w3 => ?_
    refine ⟨(w3 vs k1).trans (wipe_idem σ vs), ?_⟩
    have nz : KX S K W s σ3 B2 (((Dn, .lst av) :: fa) ++ Fr) BUD noX := fun _ _ _ _ _ _ _ _ _ _ z => z.elim
    have hh := hcost (i + 1) hlt
    have e1 : (i + 1) * (c2 + c3) = i * (c2 + c3) + (c2 + c3) := Nat.succ_mul i _
    refine ht q3 (⟨st3, sf, asf, hd2⟩ : Sr S K s ρ3 σ3 B2 H2 _ fp1 n') (m := BUD) (by omega) (Nat.le_refl _) (fun x4 ρ4 v4 B4 H4 fp4 g4 n4 q4 l4 ln4 r4 st4 hb4 => ?_) nz
    obtain ⟨rfl, rfl⟩ := r4
    obtain ⟨rfl, rfl⟩ := hb4 rfl
    have l24 := l2.trans l4
    cases x4 with
    | true =>
      have q4 : we ρ4 _ noX := q4
      refine he q4 st4 (m := BUD) (by omega) (Nat.le_refl _) (fun y5 ρ5 v5 B5 H5 fp5 g5 n5 q5 l5 ln5 r5 st5 hb5 => ?_) fun _ _ _ _ _ _ _ _ _ _ z => z.elim
      obtain ⟨o5, rfl, q5⟩ := q5
      obtain ⟨rfl, rfl⟩ := hb5 rfl
      obtain ⟨hD5, up5⟩ := Sr.putF (G1 := g5) (G2 := fa ++ Fr) st5
      have l25 := l24.trans l5
      refine ⟨av, hD5, ?_, acc ++ [o5], B5, av ++ [v5], fa ++ (g5 ++ []), n5, q5, by rw [List.length_append, List.length_singleton]; omega, l'.trans l25, by omega, (oa.mono l25).app (.cons r5 .nil), ?_⟩
      · have := oa.len
        exact Nat.lt_of_lt_of_le (show av.length < 1000000 by unfold LCN at hlen; omega) (by decide)
      · obtain ⟨_, sf5, asf5, hd5⟩ := up5 (.lst (av ++ [v5]))
        refine Sr.permF (⟨e0.mono (l'.trans l25), sf5, asf5, hd5⟩) ?_
        rw [List.append_nil]
        show (((Dn, HO.lst (av ++ [v5])) :: (fa ++ g5)) ++ Fr).Perm _
        refine List.Perm.trans ?_ List.perm_middle.symm
        show ((Dn, HO.lst (av ++ [v5])) :: ((fa ++ g5) ++ Fr)).Perm _
        refine List.Perm.cons _ ?_
        rw [← List.append_assoc]
        exact List.Perm.append_right Fr List.perm_append_comm
    | false =>
      refine ⟨acc, B4, av, fa, n4, q4, by omega, l'.trans l24, by omega, oa.mono l24, ?_⟩
      obtain ⟨_, sf4, asf4, hd4⟩ := st4
      exact ⟨e0.mono (l'.trans l24), sf4, asf4, hd4⟩
  · have ei : i = ds.length := by omega
    subst ei
    refine .inl ⟨hstop (Nat.le_refl _), ?_⟩
    rw [List.drop_length] at q'
    unfold lcP at q'
    have hh := hcost ds.length (Nat.le_refl _)
    exact k _ ρ1 _ B' H' fp1 _ n' q' (l.trans l') (by omega) (.lst oa) st' hb
def lcD (tg : Tg) (wt : TW) (we : DW) (ρb : List Ot) : List Dt → List Dt → (List Dt → Prop) → Prop
  | [], acc, Φ => Φ acc
  | d :: ds, acc, Φ => tg.put (fun _ => false) d ρb fun ρ2 => wt ρ2 (fun x _ => if x = true then we ρ2 (fun y _ => lcD tg wt we ρb ds (acc ++ [y]) Φ) noX else lcD tg wt we ρb ds acc Φ) noX
def dLc (vs : List Nat) (ce : Nat) (tg : Tg) (wi : LW) (wt : TW) (we : DW) : DW := fun ρ Φ Ψ => wi ρ (fun ds ρ1 => ds.length ≤ LCN ∧ (ce = 0 ∨ ds.length ≤ FORN) ∧ (tg.inn vs && frees ρ1 vs && tg.fre (wipeO ρ1 vs)) = true ∧ lcD tg wt we (wipeO ρ1 vs) ds [] fun os => Φ (.lst os) ρ1) Ψ
/-- the element's objects are data: a list of data -/
theorem d_lc {vs : List Nat} {tg : Tg} {wl : LW} {wt : TW} {we : DW} (hi : VI S K W b c1 wi wl) (ht : VT S K W true c2 tt wt) (he : VD S K W true c3 te we) : VD S K W b (c1 + FORN * (c2 + c3)) (tLc wi (tg.tg K) tt te vs) (dLc vs (c2 + c3) tg wl wt we) := by
  intro s ρ Φ Ψ Fr B σ H fp n m Q hw st hn hm k kx
  refine hi hw st (by omega) hm (fun ds ρ1 J B1 H1 fp1 n1 q l ln st1 hb hit => ?_) kx
  obtain ⟨hlen, hlen2, hck, q⟩ := q
  rw [Bool.and_eq_true, Bool.and_eq_true] at hck
  obtain ⟨⟨k1, k2⟩, k3⟩ := hck
  have hcost : ∀ i, i ≤ ds.length → i * (c2 + c3) ≤ FORN * (c2 + c3) := fun i hi => by
    rcases hlen2 with h0 | h0
    · rw [h0]; omega
    · exact Nat.mul_le_mul_right _ (Nat.le_trans hi h0)
  intro Dn hD
  have e0 := st1.en
  let Pv : Nat → Hp → Prop := fun i H' => ∃ acc B' av n', lcD tg wt we (wipeO ρ1 vs) (ds.drop i) acc (fun os => Φ (.lst os) ρ1) ∧ acc.length ≤ i ∧ Le B1 B' ∧ n' ≤ n1 + i * (c2 + c3) ∧ RpA K B' av acc ∧ Sr S K s ρ1 σ B' H' ((Dn, .lst av) :: Fr) fp1 n'
  refine ⟨fun i m H' => m = ds.length - i ∧ i ≤ ds.length ∧ Pv i H', ⟨ds.length, by simp, Nat.zero_le _, [], B1, [], n1, q, Nat.le_refl _, Le.refl B1, by omega, .nil, Sr.new (g := []) st1 hD _⟩, ?_⟩
  rintro i m H' ⟨rfl, hi, acc, B', av, n', q', ha, l', ln', oa, st'⟩
  obtain ⟨hgo, hstop⟩ := Sr.turn hit st' l' i
  by_cases hlt : i < ds.length
  · have hdi : ds[i]? = some ds[i] := List.getElem?_eq_getElem hlt
    obtain ⟨t1, t2⟩ := hgo _ hdi
    refine .inr ⟨t1, Pv (i + 1), fun H2 p => ⟨ds.length - (i + 1), by omega, rfl, hlt, p⟩, fun x H2 y => ?_⟩
    obtain ⟨B2, l2, st2, r2⟩ := t2 x H2 y
    rw [List.drop_eq_getElem_cons hlt] at q'
    unfold lcD at q'
    have eb := st2.en.wipeF vs k2
    obtain ⟨_, sf, asf, hd2⟩ := st2
    refine tgf_put tg q' k3 eb hd2.old r2 fun ρ3 σ3 q3 st3 _ _ w3 => ?_
    refine ⟨(w3 vs k1).trans (wipe_idem σ vs), ?_⟩
    have hh := hcost (i + 1) hlt
    have e1 : (i + 1) * (c2 + c3) = i * (c2 + c3) + (c2 + c3) := Nat.succ_mul i _
    refine ht q3 (⟨st3, sf, asf, hd2⟩ : Sr S K s ρ3 σ3 B2 H2 _ fp1 n') (m := BUD) (by omega) (Nat.le_refl _) (fun x4 ρ4 v4 B4 H4 fp4 g4 n4 q4 l4 ln4 r4 st4 hb4 => ?_) fun _ _ _ _ _ _ _ _ _ _ z => z.elim
    obtain ⟨rfl, rfl⟩ := r4
    obtain ⟨rfl, rfl⟩ := hb4 rfl
    have l24 := l2.trans l4
    cases x4 with
    | true =>
      have q4 : we ρ4 _ noX := q4
      refine he q4 st4 (m := BUD) (by omega) (Nat.le_refl _) (fun y5 ρ5 v5 B5 H5 fp5 g5 n5 q5 l5 ln5 r5 st5 hb5 => ?_) fun _ _ _ _ _ _ _ _ _ _ z => z.elim
      obtain ⟨r5, rfl⟩ := r5
      obtain ⟨rfl, rfl⟩ := hb5 rfl
      obtain ⟨hD5, up5⟩ := Sr.putF (G1 := []) (G2 := Fr) st5
      have l25 := l24.trans l5
      refine ⟨av, hD5, ?_, acc ++ [y5], B5, av ++ [v5], n5, q5, by rw [List.length_append, List.length_singleton]; omega, l'.trans l25, by omega, rpa_app (oa.mono l25) r5, ?_⟩
      · have := oa.len
        exact Nat.lt_of_lt_of_le (show av.length < 1000000 by unfold LCN at hlen; omega) (by decide)
      · obtain ⟨_, sf5, asf5, hd5⟩ := up5 (.lst (av ++ [v5]))
        exact ⟨e0.mono (l'.trans l25), sf5, asf5, hd5⟩
    | false =>
      refine ⟨acc, B4, av, n4, q4, by omega, l'.trans l24, by omega, oa.mono l24, ?_⟩
      obtain ⟨_, sf4, asf4, hd4⟩ := st4
      exact ⟨e0.mono (l'.trans l24), sf4, asf4, hd4⟩
  · have ei : i = ds.length := by omega
    subst ei
    refine .inl ⟨hstop (Nat.le_refl _), ?_⟩
    rw [List.drop_length] at q'
    unfold lcD at q'
    have hh := hcost ds.length (Nat.le_refl _)
    obtain ⟨_, sf6, asf6, hd6⟩ := st'
    have hd7 : Hd B' ((Dn, HO.lst av) :: (fp1 ++ (sf6 ++ Fr))) H' := hd6.perm (by
      have h1 : (fp1 ++ (sf6 ++ ((Dn, HO.lst av) :: Fr))) = (fp1 ++ sf6) ++ ((Dn, HO.lst av) :: Fr) := by rw [List.append_assoc]
      rw [h1, ← List.append_assoc]
      exact List.perm_middle.symm)
    obtain ⟨B7, e7, l7, hd8⟩ := Hd.fin hd7
    exact k _ ρ1 _ B7 H' fp1 [] n' q' ((l.trans l').trans l7) (by omega) ⟨.lst e7 (RpA.mono l7 oa), rfl⟩ ⟨e0.mono (l'.trans l7), sf6, asf6, hd8⟩ hb
end
end Vc
namespace Vc
open PySem PySem.Spec PyProof.Rows L2 Sx
abbrev FnW := List Ot → (Ot → List Ot → Prop) → XW → Prop
section
variable (S : SrcRep) (K : PySem.W.Frag)
/-- a promise told by trees -/
def SpV (c : Nat) (F : FnW) : Sp := fun vs H Q E => ∃ (s : Option Addr) (B : Hp) (Fr fps sf : Fp) (os : List Ot) (n : Nat) (Φ : Ot → List Ot → Prop) (Ψ : XW), OwA K B s os vs fps ∧ F os Φ Ψ ∧ Sf S s n sf ∧ Hd B (fps ++ (sf ++ Fr)) H ∧ n + c ≤ BUD ∧
  (∀ o os' v B' H' k fps' sf' n', Φ o os' → Le B B' → n' ≤ n + c → Ow K B' s o v k → OwA K B' s os' vs fps' → Sf S s n' sf' → Hd B' (fps' ++ (sf' ++ (k ++ Fr))) H' → Q v H') ∧
  (∀ C d os' B' H' fps' sf' n' a fs v, Ψ C d os' → Le B B' → n' ≤ n + c → OwA K B' s os' vs fps' → Sf S s n' sf' → Hd B' (fps' ++ (sf' ++ Fr)) H' → B' a = some (.xd fs) → fs.lookup (Str.ofString "value") = some v → Rp K B' v d → E (.ref C) (some a) H')
end
/-- the arguments' trees; the slots that they stand in are emptied -/
def argO : List Ot → List Vl → Option (List Ot)
  | _, [] => some []
  | ρ, .ow o :: xs => (argO ρ xs).map (o :: ·)
  | ρ, .rf i :: xs => match ρ[i]? with
    | some .no => none
    | some o => (argO (ρ.set i .no) xs).map (o :: ·)
    | none => none
/-- .. and stand there again behind the call -/
def backO : List Ot → List Vl → List Ot → List Ot
  | ρ, .ow _ :: xs, _ :: os => backO ρ xs os
  | ρ, .rf i :: xs, o :: os => (backO (ρ.set i .no) xs os).set i o
  | ρ, _, _ => ρ
section
variable {S : SrcRep} {K : PySem.W.Frag} {W : WX} {pn : Nat → Bool} {s s' : Option Addr} {ρ ρ' : List Ot} {σ σ' : L2.St} {B B' H H' : Hp} {Fr fp fp' g G1 G2 : Fp} {n n' N N' : Nat} {b b1 b2 b3 : Bool} {c c1 c2 c3 : Nat} {te ta tb : TE} {tt : TT} {wi : TI} {aa : TA}
/-- a call that lets nothing out -/
def vCall0 (F : FnW) (wa : AW) : EW := fun ρ Φ Ψ => wa ρ (fun xs ρ1 => ∃ os, argO ρ1 xs = some os ∧ F os (fun o os' => Φ (.ow o) (backO ρ1 xs os')) noX) Ψ
def vCallQ (F : FnW) (wa : AW) : EW := fun ρ Φ Ψ => wa ρ (fun xs ρ1 => ∃ os, asO xs = some os ∧ F os (fun o _ => Φ (.ow o) ρ1) noX) Ψ
theorem v_callQ {F : FnW} {wa : AW} (ha : VA S K W b c1 aa wa) : VE S K W b (c1 + c2) (tCall (SpV S K c2 F) [] E0 aa) (vCallQ F wa) := by
  intro s ρ Φ Ψ Fr B σ H fp n m Q hw st hn hm k kx
  refine ha hw st (by omega) hm (fun xs ρ1 vs B1 H1 fp1 g n1 q l ln r st1 hb => ?_) kx
  obtain ⟨os, ho, hF⟩ := q
  rw [List.append_nil]
  have w := asO_ow ho r
  obtain ⟨en, sf, asf, hd⟩ := st1
  refine ⟨s, B1, fp1 ++ Fr, g, sf, os, n1, _, _, w, hF, asf, hd.perm ?_, by omega, fun o os' v B' H' kk fps' sf' n' q l2 ln2 w' w2 asf' hd' => ?_, fun _ _ _ _ _ _ _ _ _ _ _ z => z.elim⟩
  · refine (pm2 g sf fp1 Fr).trans ?_
    exact (List.perm_append_comm_assoc sf fp1 _)
  · refine k _ ρ1 v B' H' fp1 kk n' q (l.trans l2) (by omega) w' ⟨en.mono l2, sf', asf', Hd.sub (hd'.perm (ch' := fps' ++ (fp1 ++ (sf' ++ (kk ++ Fr)))) ?_) (List.sublist_append_right fps' _)⟩ hb
    exact List.Perm.append_left fps' (pm2 fp1 sf' kk Fr)
theorem rpa_ow : ∀ {ds : List Dt} {vs : List V}, RpA K B vs ds → OwA K B s (ds.map .fz) vs []
  | _, _, .nil => .nil
  | _, _, .cons a t => (show OwA K B s _ _ ([] ++ []) from .cons (.fz a) (rpa_ow t))
def pnOk (pn : Nat → Bool) : List Ot → Bool
  | [] => true
  | o :: os => (pn 0 || (o.free && !o.isNo)) && pnOk (fun i => pn (i + 1)) os
/-- what the parameters' objects are at the end -/
def fin (pn : Nat → Bool) : List Ot → List Ot → List Ot
  | r :: ρ, o :: os => (if pn 0 then r else o) :: fin (fun i => pn (i + 1)) ρ os
  | _, _ => []
def finB (pn : Nat → Bool) : List Ot → List Ot → Bool
  | r :: ρ, _ :: os => (!pn 0 || !r.isNo) && finB (fun i => pn (i + 1)) ρ os
  | _, [] => true
  | [], _ :: _ => false
def stO0 (N : List Str) (os : List Ot) : List Ot := os ++ List.replicate (N.length - os.length) .no
theorem en_nos : ∀ k : Nat, En K B s (List.replicate k .no) (List.replicate k none) []
  | 0 => .nil
  | k + 1 => .no (en_nos k)
theorem en_args : ∀ {os : List Ot} {vs : List V} {f : Fp} (k : Nat), OwA K B s os vs f → En K B s (os ++ List.replicate k .no) (vs.map some ++ List.replicate k none) f
  | _, _, _, k, .nil => en_nos k
  | _, _, _, k, .cons a t => .cons a (en_args k t)
theorem fin_ow : ∀ {os : List Ot} {vs : List V} {f : Fp} {pn : Nat → Bool} {ρ' : List Ot} {σ' : L2.St} {fp' : Fp}, OwA K B s os vs f → pnOk pn os = true → En K B' s ρ' σ' fp' → Le B B' → finB pn ρ' os = true → (∀ i, pn i = true → i < vs.length → σ'[i]? = (vs[i]?).map some) →
    ∃ fps', OwA K B' s (fin pn ρ' os) vs fps' ∧ fps'.Sublist fp'
  | _, _, _, _, _, _, _, .nil, _, _, _, _, _ => ⟨[], by cases ‹List Ot› <;> exact .nil, List.nil_sublist _⟩
  | _, _, _, pn, ρ', σ', fp', .cons (o := o) (v := v) (vs := vs) (f := f) a t, hp, en, l, hb, hs => by
    unfold pnOk at hp
    rw [Bool.and_eq_true] at hp
    cases en with
    | nil => unfold finB at hb; cases hb
    | no en =>
      unfold finB at hb
      rw [Bool.and_eq_true] at hb
      cases h0 : pn 0 with
      | true => rw [h0] at hb; cases hb.1
      | false =>
        have hf : o.free = true := by have := hp.1; rw [h0] at this; simp at this; exact this.1
        have ef := a.free hf
        subst ef
        obtain ⟨fps', w, sl⟩ := fin_ow t hp.2 en l hb.2 (fun i hi hl => by have := hs (i + 1) hi (by simpa using hl); simpa using this)
        refine ⟨[] ++ fps', ?_, sl⟩
        unfold fin
        rw [h0]
        exact .cons (a.mono l) w
    | cons w0 en =>
      unfold finB at hb
      rw [Bool.and_eq_true] at hb
      obtain ⟨fps', w, sl⟩ := fin_ow t hp.2 en l hb.2 (fun i hi hl => by have := hs (i + 1) hi (by simpa using hl); simpa using this)
      unfold fin
      cases h0 : pn 0 with
      | true =>
        have := hs 0 h0 (by simp)
        simp at this
        subst this
        exact ⟨_, .cons w0 w, (List.Sublist.refl _).append sl⟩
      | false =>
        have hf : o.free = true := by have := hp.1; rw [h0] at this; simp at this; exact this.1
        have ef := a.free hf
        subst ef
        exact ⟨[] ++ fps', .cons (a.mono l) w, sl.trans (List.sublist_append_right _ _)⟩
theorem spv_body {F : FnW} {Nn : List Str} {vs : List V} {Q : VK} {E : XK} {t : TS} {w : SW} (h : SpV S K c F vs H Q E) (hb : VS S K (fun cls d _ H => E cls d H) pn true c t w)
    (q : ∀ os Φ Ψ, F os Φ Ψ → pnOk pn os = true ∧ w (stO0 Nn os) { nx := fun ρ' => finB pn ρ' os = true ∧ Φ (.fz .non) (fin pn ρ' os), rt := fun o ρ' => finB pn ρ' os = true ∧ Φ o (fin pn ρ' os), xc := fun C d ρ' => finB pn ρ' os = true ∧ Ψ C d (fin pn ρ' os) }) :
    t { nx := fun _ H' => Q .non H', rt := Q } (L2.start Nn vs) H := by
  obtain ⟨s, B, Fr, fps, sf, os, n, Φ, Ψ, w0, hF, asf, hd, hn, kq, kx⟩ := h
  obtain ⟨hp, hw⟩ := q os Φ Ψ hF
  have en : En K B s (stO0 Nn os) (L2.start Nn vs) fps := by
    unfold stO0 L2.start
    rw [w0.len]
    exact en_args _ w0
  have fin' : ∀ {s' : Option Addr} {ρ' : List Ot} {σ' : L2.St} {B' H' : Hp} {Fr' fp' : Fp} {n' : Nat}, finB pn ρ' os = true → Aft S K pn true s B (L2.start Nn vs) (n + c) s' ρ' σ' B' H' Fr' fp' n' → s' = s ∧ ∃ fps' sf', OwA K B' s (fin pn ρ' os) vs fps' ∧ Sf S s n' sf' ∧ Hd B' (fps' ++ (sf' ++ Fr')) H' := by
    intro s' ρ' σ' B' H' Fr' fp' n' hfb a
    have es := a.gs rfl
    subst es
    obtain ⟨en', sf', asf', hd'⟩ := a.st
    obtain ⟨fps', w', sl⟩ := fin_ow w0 hp en' a.le hfb (fun i hi hl => by
      rw [a.pp i hi]
      unfold L2.start
      rw [List.getElem?_append_left (by rw [List.length_map]; exact hl), List.getElem?_map])
    exact ⟨rfl, fps', sf', w', asf', Hd.sub hd' (sl.append_right _)⟩
  refine hb hw ⟨en, sf, asf, hd⟩ hn ⟨fun s' ρ' σ' B' H' fp' n' ⟨hfb, q⟩ a => ?_, fun s' ρ' σ' B' H' fp' n' o v k ⟨hfb, q⟩ ow a => ?_, fun _ _ _ _ _ _ _ z => z.elim, fun _ _ _ _ _ _ _ z => z.elim, fun s' ρ' σ' B' H' fp' n' C d a fs v ⟨hfb, q⟩ af h1 h2 h3 => ?_⟩
  · obtain ⟨rfl, fps', sf', w', asf', hd'⟩ := fin' hfb a
    exact kq _ _ .non B' H' [] fps' sf' n' q a.le a.nn (.fz .non) w' asf' hd'
  · obtain ⟨rfl, fps', sf', w', asf', hd'⟩ := fin' hfb a
    exact kq _ _ v B' H' k fps' sf' n' q a.le a.nn ow w' asf' hd'
  · obtain ⟨rfl, fps', sf', w', asf', hd'⟩ := fin' hfb af
    exact kx C d _ B' H' fps' sf' n' a fs v q af.le af.nn w' asf' hd' h1 h2 h3
end
/-- a def of the text, what it promises -/
def Kv (S : SrcRep) (P : Program) (w : World) (K : PySem.W.Frag) (mg : Str → Option Value) (base : Heap) (k : Nat) (c : Nat) (x : Str) (ps : List Str) (F : FnW) : Prop :=
  ∃ f fd, mg x = some (.ref f) ∧ KI K f fd ∧ Binds K fd ps [] ∧ FnOk P w K mg base (L2.CX P w) k f fd ps (SpV S K c F)
section
variable {S : SrcRep} {P : Program} {w : World} {K : PySem.W.Frag} {mg : Str → Option Value} {base : Heap} {k c : Nat} {x : Str} {ps N : List Str} {F : FnW} {st : Stmt}
theorem kv_of (pn : Nat → Bool) (D : Df K mg x st) (Sc : FnScope N ps (defScope st))
    (hb : ∀ (kV doc pm : Value) (an : Option Addr) (cdv ct : Value) (us : List Value), us.length = ps.length → bindArgs (PySem.W.fnOf x x (defArgs st) (defBody st) (defScope st) .none kV doc pm an cdv ct) ⟨us, []⟩ = pure (ps.zip us))
    (hlen : ∀ os Φ Ψ, F os Φ Ψ → os.length = ps.length)
    (body : ∀ (f : Addr) (cdv : Value) (A : Around) (outer : List Env) (s : Shared) (H : Hp) (E : XK), Room k (A.deeper (envOfC x (defScope st) s.heap.objs.size f cdv)) →
      ∃ t w', PSs (cxOf (L2.CX P w) P w K mg base N x (defScope st) f cdv A outer s H E) (defBody st) t ∧ VS S K (fun cls d _ H => E cls d H) pn true c t w' ∧ ∀ os Φ Ψ, F os Φ Ψ → pnOk pn os = true ∧
        w' (stO0 N os) { nx := fun ρ' => finB pn ρ' os = true ∧ Φ (.fz .non) (fin pn ρ' os), rt := fun o ρ' => finB pn ρ' os = true ∧ Φ o (fin pn ρ' os), xc := fun C d ρ' => finB pn ρ' os = true ∧ Ψ C d (fin pn ρ' os) }) : Kv S P w K mg base (k + 1) c x ps F := by
  obtain ⟨f, fd, FD, hm⟩ := D
  refine ⟨f, fd, hm, FunD.ki FD, FD.bindsN hb, FD.ok Sc (fun vs H Q E h => ?_) fun cdv A outer s H vs Q E hr hsp => ?_⟩
  · obtain ⟨s, B, Fr, fps, sf, os, n, Φ, Ψ, w0, hF, _⟩ := h
    rw [← w0.len]
    exact hlen os Φ Ψ hF
  · obtain ⟨t, w', h, hv, q⟩ := body f cdv A outer s H E hr
    exact ⟨t, h, spv_body hsp hv q⟩
theorem Kv.mono {j : Nat} (G : Kv S P w K mg base j c x ps F) (h : j ≤ k) : Kv S P w K mg base k c x ps F := by
  obtain ⟨f, fd, a, b, c, d⟩ := G
  exact ⟨f, fd, a, b, c, d.mono h⟩
theorem Kv.imp {F' : FnW} {c' : Nat} (G : Kv S P w K mg base k c x ps F) (h : ∀ os Φ Ψ, F' os Φ Ψ → F os Φ Ψ) (hc : c ≤ c') : Kv S P w K mg base k c' x ps F' := by
  obtain ⟨f, fd, a, b, cc, d⟩ := G
  exact ⟨f, fd, a, b, cc, d.imp fun vs H Q E ⟨s, B, Fr, fps, sf, os, n, Φ, Ψ, w0, hF, asf, hd, hn, kq, kx⟩ =>
    ⟨s, B, Fr, fps, sf, os, n, Φ, Ψ, w0, h _ _ _ hF, asf, hd, by omega, fun o os' v B' H' k fps' sf' n' q l ln => kq o os' v B' H' k fps' sf' n' q l (by omega), fun C d os' B' H' fps' sf' n' a fs v q l ln => kx C d os' B' H' fps' sf' n' a fs v q l (by omega)⟩⟩
end
section
variable {S : SrcRep} {P : Program} {w : World} {K : PySem.W.Frag} {mg : Str → Option Value} {base : Heap} {X : Cx} {j k c : Nat} {x : Str} {ps : List Str} {F : FnW} {e : Expr} {es : List Expr} {t tk : TA} {p pos : Pos} {W : WX}
theorem k_kv (G : Kv S P w K mg base j c x ps F) (hr : Room k X.A) (hj : j ≤ k) (ha : PA X (e :: es) t) (hg : Gl X x := by rfl) (hdb : (x == ("__debug__" : Str)) = false := by decide)
    (he : starEach (e :: es) X.env = (false, eval e X.env) :: starEach es X.env := by rfl) (hpl : (backTo pos (starEach es X.env)).any (·.1) = false := by rfl)
    (hP : X.prog = P := by rfl) (hw : X.w = w := by rfl) (hK : X.K = K := by rfl) (hm : X.mg = mg := by rfl) (hb : X.base = base := by rfl) : PE X (.Call (.Name x p) (e :: es) [] pos) (tCall (SpV S K c F) [] E0 t) := by
  subst hP hw hK hm hb
  obtain ⟨f, fd, hm, hk, hb, F1⟩ := G
  exact pe_call F1 (hr.mono hj) hg hm hk.1 hb .nil passL ha hdb he hpl
theorem k_kvX (G : Kv S P w K mg base j c x ps F) (hr : Room k X.A) (hj : j ≤ k) (tk : Takes X W) (ha : PA X (e :: es) t) (hg : Gl X x := by rfl) (hdb : (x == ("__debug__" : Str)) = false := by decide)
    (he : starEach (e :: es) X.env = (false, eval e X.env) :: starEach es X.env := by rfl) (hpl : (backTo pos (starEach es X.env)).any (·.1) = false := by rfl)
    (hP : X.prog = P := by rfl) (hw : X.w = w := by rfl) (hK : X.K = K := by rfl) (hm : X.mg = mg := by rfl) (hb : X.base = base := by rfl) : PE X (.Call (.Name x p) (e :: es) [] pos) (tCallS (SpV S K c F) (L2.WE W) t) := by
  subst hP hw hK hm hb
  obtain ⟨f, fd, hm, hk, hb, F1⟩ := G
  exact pe_callS F1 (hr.mono hj) hg hm hk.1 hb (fun σ => passAt tk σ) ha hdb he hpl
end
end Vc
namespace Vc
open PySem PySem.Spec PyProof.Rows L2 Sx
/-- lists of appended parts, compared by counting -/
theorem pmc {α : Type} {l1 l2 : List α} (h : ∀ (c : List α → Nat) (k : α → Nat), (∀ a b, c (a ++ b) = c a + c b) → (∀ x l, c (x :: l) = k x + c l) → (∀ a b, a.Perm b → c a = c b) → c [] = 0 → c l1 = c l2) : l1.Perm l2 := by
  classical
  refine List.perm_iff_count.mpr fun a => h (List.count a) (fun x => if x == a then 1 else 0) (fun _ _ => List.count_append) (fun x l => ?_) (fun _ _ p => p.count_eq a) rfl
  rw [List.count_cons]
  omega
section
variable {S : SrcRep} {K : PySem.W.Frag} {W : WX} {pn : Nat → Bool} {s s' : Option Addr} {ρ ρ' : List Ot} {σ σ' : L2.St} {B B' H H' : Hp} {Fr fp fp' g G1 G2 : Fp} {n n' N N' : Nat} {b b1 b2 b3 : Bool} {c c1 c2 c3 : Nat} {te ta tb : TE} {tt : TT} {wi : TI} {aa : TA} {i : Nat} {o : Ot}
theorem Ow.key : ∀ {o : Ot} {v : V} {f : Fp}, Ow K B s o v f → o.free = false → ∃ a ho f', v = .ref a ∧ f = (a, ho) :: f'
  | _, _, _, .src _, nf => by cases nf
  | _, _, _, .fz _, nf => by cases nf
  | _, _, _, .lst _, _ => ⟨_, _, _, rfl, rfl⟩
  | _, _, _, .tup _, _ => ⟨_, _, _, rfl, rfl⟩
  | _, _, _, .dic _ _, _ => ⟨_, _, _, rfl, rfl⟩
  | _, _, _, .dit _ _, _ => ⟨_, _, _, rfl, rfl⟩
  | _, _, _, .ins _ _, _ => ⟨_, _, _, rfl, rfl⟩
  | _, _, _, .hp _, _ => ⟨_, _, _, rfl, rfl⟩
  | _, _, _, .dx _ _ _ _, _ => ⟨_, _, _, rfl, rfl⟩
  | _, _, _, .av h, nf => Ow.key h (by unfold Ot.free at nf; exact nf)
/-- the object in the slot i, and what may be put in its place -/
theorem Sr.objAt (st : Sr S K s ρ σ B H (g ++ Fr) fp n) (e : ρ[i]? = some o) (nf : o.free = false) : ∃ a ho f, σ[i]? = some (some (.ref a)) ∧ Ow K B s o (.ref a) ((a, ho) :: f) ∧ H a = some ho ∧
    ∀ o' ho' f' G' gone, Ow K B s o' (.ref a) ((a, ho') :: f') → (f ++ g).Perm (f' ++ (G' ++ gone)) → ∃ fp', Sr S K s (ρ.set i o') σ B (upd H a ho') (G' ++ Fr) fp' n := by
  obtain ⟨en, sf, asf, hd⟩ := st
  have hno : o.isNo = false := by cases o <;> first | rfl | cases nf
  obtain ⟨v, k, r1, r2, h1, rfl, h3, h4, _⟩ := en.at_ e hno
  have key := h3.key nf
  obtain ⟨a, ho, f, rfl, rfl⟩ := key
  have hd1 : Hd B ((a, ho) :: (r1 ++ (r2 ++ (sf ++ (Fr ++ (f ++ g)))))) H := hd.perm (pmc fun c k ca cc _ _ => by simp only [ca, cc]; omega)
  refine ⟨a, ho, f, h1, h3, hd1.get, fun o' ho' f' G' gone w p => ?_⟩
  have en2 := h4 o' (.ref a) _ B (Le.refl B) w
  rw [set_same' h1] at en2
  refine ⟨_, en2, sf, asf, ?_⟩
  have hd2 := hd1.put ho'
  refine Hd.sub (hd2.perm (ch' := gone ++ ((r1 ++ (((a, ho') :: f') ++ r2)) ++ (sf ++ (G' ++ Fr)))) (pmc fun c k ca cc cp _ => ?_)) (List.sublist_append_right gone _)
  have := cp _ _ p
  simp only [ca] at this
  simp only [ca, cc]
  omega
/-- .. a list of data -/
theorem ow_dts {ds : List Dt} {vs : List V} {f : Fp} : OwA K B s (ds.map .fz) vs f → f = [] ∧ RpA K B vs ds := by
  intro h
  induction ds generalizing vs f with
  | nil => cases h; exact ⟨rfl, .nil⟩
  | cons d ds ih =>
    cases h with
    | cons a t =>
      cases a with
      | fz r =>
        obtain ⟨e, r2⟩ := ih t
        subst e
        exact ⟨rfl, .cons r r2⟩
/-- a list of data stands in the slot i, be it free to change or not -/
def lsAt (ρ : List Ot) (i : Nat) (ds : List Dt) : Prop := ρ[i]? = some (.lst (ds.map .fz)) ∨ ρ[i]? = some (.fz (.lst ds))
theorem Sr.lstOf {ds : List Dt} (st : Sr S K s ρ σ B H Fr fp n) (e : lsAt ρ i ds) : ∃ a vs, σ[i]? = some (some (.ref a)) ∧ H a = some (.lst vs) ∧ RpA K B vs ds := by
  rcases e with e | e
  case inr =>
    obtain ⟨v, k, r1, r2, h1, _, h3, _⟩ := st.en.at_ e rfl
    cases h3 with
    | fz r => cases r with
      | lst h4 h5 => exact ⟨_, _, h1, st.same _ _ h4, h5⟩
  obtain ⟨a, ho, f, h1, h2, h3, _⟩ := Sr.objAt (g := []) st e rfl
  cases h2 with
  | lst w => exact ⟨a, _, h1, h3, (ow_dts w).2⟩
/-- a list in a slot, read with a value -/
def Lo (K : PySem.W.Frag) (r : R2) (f : Dt → List Dt → (Dt → Prop) → Prop) : Prop := ∀ x ds Φ, f x ds Φ → ∀ (B H : Hp) (F : Fp) (v : V) (a : Addr) (vs : List V) (Q : VK), Hc K B [] F H → Rp K B v x → H a = some (.lst vs) → RpA K B vs ds →
  (∀ d v' B' H', Φ d → Le B B' → Hc K B' [] F H' → Rp K B' v' d → Q v' H') → r v (.ref a) H Q
def dOpO (i : Nat) (f : Dt → List Dt → (Dt → Prop) → Prop) (w : DW) : DW := fun ρ Φ Ψ => w ρ (fun x ρ1 => ∃ ds, lsAt ρ1 i ds ∧ f x ds fun z => Φ z ρ1) Ψ
theorem d_opO {r : R2} {f : Dt → List Dt → (Dt → Prop) → Prop} {w : DW} (lf : Lo K r f) (ha : VD S K W b c ta w) : VD S K W b c (tOp r ta (tVar i)) (dOpO i f w) := by
  intro s ρ Φ Ψ Fr B σ H fp n m Q hw st hn hm k kx
  refine ha hw st hn hm (fun x ρ' v B' H' fp' g n' q l ln r0 st' hq => ?_) kx
  obtain ⟨ds, e, q⟩ := q
  obtain ⟨rx, rfl⟩ := r0
  obtain ⟨a, vs, h1, h2, h3⟩ := Sr.lstOf (Fr := Fr) st' e
  obtain ⟨F, hc, back⟩ := st'.hc
  exact ⟨_, h1, lf x ds _ q B' H' F v a vs _ hc rx h2 h3 fun d v' B2 H2 qd l2 c2 rz => k d ρ' v' B2 H2 fp' [] n' qd (l.trans l2) ln ⟨rz, rfl⟩ (back B2 H2 l2 c2) hq⟩
def dOpO' (i : Nat) (f : List Dt → Dt → (Dt → Prop) → Prop) (w : DW) : DW := fun ρ Φ Ψ => (∃ o, ρ[i]? = some o ∧ o.isNo = false) ∧ w ρ (fun x ρ1 => ∃ ds, lsAt ρ1 i ds ∧ f ds x fun z => Φ z ρ1) Ψ
/-- len(x) of an object in a slot -/
def dLenO (i : Nat) : DW := fun ρ Φ _ => (∃ os, ρ[i]? = some (.lst os) ∧ Φ (.int (os.length : Int)) ρ) ∨ ∃ ds, ρ[i]? = some (.fz (.lst ds)) ∧ Φ (.int (ds.length : Int)) ρ
theorem d_lenO : VD S K W true 0 (tCB (fun xs H Q => ∃ p ys, xs = [.ref p] ∧ (SqL K H p ys ∨ SqT K H p ys) ∧ Q (.int ys.length) H) (tCons (tVar i) tNil)) (dLenO i) := by
  intro s ρ Φ Ψ Fr B σ H fp n m Q hw st hn hm k kx
  rcases hw with ⟨os, e, q⟩ | ⟨ds, e, q⟩
  · obtain ⟨a, ho, f, h1, h2, h3, _⟩ := Sr.objAt (g := []) (Fr := Fr) st e rfl
    cases h2 with
    | lst w =>
      refine ⟨_, h1, a, _, rfl, .inl (SqL.of h3), ?_⟩
      rw [← w.len]
      exact k _ ρ _ B H fp [] n q (Le.refl B) (by omega) ⟨.int _, rfl⟩ st fun _ => ⟨rfl, rfl⟩
  · obtain ⟨a, vs, h1, h2, h3⟩ := st.lstOf (.inr e)
    refine ⟨_, h1, a, _, rfl, .inl (SqL.of h2), ?_⟩
    rw [h3.len]
    exact k _ ρ _ B H fp [] n q (Le.refl B) (by omega) ⟨.int _, rfl⟩ st fun _ => ⟨rfl, rfl⟩
def oneO : Vl → List Ot → (Ot → List Ot → Prop) → Prop
  | .ow o, ρ, N => N o ρ
  | .rf j, ρ, N => ∃ o d, ρ[j]? = some o ∧ toD o = some d ∧ N (.fz d) (ρ.set j (.fz d))
theorem Sr.oneO {x : Vl} {v : V} {N : Ot → List Ot → Prop} (st : Sr S K s ρ σ B H (g ++ Fr) fp n) (r : VlR K B s σ x v g) (h : oneO x ρ N) : ∃ B' o k ρ' fp', Le B B' ∧ N o ρ' ∧ Ow K B' s o v k ∧ Sr S K s ρ' σ B' H (k ++ Fr) fp' n := by
  cases x with
  | ow o => exact ⟨B, o, g, ρ, fp, Le.refl B, h, r, st⟩
  | rf j =>
    obtain ⟨o, d, e1, e2, q⟩ := h
    obtain ⟨r, rfl⟩ := r
    obtain ⟨B2, fp2, l2, r2, st2⟩ := Sr.fzSlot (Fr := Fr) st e1 e2 r
    exact ⟨B2, _, [], _, fp2, l2, q, .fz r2, st2⟩
/-- a list stands in the slot i -/
def isL (i : Nat) (ρ : List Ot) : Prop := ∃ os, ρ[i]? = some (.lst os)
theorem Sr.isL (st : Sr S K s ρ σ B H Fr fp n) (h : isL i ρ) : ∃ a, σ[i]? = some (some (.ref a)) ∧ tyV K "list" (.ref a) H := by
  obtain ⟨os, e⟩ := h
  obtain ⟨a, ho, f, h1, h2, h3, _⟩ := Sr.objAt (g := []) (Fr := Fr) st e rfl
  cases h2 with
  | lst w => exact ⟨a, h1, .inl ⟨rfl, _, SqL.of h3⟩⟩
def vAppend (i : Nat) (w : EW) : EW := fun ρ Φ Ψ => isL i ρ ∧ w ρ (fun x ρ1 => oneO x ρ1 fun o ρ2 => ∃ os, ρ2[i]? = some (.lst os) ∧ os.length < 1000000 ∧ Φ (.ow (.fz .non)) (ρ2.set i (.lst (os ++ [o])))) Ψ
theorem v_append {w : EW} (ha : VE S K W b c ta w) : VE S K W false c (tBM K "list" rAppend (tVar i) (tCons ta tNil)) (vAppend i w) := by
  intro s ρ Φ Ψ Fr B σ H fp n m Q hw st hn hm k kx
  obtain ⟨a0, h0, ty⟩ := st.isL hw.1
  refine ⟨_, h0, ty, ha hw.2 st hn hm (fun x ρ' v B' H' fp' g n' q l ln r st' hb => ?_) kx⟩
  obtain ⟨B2, o, kk, ρ2, fp2, l2, ⟨os, e, hz, q⟩, ow, st2⟩ := st'.oneO r q
  obtain ⟨a, ho, f, h1, h2, h3, up⟩ := Sr.objAt st2 e rfl
  rw [h0] at h1
  cases h1
  cases h2 with
  | @lst _ _ vs _ w =>
    have ln2 := w.len
    obtain ⟨fp3, st3⟩ := up (.lst (os ++ [o])) (.lst (vs ++ [v])) (f ++ (kk ++ [])) [] [] (.lst (w.app (.cons ow .nil))) (by simp)
    exact ⟨a0, vs, v, rfl, rfl, h3, szl (by omega), k _ _ .non B2 _ fp3 [] n' q (l.trans l2) ln (.fz .non) st3 fun z => by cases z⟩
def vPop (i : Nat) : EW := fun ρ Φ _ => ∃ os o, ρ[i]? = some (.lst os) ∧ os[os.length - 1]? = some o ∧ Φ (.ow o) (ρ.set i (.lst os.dropLast))
theorem OwA.atE : ∀ {os : List Ot} {vs : List V} {f : Fp} {j : Nat} {o : Ot}, OwA K B s os vs f → os[j]? = some o → ∃ v f1 f2, vs[j]? = some v ∧ f.Perm (f1 ++ f2) ∧ OwA K B s (os.eraseIdx j) (vs.eraseIdx j) f1 ∧ Ow K B s o v f2 ∧
    ∀ o' v' f', Ow K B s o' v' f' → ∃ f3, f3.Perm (f1 ++ f') ∧ OwA K B s (os.set j o') (vs.set j v') f3
  | _, _, _, _, _, .nil, e => by simp at e
  | _, _, _, 0, o, .cons (v := v) (f := f) (g := g) a t, e => by
    cases e
    exact ⟨v, g, f, rfl, List.perm_append_comm, t, a, fun o' v' f' w => ⟨f' ++ g, List.perm_append_comm, .cons w t⟩⟩
  | _, _, _, j + 1, o, .cons (v := v) (f := f) (g := g) a t, e => by
    obtain ⟨u, f1, f2, h1, p, h3, h4, h5⟩ := OwA.atE t (j := j) (o := o) (by simpa using e)
    refine ⟨u, f ++ f1, f2, by simpa using h1, by rw [List.append_assoc]; exact List.Perm.append_left f p, .cons a h3, h4, fun o' v' f' w => ?_⟩
    obtain ⟨f3, p3, w3⟩ := h5 o' v' f' w
    exact ⟨f ++ f3, by rw [List.append_assoc]; exact List.Perm.append_left f p3, .cons a w3⟩
def vPopAt (i : Nat) (w : DW) : EW := fun ρ Φ Ψ => isL i ρ ∧ w ρ (fun d ρ1 => ∃ x os j o, d = .int x ∧ ρ1[i]? = some (.lst os) ∧ (-(2 ^ 63) ≤ x ∧ x < 2 ^ 63) ∧ ixN os.length x = some j ∧ os[j]? = some o ∧ Φ (.ow o) (ρ1.set i (.lst (os.eraseIdx j)))) Ψ
theorem v_popAt {w : DW} (ha : VD S K W b c ta w) : VE S K W false c (tBM K "list" rPopAt (tVar i) (tCons ta tNil)) (vPopAt i w) := by
  intro s ρ Φ Ψ Fr B σ H fp n m Q hw st hn hm k kx
  obtain ⟨a0, h0, ty⟩ := st.isL hw.1
  refine ⟨_, h0, ty, ha hw.2 st hn hm (fun d ρ' v B' H' fp' g n' q l ln r st' hb => ?_) kx⟩
  obtain ⟨x, os, j, o, rfl, e, hx, hj, eo, q⟩ := q
  obtain ⟨r, rfl⟩ := r
  cases r
  obtain ⟨a, ho, f, h1, h2, h3, up⟩ := Sr.objAt (g := []) (Fr := Fr) st' e rfl
  rw [h0] at h1
  cases h1
  cases h2 with
  | @lst _ _ vs _ w =>
    obtain ⟨v, f1, f2, e1, p, w1, w2, _⟩ := w.atE eo
    obtain ⟨fp3, st3⟩ := up (.lst (os.eraseIdx j)) (.lst (vs.eraseIdx j)) f1 f2 [] (.lst w1) (by simpa using p)
    exact ⟨a0, vs, x, j, v, rfl, rfl, h3, hx.1, hx.2, by rw [← w.len]; exact (ixN_seq hj).1, e1, k _ _ v B' _ fp3 f2 n' q l ln w2 st3 fun z => by cases z⟩
def vInsert (i : Nat) (w : DW) (u : EW) : EW := fun ρ Φ Ψ => isL i ρ ∧ w ρ (fun d ρ0 => u ρ0 (fun y ρ1 => oneO y ρ1 fun o ρ2 => ∃ x os, d = .int x ∧ ρ2[i]? = some (.lst os) ∧ (0 ≤ x ∧ x < 2 ^ 63) ∧ os.length < 1000000 ∧ Φ (.ow (.fz .non)) (ρ2.set i (.lst (os.take x.toNat ++ [o] ++ os.drop x.toNat)))) Ψ) Ψ
def vExtend (i : Nat) (w : DW) : EW := fun ρ Φ Ψ => isL i ρ ∧ w ρ (fun d ρ1 => ∃ es os, d = .lst es ∧ ρ1[i]? = some (.lst os) ∧ os.length + es.length ≤ 1000000 ∧ Φ (.ow (.fz .non)) (ρ1.set i (.lst (os ++ es.map .fz)))) Ψ
theorem rpa_rev {vs : List V} {ds : List Dt} (h : RpA K B vs ds) : RpA K B vs.reverse ds.reverse := RpA.of (prev h.paired)
/-- x[k] = v -/
def sSetL (i : Nat) (u : EW) (w : DW) : SW := fun ρ E => u ρ (fun y ρ0 => oneO y ρ0 fun o ρ1 => isL i ρ1 ∧ w ρ1 (fun d ρ2 => ∃ x os j o', d = .int x ∧ ρ2[i]? = some (.lst os) ∧ ixN os.length x = some j ∧ os[j]? = some o' ∧ E.nx (ρ2.set i (.lst (os.set j o)))) E.xc) E.xc
end
end Vc
namespace Vc
open PySem PySem.Spec PyProof.Rows L2 Sx
section
variable {S : SrcRep} {K : PySem.W.Frag} {W : WX} {pn : Nat → Bool} {s s' : Option Addr} {ρ ρ' : List Ot} {σ σ' : L2.St} {B B' H H' : Hp} {Fr fp fp' g G1 G2 : Fp} {n n' N N' : Nat} {b b1 b2 b3 : Bool} {c c1 c2 c3 : Nat} {te ta tb tc : TE} {tt : TT} {wi : TI} {aa : TA} {i : Nat} {o : Ot}
/-- the value is data already -/
def dX (w : EW) : DW := fun ρ Φ Ψ => w ρ (fun x ρ1 => ∃ d, x = .ow (.fz d) ∧ Φ d ρ1) Ψ
theorem d_x {w : EW} (h : VE S K W b c te w) : VD S K W b c te (dX w) := by
  intro s ρ Φ Ψ Fr B σ H fp n m Q hw st hn hm k kx
  refine h hw st hn hm (fun x ρ' v B' H' fp' g n' q l ln r st' hb => ?_) kx
  obtain ⟨d, rfl, q⟩ := q
  cases r with
  | fz r => exact k d ρ' v B' H' fp' [] n' q l ln ⟨r, rfl⟩ st' hb
def fII (h : Int → Int → Int) : Fd := fun x y Φ => ∃ i j, x = .int i ∧ y = .int j ∧ Φ (.int (h i j))
theorem lf_II {h : Int → Int → Int} : Lf K (rI0 fun i j => .int (h i j)) (fII h) := fun x y Φ ⟨i, j, e1, e2, q⟩ => by subst e1 e2; exact r_II ⟨_, rfl, rfl, q⟩
def fIB (h : Int → Int → Bool) : Fd := fun x y Φ => ∃ i j, x = .int i ∧ y = .int j ∧ Φ (.bl (h i j))
theorem lf_IB {h : Int → Int → Bool} : Lf K (rI0 fun i j => .bl (h i j)) (fIB h) := fun x y Φ ⟨i, j, e1, e2, q⟩ => by subst e1 e2; exact r_IB ⟨_, rfl, rfl, q⟩
def fMod : Fd := fun x y Φ => ∃ i j, x = .int i ∧ y = .int j ∧ 0 < j ∧ Φ (.int (i % j))
theorem lf_mod : Lf K (rI (fun _ j => 0 < j) fun i j => .int (i % j)) fMod := fun x y Φ ⟨i, j, e1, e2, h, q⟩ => by subst e1 e2; exact r_mod h ⟨_, rfl, rfl, q⟩
def fDiv : Fd := fun x y Φ => ∃ i j, x = .int i ∧ y = .int j ∧ 0 < j ∧ j < 1073741824 ∧ Φ (.int (i / j))
theorem lf_div : Lf K (rI CDiv fun i j => .int (i / j)) fDiv := fun x y Φ ⟨i, j, e1, e2, h, h2, q⟩ => by subst e1 e2; exact r_fdiv h h2 ⟨_, rfl, rfl, q⟩
def fMul : Fd := fun x y Φ => ∃ i j, x = .int i ∧ y = .int j ∧ ((-(2 ^ 64) < i ∧ i < 2 ^ 64) ∨ (-(2 ^ 64) < j ∧ j < 2 ^ 64)) ∧ Φ (.int (i * j))
theorem lf_mul : Lf K (rI CMul fun i j => .int (i * j)) fMul := fun x y Φ ⟨i, j, e1, e2, h, q⟩ => by subst e1 e2; exact r_mul h ⟨_, rfl, rfl, q⟩
def fPow : Fd := fun x y Φ => ∃ i j n, x = .int i ∧ y = .int j ∧ decide (i ^ j.toNat = n) = true ∧ (decide (0 ≤ j) && (decide (j ≤ 1000000) && decide (i.natAbs < 18446744073709551616))) = true ∧ Φ (.int n)
theorem lf_pow : Lf K (rI CPow fun i j => .int (i ^ j.toNat)) fPow := fun x y Φ ⟨i, j, n, e1, e2, h1, h2, q⟩ => by subst e1 e2; exact r_pow n h1 h2 ⟨_, rfl, rfl, q⟩
def fAddIB : Fd := fun x y Φ => ∃ i k, x = .int i ∧ y = .bl k ∧ Φ (.int (i + b2i k))
def fNeg : Fu := fun x Φ => ∃ i, x = .int i ∧ Φ (.int (-i))
theorem lf_neg : Lf K (fun v _ H Q => rU (fun i => .int (-i)) v H Q) fun x _ Φ => fNeg x Φ := by
  intro x y Φ ⟨i, e, q⟩
  subst e
  intro Fr B H Q v u h rx ry k
  cases rx
  exact ⟨i, rfl, k _ [] _ B H ⟨_, rfl, rfl, q⟩ (Le.refl B) h (.int _)⟩
def fEq : Fd := fun x y Φ => match x, y with
  | .int i, .int j => Φ (.bl (decide (i = j)))
  | .str i, .str j => Φ (.bl (decide (i = j)))
  | .bl i, .bl j => Φ (.bl (decide (i = j)))
  | _, _ => False
def fNe : Fd := fun x y Φ => match x, y with
  | .int i, .int j => Φ (.bl (!decide (i = j)))
  | .str i, .str j => Φ (.bl (!decide (i = j)))
  | _, _ => False
theorem lf_eq : Lf K rEq fEq := fun x y Φ q => by
  unfold fEq at q
  split at q
  · exact r_eqI ⟨_, rfl, rfl, q⟩
  · exact r_eqS ⟨_, rfl, rfl, q⟩
  · exact r_eqB ⟨_, rfl, rfl, q⟩
  · exact q.elim
def fAddS : Fd := fun x y Φ => ∃ i j : Str, x = .str i ∧ y = .str j ∧ i.length + j.length ≤ 1000000 ∧ Φ (.str (i ++ j))
theorem lf_addS : Lf K (fun x y H Q => ∃ i j, x = .str i ∧ y = .str j ∧ i.length + j.length ≤ sizeLine ∧ Q (.str (i ++ j)) H) fAddS := fun x y Φ ⟨i, j, e1, e2, h, q⟩ => by subst e1 e2; exact r_addS h ⟨_, rfl, rfl, q⟩
def fRepS : Fd := fun x y Φ => ∃ (z : Str) (n : Int), x = .str z ∧ y = .int n ∧ 0 ≤ n ∧ n ≤ 1000 ∧ z.length ≤ 1000 ∧ Φ (.str (Txt.mul z n))
theorem lf_repS : Lf K rRepS fRepS := fun x y Φ ⟨z, n, e1, e2, h0, h1, h2, q⟩ => by subst e1 e2; exact r_repS h0 h1 h2 ⟨_, rfl, rfl, q⟩
def fIsN : Fd := fun x y Φ => y = .non ∧ Φ (.bl (isNonD (.dt x)))
theorem lf_isN : Lf K (fun x y H Q => y = .non ∧ Q (.bl (decide (x = .non))) H) fIsN := fun x y Φ ⟨e, q⟩ => by subst e; exact r_isN ⟨_, rfl, rfl, q⟩
def fNotN : Fd := fun x y Φ => y = .non ∧ Φ (.bl (!isNonD (.dt x)))
theorem lf_notN : Lf K (fun x y H Q => y = .non ∧ Q (.bl (!decide (x = .non))) H) fNotN := fun x y Φ ⟨e, q⟩ => by subst e; exact r_notN ⟨_, rfl, rfl, q⟩
def fIxL : Fd := fun x y Φ => ∃ ds i d, x = .lst ds ∧ y = .int i ∧ atI ds i = some d ∧ Φ d
theorem lf_ixL : Lf K (rIxL K) fIxL := fun x y Φ ⟨ds, i, d, e1, e2, h, q⟩ => by subst e1 e2; exact r_ixL h ⟨_, rfl, rfl, q⟩
def fIxT : Fd := fun x y Φ => ∃ ds i d, x = .tup ds ∧ y = .int i ∧ atI ds i = some d ∧ Φ d
theorem lf_ixT : Lf K (rIxT K) fIxT := fun x y Φ ⟨ds, i, d, e1, e2, h, q⟩ => by subst e1 e2; exact r_ixT h ⟨_, rfl, rfl, q⟩
def fIxS : Fd := fun x y Φ => ∃ (z : Str) (i : Int) (c : Nat), x = .str z ∧ y = .int i ∧ z.length ≤ 1000000 ∧ atI z.cps.toList i = some c ∧ Φ (.str (sgn c))
theorem lf_ixS : Lf K rIxS fIxS := fun x y Φ ⟨z, i, c, e1, e2, h1, h2, q⟩ => by subst e1 e2; exact r_ixS h1 h2 ⟨_, rfl, rfl, q⟩
def fIxScr : Fd := fun x y Φ => ∃ ns i n, x = .scr ns ∧ y = .int i ∧ atI ns i = some n ∧ Φ (.int n)
theorem lf_ixScr : Lf K (rIxL K) fIxScr := fun x y Φ ⟨ns, i, n, e1, e2, h, q⟩ => by subst e1 e2; exact r_ixScr h ⟨_, rfl, rfl, q⟩
def fInS (neg : Bool) : Fd := fun x y Φ => ∃ (z : Str) (zs : List Str), x = .str z ∧ y = .lst (zs.map .str) ∧ Φ (.bl (if neg then !decide (z ∈ zs) else decide (z ∈ zs)))
theorem lf_inS {neg : Bool} : Lf K (rIn K neg) (fInS neg) := fun x y Φ ⟨z, zs, e1, e2, q⟩ => by subst e1 e2; exact r_inStr ⟨_, rfl, rfl, q⟩
def fInI (neg : Bool) : Fd := fun x y Φ => ∃ (z : Int) (zs : List Int), x = .int z ∧ y = .lst (zs.map .int) ∧ Φ (.bl (if neg then !decide (z ∈ zs) else decide (z ∈ zs)))
def fEqP : Fd := fun x y Φ => ∃ a b, toP x = some a ∧ toP y = some b ∧ a.depth ≤ 150 ∧ Φ (.bl (PyData.eqv a b))
theorem lf_eqP : Lf K (rEqP K) fEqP := fun x y Φ ⟨a, b, e1, e2, h, q⟩ => r_eqP e1 e2 h ⟨_, rfl, rfl, q⟩
def fNeP : Fd := fun x y Φ => ∃ a b, toP x = some a ∧ toP y = some b ∧ a.depth ≤ 150 ∧ Φ (.bl (!PyData.eqv a b))
theorem lf_neP : Lf K (rNeP K) fNeP := fun x y Φ ⟨a, b, e1, e2, h, q⟩ => r_neP e1 e2 h ⟨_, rfl, rfl, q⟩
def fCat : Fd := fun x y Φ => ∃ ds es, x = .lst ds ∧ y = .lst es ∧ ds.length + es.length ≤ 1000000 ∧ Φ (.lst (ds ++ es))
theorem lf_cat : Lf K rCat fCat := fun x y Φ ⟨ds, es, e1, e2, h, q⟩ => by subst e1 e2; exact r_cat h ⟨_, rfl, rfl, q⟩
def vCat (wa wb : DW) : EW := fun ρ Φ Ψ => wa ρ (fun x ρ1 => wb ρ1 (fun y ρ2 => ∃ ds es, x = .lst ds ∧ y = .lst es ∧ ds.length + es.length ≤ 1000000 ∧ Φ (.ow (.lst ((ds ++ es).map .fz))) ρ2) Ψ) Ψ
theorem v_cat {wa wb : DW} (ha : VD S K W b1 c1 ta wa) (hb : VD S K W b2 c2 tb wb) : VE S K W (b1 && b2) (c1 + c2) (tOp rCat ta tb) (vCat wa wb) := by
  refine Vx.bind ha fun x v B0 s σ g r0 ρ Φ Ψ Fr H fp n m Q hw st hn hm k kx => ?_
  obtain ⟨rx, rfl⟩ := r0
  refine hb hw st hn hm (fun y ρ' u B' H' fp' g' n' q l ln r1 st' hq => ?_) kx
  obtain ⟨ry, rfl⟩ := r1
  obtain ⟨ds, es, rfl, rfl, hl, q⟩ := q
  cases rx with
  | lst h1 a1 =>
    cases ry with
    | lst h2 a2 =>
      refine ⟨_, _, _, _, rfl, rfl, st'.same _ _ (l.lst h1), st'.same _ _ h2, sz (by rw [a1.len, a2.len]; exact hl), fun p hp => ?_⟩
      exact k _ ρ' _ B' _ fp' _ n' q l ln (.lst (rpa_ow (RpA.of (papp (RpA.mono l a1).paired a2.paired)))) (Sr.new (g := []) (Fr := Fr) st' hp _) hq
def oIx : List Dt → Dt → (Dt → Prop) → Prop := fun ds x Φ => ∃ i d, x = .int i ∧ atI ds i = some d ∧ Φ d
def oInS (neg : Bool) : Dt → List Dt → (Dt → Prop) → Prop := fun x ds Φ => ∃ (z : Str) (zs : List Str), x = .str z ∧ ds = zs.map .str ∧ Φ (.bl (if neg then !decide (z ∈ zs) else decide (z ∈ zs)))
theorem lo_inS {neg : Bool} : Lo K (rIn K neg) (oInS neg) := fun x ds Φ ⟨z, zs, e1, e2, q⟩ B H F v a vs Q hc rx ha rl k => by
  subst e1 e2
  cases rx
  rw [rpa_strs rl] at ha
  refine ⟨a, _, rfl, .inl (SqL.of ha), rfl, by rw [List.all_map]; exact List.all_eq_true.mpr fun _ _ => rfl, ?_⟩
  rw [inV_str]
  exact k _ _ B H q (Le.refl B) hc (.bl _)
def gLen : Fc := fun xs Φ => ∃ es, (xs = [.lst es] ∨ xs = [.tup es]) ∧ Φ (.int (es.length : Int))
theorem lc_len : Lc K (fun xs H Q => ∃ p ys, xs = [.ref p] ∧ (SqL K H p ys ∨ SqT K H p ys) ∧ Q (.int ys.length) H) gLen := fun xs Φ ⟨es, e, q⟩ => by
  rcases e with e | e
  · subst e; exact c_lenL ⟨_, rfl, rfl, q⟩
  · subst e; exact c_lenT ⟨_, rfl, rfl, q⟩
def gLenScr : Fc := fun xs Φ => ∃ ns, xs = [.scr ns] ∧ Φ (.int (ns.length : Int))
theorem lc_lenScr : Lc K (fun xs H Q => ∃ p ys, xs = [.ref p] ∧ (SqL K H p ys ∨ SqT K H p ys) ∧ Q (.int ys.length) H) gLenScr := fun xs Φ ⟨es, e, q⟩ => by subst e; exact c_lenScr ⟨_, rfl, rfl, q⟩
def gLenS : Fc := fun xs Φ => ∃ z : Str, xs = [.str z] ∧ z.length ≤ 1000000 ∧ Φ (.int (z.length : Int))
theorem lc_lenS : Lc K (fun xs H Q => ∃ z, xs = [.str z] ∧ z.length ≤ sizeLine ∧ Q (.int z.length) H) gLenS := fun xs Φ ⟨z, e, h, q⟩ => by subst e; exact c_lenS h ⟨_, rfl, rfl, q⟩
def gInt : Fc := fun xs Φ => match xs with
  | [.int i] => Φ (.int i)
  | [.bl b] => Φ (.int (if b then 1 else 0))
  | _ => False
theorem lc_int : Lc K (fun xs H Q => (∃ i, xs = [.int i] ∧ Q (.int i) H) ∨ ∃ k, xs = [.bl k] ∧ Q (.int (if k then 1 else 0)) H) gInt := fun xs Φ q => by
  unfold gInt at q
  split at q
  · exact c_int1 ⟨_, rfl, rfl, q⟩
  · exact c_intB ⟨_, rfl, rfl, q⟩
  · exact q.elim
def gAbs : Fc := fun xs Φ => ∃ i : Int, xs = [.int i] ∧ Φ (.int (if i < 0 then -i else i))
theorem lc_abs : Lc K (fun xs H Q => ∃ i, xs = [.int i] ∧ Q (.int (if i < 0 then -i else i)) H) gAbs := fun xs Φ ⟨i, e, q⟩ => by subst e; exact c_abs ⟨_, rfl, rfl, q⟩
def gII (f : Int → Int → Int) : Fc := fun xs Φ => ∃ i j, xs = [.int i, .int j] ∧ Φ (.int (f i j))
theorem lc_ii {f : Int → Int → Int} : Lc K (fun xs H Q => ∃ i j, xs = [.int i, .int j] ∧ Q (.int (f i j)) H) (gII f) := fun xs Φ ⟨i, j, e, q⟩ => by subst e; exact c_ii ⟨_, rfl, rfl, q⟩
def gList : Fc := fun xs Φ => ∃ es, (xs = [.lst es] ∨ xs = [.tup es]) ∧ Φ (.lst es)
theorem lc_list : Lc K (fun xs H Q => ∃ p ys, xs = [.ref p] ∧ (SqL K H p ys ∨ SqT K H p ys) ∧ ∀ l, H l = none → Q (.ref l) (upd H l (.lst ys))) gList := fun xs Φ ⟨es, e, q⟩ => by
  rcases e with e | e
  · subst e; exact c_listL ⟨_, rfl, rfl, q⟩
  · subst e; exact c_listT ⟨_, rfl, rfl, q⟩
def gTuple : Fc := fun xs Φ => ∃ es, xs = [.lst es] ∧ Φ (.tup es)
theorem lc_tuple : Lc K (fun xs H Q => ∃ p ys, xs = [.ref p] ∧ ((SqL K H p ys ∧ ∀ l, H l = none → Q (.ref l) (upd H l (.tup ys))) ∨ (SqT K H p ys ∧ Q (.ref p) H))) gTuple := fun xs Φ ⟨es, e, q⟩ => by subst e; exact c_tupL ⟨_, rfl, rfl, q⟩
def gIsi : Fc := fun xs Φ => ∃ d T n b, xs = [d, .ty T] ∧ tyD d = some n ∧ kitB n T = some b ∧ Φ (.bl b)
def rO : Hp → Option Addr → L2.St → Option Int → Option Int → Fp → Prop := fun _ _ _ a b g => a = b ∧ g = []
abbrev OW := List Ot → (Option Int → List Ot → Prop) → XW → Prop
abbrev VO (S : SrcRep) (K : PySem.W.Frag) (W : WX) (b : Bool) (c : Nat) (t : TO) (w : OW) : Prop := Vx S K W rO b c t w
def oNo : OW := fun ρ Φ _ => Φ none ρ
theorem o_none : VO S K W true 0 tNoPart oNo := fun s ρ Φ Ψ Fr B σ H fp n m Q hw st hn hm k kx => k none ρ none B H fp [] n hw (Le.refl B) (by omega) ⟨rfl, rfl⟩ st fun _ => ⟨rfl, rfl⟩
def oSo (w : DW) : OW := fun ρ Φ Ψ => w ρ (fun d ρ1 => ∃ i, d = .int i ∧ Φ (some i) ρ1) Ψ
theorem o_some {w : DW} (h : VD S K W b c te w) : VO S K W b c (tPart te) (oSo w) := by
  intro s ρ Φ Ψ Fr B σ H fp n m Q hw st hn hm k kx
  refine h hw st hn hm (fun d ρ' v B' H' fp' g n' q l ln r st' hb => ?_) kx
  obtain ⟨i, rfl, q⟩ := q
  obtain ⟨r, rfl⟩ := r
  cases r
  exact ⟨i, rfl, k _ ρ' _ B' H' fp' [] n' q l ln ⟨rfl, rfl⟩ st' hb⟩
abbrev Fs := Dt → Option Int → Option Int → (Dt → Prop) → Prop
def Ls (K : PySem.W.Frag) (r : V → Option Int → Option Int → Hp → VK → Prop) (f : Fs) : Prop := ∀ x lo hi Φ, f x lo hi Φ → WL K r (.dt x) lo hi [] fun z L => ∃ d, z = .dt d ∧ L = [] ∧ Φ d
def dSl (f : Fs) (w : DW) (w1 w2 : OW) : DW := fun ρ Φ Ψ => w ρ (fun x ρ1 => w1 ρ1 (fun lo ρ2 => w2 ρ2 (fun hi ρ3 => f x lo hi fun z => Φ z ρ3) Ψ) Ψ) Ψ
theorem d_sl {r : V → Option Int → Option Int → Hp → VK → Prop} {f : Fs} {w : DW} {w1 w2 : OW} {t1 t2 : TO} (lf : Ls K r f) (h : VD S K W b1 c1 te w) (h1 : VO S K W b2 c2 t1 w1) (h2 : VO S K W b3 c3 t2 w2) : VD S K W (b1 && (b2 && b3)) (c1 + (c2 + c3)) (tSl r te t1 t2) (dSl f w w1 w2) := by
  refine Vx.bind (c2 := c2 + c3) (b2 := b2 && b3) h fun x v B0 s σ g r0 ρ Φ Ψ Fr H fp n m Q hw st hn hm k kx => ?_
  obtain ⟨rx, rfl⟩ := r0
  refine h1 hw st (by omega) hm (fun lo ρ1 lo' B1 H1 fp1 g1 n1 q l ln r1 st1 hq => ?_) kx
  obtain ⟨rfl, rfl⟩ := r1
  refine h2 q st1 (by omega) hm (fun hi ρ2 hi' B2 H2 fp2 g2 n2 q l2 ln2 r2 st2 hq2 => ?_) (kx.mono l)
  obtain ⟨rfl, rfl⟩ := r2
  obtain ⟨F, hc, back⟩ := st2.hc
  refine lf x lo hi _ q F B2 H2 _ v hc (Rp.mono (l.trans l2) rx) fun z L' z' B3 H3 hz l3 c3 rz => ?_
  obtain ⟨d, e1, e2, qd⟩ := hz
  subst e1 e2
  refine k d ρ2 z' B3 H3 fp2 [] n2 qd ((l.trans l2).trans l3) (by omega) ⟨rz, rfl⟩ (back B3 H3 l3 c3) fun hb => ?_
  rw [Bool.and_eq_true] at hb
  obtain ⟨a1, a2⟩ := hq hb.1
  obtain ⟨a3, a4⟩ := hq2 hb.2
  exact ⟨a3.trans a1, a4.trans a2⟩
def sLst : Fs := fun x lo hi Φ => ∃ ds, x = .lst ds ∧ Φ (.lst (cutG ds lo hi))
theorem ls_list : Ls K (rSlL K) sLst := fun x lo hi Φ ⟨ds, e, q⟩ => by subst e; exact l_list ⟨_, rfl, rfl, q⟩
def sScr : Fs := fun x lo hi Φ => ∃ ns, x = .scr ns ∧ Φ (.lst ((cutG ns lo hi).map .int))
theorem ls_scr : Ls K (rSlL K) sScr := fun x lo hi Φ ⟨ds, e, q⟩ => by subst e; exact l_scr ⟨_, rfl, rfl, q⟩
def sStr : Fs := fun x lo hi Φ => ∃ z : Str, x = .str z ∧ z.length ≤ 1000000 ∧ Φ (.str (cutS z lo hi))
def dJoin (wa wb : DW) : DW := fun ρ Φ Ψ => wa ρ (fun x ρ1 => ∃ a : Str, x = .str a ∧ wb ρ1 (fun y ρ2 => ∃ ys : List Str, y = .lst (ys.map .str) ∧ (ys.map (·.length)).sum + ys.length * a.length ≤ 16777216 ∧ Φ (.str (Txt.join a ys)) ρ2) Ψ) Ψ
end
end Vc
namespace Vc
open PySem PySem.Spec PyProof.Rows L2 Sx
def ups (ρ : List Ot) (u : List (Nat × Ot)) : List Ot := u.foldl (fun r p => r.set p.1 p.2) ρ
section
variable {pn : Nat → Bool} {tg : Tg} {w : SW} {E : EdV} {ds : List Dt} {ρ : List Ot}
theorem for_inv (md : List Nat) (I : Nat → List (Nat × Ot) → Prop) (h0 : ∃ u, I 0 u ∧ Fg ρ (ups (wipeO ρ md) u))
    (hs : ∀ i d u N, ds[i]? = some d → I i u → (∀ u' ρ', I (i + 1) u' → Fg ρ' (ups (wipeO ρ md) u') → N ρ') → tg.put pn d (ups (wipeO ρ md) u) fun ρ1 => w ρ1 { nx := N, ct := N, bk := E.nx, rt := E.rt, xc := E.xc })
    (hd : ∀ u, I ds.length u → E.nx (ups (wipeO ρ md) u)) : Fgt (forP pn tg w E ds) ρ := by
  obtain ⟨u0, i0, f0⟩ := h0
  have go : ∀ (ds' : List Dt) (i : Nat) (u : List (Nat × Ot)), ds.drop i = ds' → i ≤ ds.length → I i u → forP pn tg w E ds' (ups (wipeO ρ md) u) := by
    intro ds'
    induction ds' with
    | nil =>
      intro i u e hi hI
      unfold forP
      have : i = ds.length := by
        have := List.drop_eq_nil_iff.mp e
        omega
      subst this
      exact hd u hI
    | cons d ds' ih =>
      intro i u e hi hI
      have hlt : i < ds.length := by
        refine Nat.lt_of_not_le fun z => ?_
        rw [List.drop_eq_nil_iff.mpr z] at e
        cases e
      have e2 := List.drop_eq_getElem_cons hlt
      rw [e] at e2
      injection e2 with e3 e4
      unfold forP
      refine hs i d u _ (by rw [List.getElem?_eq_getElem hlt, e3]) hI fun u' ρ' hI' f => ⟨_, f, ih (i + 1) u' e4.symm hlt hI'⟩
  exact ⟨_, f0, go ds 0 u0 rfl (Nat.zero_le _) i0⟩
end
section
variable {tg : Tg} {wt : TW} {we : DW} {ρb : List Ot} {ds : List Dt}
theorem lcD_inv (I : Nat → List Dt → Prop) {Φ : List Dt → Prop} (h0 : I 0 []) (hs : ∀ i d acc (N1 : Dt → Prop) (N0 : Prop), ds[i]? = some d → acc.length ≤ i → I i acc → (∀ y, I (i + 1) (acc ++ [y]) → N1 y) → (I (i + 1) acc → N0) →
      tg.put (fun _ => false) d ρb fun ρ2 => wt ρ2 (fun x _ => if x = true then we ρ2 (fun y _ => N1 y) noX else N0) noX)
    (hd : ∀ acc, I ds.length acc → Φ acc) : lcD tg wt we ρb ds [] Φ := by
  have go : ∀ (ds' : List Dt) (i : Nat) (acc : List Dt), ds.drop i = ds' → i ≤ ds.length → acc.length ≤ i → I i acc → lcD tg wt we ρb ds' acc Φ := by
    intro ds'
    induction ds' with
    | nil =>
      intro i acc e hi ha hI
      unfold lcD
      have : i = ds.length := by
        have := List.drop_eq_nil_iff.mp e
        omega
      subst this
      exact hd acc hI
    | cons d ds' ih =>
      intro i acc e hi ha hI
      have hlt : i < ds.length := by
        refine Nat.lt_of_not_le fun z => ?_
        rw [List.drop_eq_nil_iff.mpr z] at e
        cases e
      have e2 := List.drop_eq_getElem_cons hlt
      rw [e] at e2
      injection e2 with e3 e4
      unfold lcD
      exact hs i d acc (fun y => lcD tg wt we ρb ds' (acc ++ [y]) Φ) _ (by rw [List.getElem?_eq_getElem hlt, e3]) ha hI (fun y q => ih (i + 1) _ e4.symm hlt (by rw [List.length_append, List.length_singleton]; omega) q) fun q => ih (i + 1) _ e4.symm hlt (by omega) q
  exact go ds 0 [] rfl (Nat.zero_le _) (Nat.zero_le _) h0
/-- a pure one: f the test, e the element -/
theorem lcD_map {α : Type} (xs : List α) (enc : α → Dt) (f : α → Bool) (e : α → Dt) {Φ : List Dt → Prop} (hx : ds = xs.map enc)
    (hs : ∀ x, x ∈ xs → ∀ (N1 : Dt → Prop) (N0 : Prop), (f x = true → N1 (e x)) → (f x = false → N0) → tg.put (fun _ => false) (enc x) ρb fun ρ2 => wt ρ2 (fun y _ => if y = true then we ρ2 (fun z _ => N1 z) noX else N0) noX)
    (hd : Φ ((xs.filter f).map e)) : lcD tg wt we ρb ds [] Φ := by
  subst hx
  refine lcD_inv (fun i acc => acc = ((xs.take i).filter f).map e) rfl (fun i d acc N1 N0 hdi _ hI h1 h0 => ?_) fun acc hI => ?_
  · rw [List.getElem?_map] at hdi
    cases hx : xs[i]? with
    | none => rw [hx] at hdi; cases hdi
    | some x =>
      rw [hx] at hdi
      cases hdi
      have tk : xs.take (i + 1) = xs.take i ++ [x] := by rw [List.take_add_one, hx]; rfl
      refine hs x (List.mem_of_getElem? hx) N1 N0 (fun hf => h1 _ ?_) fun hf => h0 ?_
      · rw [tk, List.filter_append, List.map_append, List.filter_cons, if_pos hf, hI]; rfl
      · rw [tk, List.filter_append, List.map_append, List.filter_cons, if_neg (by rw [hf]; exact Bool.false_ne_true), hI]
        show _ = _ ++ []
        rw [List.append_nil]
  · rw [hI, List.length_map, List.take_length]
    exact hd
end
section
variable {S : SrcRep} {P : Program} {w : World} {K : PySem.W.Frag} {mg : Str → Option Value} {base : Heap} {k c : Nat} {x : Str} {ps N : List Str} {F : FnW} {st : Stmt}
theorem kv_of0 (pn : Nat → Bool) (D : Df K mg x st) (Sc : FnScope N ps (defScope st))
    (hb : ∀ (kV doc pm : Value) (an : Option Addr) (cdv ct : Value) (us : List Value), us.length = ps.length → bindArgs (PySem.W.fnOf x x (defArgs st) (defBody st) (defScope st) .none kV doc pm an cdv ct) ⟨us, []⟩ = pure (ps.zip us))
    (hlen : ∀ os Φ Ψ, F os Φ Ψ → os.length = ps.length)
    (body : ∀ (f : Addr) (cdv : Value) (A : Around) (outer : List Env) (s : Shared) (H : Hp) (E : XK), Room k (A.deeper (envOfC x (defScope st) s.heap.objs.size f cdv)) →
      ∃ t w', PSs (cxOf (L2.CX P w) P w K mg base N x (defScope st) f cdv A outer s H E).nox (defBody st) t ∧ VS S K (fun cls d _ H => E cls d H) pn true c t w' ∧ ∀ os Φ Ψ, F os Φ Ψ → pnOk pn os = true ∧
        w' (stO0 N os) { nx := fun ρ' => finB pn ρ' os = true ∧ Φ (.fz .non) (fin pn ρ' os), rt := fun o ρ' => finB pn ρ' os = true ∧ Φ o (fin pn ρ' os), xc := fun C d ρ' => finB pn ρ' os = true ∧ Ψ C d (fin pn ρ' os) }) : Kv S P w K mg base (k + 1) c x ps F :=
  kv_of pn D Sc hb hlen fun f cdv A outer s H E hr => by
    obtain ⟨t, w', h, q⟩ := body f cdv A outer s H E hr
    exact ⟨t, w', h.nox, q⟩
end
mutual
def Ot.nos : Ot → Bool
  | .src => false
  | .no => true
  | .fz _ => true
  | .lst os => nosA os
  | .tup os => nosA os
  | .dic _ os => nosA os
  | .dit _ os => nosA os
  | .dx _ _ os => nosA os
  | .ins _ _ os => nosA os
  | .hp _ _ _ => true
  | .av _ o => o.nos
def nosA : List Ot → Bool
  | [] => true
  | o :: os => o.nos && nosA os
end
section
variable {S : SrcRep} {K : PySem.W.Frag} {W : WX} {pn : Nat → Bool} {s s' : Option Addr} {ρ ρ' : List Ot} {σ σ' : L2.St} {B B' H H' : Hp} {Fr fp fp' g G1 G2 : Fp} {n n' N N' : Nat} {b b1 b2 b3 g1 : Bool} {c c1 c2 c3 : Nat} {te ta tb tc : TE} {tt : TT} {t : TS} {wi : TI} {aa : TA} {i : Nat} {o : Ot}
mutual
theorem Ow.nos : ∀ {o : Ot} {v : V} {f : Fp}, Ow K B s o v f → o.nos = true → ∀ s', Ow K B s' o v f
  | _, _, _, .src _, h, _ => by unfold Ot.nos at h; cases h
  | _, _, _, .fz r, _, _ => .fz r
  | _, _, _, .lst w, h, s' => .lst (OwA.nos w (by unfold Ot.nos at h; exact h) s')
  | _, _, _, .tup w, h, s' => .tup (OwA.nos w (by unfold Ot.nos at h; exact h) s')
  | _, _, _, .dic e w, h, s' => .dic e (OwA.nos w (by unfold Ot.nos at h; exact h) s')
  | _, _, _, .dit e w, h, s' => .dit e (OwA.nos w (by unfold Ot.nos at h; exact h) s')
  | _, _, _, .ins e w, h, s' => .ins e (OwA.nos w (by unfold Ot.nos at h; exact h) s')
  | _, _, _, .hp h0, _, _ => .hp h0
  | _, _, _, .dx k e d w, h, s' => .dx k e d (OwA.nos w (by unfold Ot.nos at h; exact h) s')
  | _, _, _, .av w, h, s' => .av (Ow.nos w (by unfold Ot.nos at h; exact h) s')
theorem OwA.nos : ∀ {os : List Ot} {vs : List V} {f : Fp}, OwA K B s os vs f → nosA os = true → ∀ s', OwA K B s' os vs f
  | _, _, _, .nil, _, _ => .nil
  | _, _, _, .cons a t, h, s' => by
    unfold nosA at h
    rw [Bool.and_eq_true] at h
    exact .cons (a.nos h.1 s') (OwA.nos t h.2 s')
end
theorem En.nos : ∀ {ρ : List Ot} {σ : L2.St} {f : Fp}, En K B s ρ σ f → nosA ρ = true → ∀ s', En K B s' ρ σ f
  | _, _, _, .nil, _, _ => .nil
  | _, _, _, .no t, h, s' => by unfold nosA at h; rw [Bool.and_eq_true] at h; exact .no (En.nos t h.2 s')
  | _, _, _, .cons a t, h, s' => by unfold nosA at h; rw [Bool.and_eq_true] at h; exact .cons (a.nos h.1 s') (En.nos t h.2 s')
/-- what stands in a slot becomes the source -/
def sSrc (i : Nat) (ok : Ot → Prop) (w : SW) : SW := fun ρ E => w ρ { E with nx := fun ρ' => ∃ o, ρ'[i]? = some o ∧ o.free = false ∧ ok o ∧ nosA (ρ'.set i .no) = true ∧ E.nx (ρ'.set i .src) }
theorem VS.fit {w : SW} (h : VS S K W pn g1 c1 t w) (hc : c1 ≤ c2) (hg : g1 = true) : VS S K W pn true c2 t w := by
  subst hg
  intro s ρ E Fr B σ H fp n D hw st hn e
  exact h hw st (by omega) (e.weak (by omega) fun z => z)
end
end Vc
namespace Vc
open PySem PySem.Spec PyProof.Rows L2 Sx
section
variable {α : Type} {ρ : List Ot} {nx bk ct : List Ot → Prop} {rt : Ot → List Ot → Prop} {xc Ψ : XW} {i : Nat} {pn : Nat → Bool}
theorem g_seq {a b : SW} (h : a ρ ⟨fun ρ' => b ρ' ⟨nx, rt, xc, bk, ct⟩, rt, xc, bk, ct⟩) : sSeq a b ρ ⟨nx, rt, xc, bk, ct⟩ := h
theorem g_next (h : nx ρ) : sNext ρ ⟨nx, rt, xc, bk, ct⟩ := h
theorem g_brk (h : bk ρ) : sBreak ρ ⟨nx, rt, xc, bk, ct⟩ := h
theorem g_cnt (h : ct ρ) : sCont ρ ⟨nx, rt, xc, bk, ct⟩ := h
theorem g_drop {w : EW} (h : w ρ (fun _ ρ1 => nx ρ1) xc) : sDrop w ρ ⟨nx, rt, xc, bk, ct⟩ := h
theorem g_retD {w : DW} (h : w ρ (fun d ρ1 => rt (.fz d) ρ1) xc) : sRetD w ρ ⟨nx, rt, xc, bk, ct⟩ := h
theorem g_retN (h : rt (.fz .non) ρ) : sRetN ρ ⟨nx, rt, xc, bk, ct⟩ := h
theorem g_if {w : TW} {a b : SW} (h : w ρ (fun x ρ1 => if x = true then a ρ1 ⟨nx, rt, xc, bk, ct⟩ else b ρ1 ⟨nx, rt, xc, bk, ct⟩) xc) : sIf w a b ρ ⟨nx, rt, xc, bk, ct⟩ := h
theorem g_asgD {w : DW} (hp : pn i = false) (h : w ρ (fun d ρ1 => i < ρ1.length ∧ nx (ρ1.set i (.fz d))) xc) : sAsgD pn i w ρ ⟨nx, rt, xc, bk, ct⟩ := by
  have e : (fun (d : Dt) (ρ1 : List Ot) => pn i = false ∧ i < ρ1.length ∧ nx (ρ1.set i (.fz d))) = (fun d ρ1 => i < ρ1.length ∧ nx (ρ1.set i (.fz d))) := by
    funext d ρ1; exact propext ⟨fun z => z.2, fun z => ⟨hp, z⟩⟩
  show w ρ (fun d ρ1 => pn i = false ∧ i < ρ1.length ∧ nx (ρ1.set i (.fz d))) xc
  rw [e]
  exact h
theorem g_asg {w : EW} (h : w ρ (fun x ρ1 => stO pn i x ρ1 nx) xc) : sAsg pn i w ρ ⟨nx, rt, xc, bk, ct⟩ := h
theorem g_asgT {tg : Tg} {w : DW} (h : w ρ (fun d ρ1 => tg.put pn d ρ1 nx) xc) : sAsgT pn tg w ρ ⟨nx, rt, xc, bk, ct⟩ := h
theorem g_aug {f : Int → Int → Int} {w : DW} (hp : pn i = false) (h : ∃ a, ρ[i]? = some (.fz (.int a)) ∧ w ρ (fun d ρ1 => ∃ x, d = .int x ∧ i < ρ1.length ∧ nx (ρ1.set i (.fz (.int (f a x))))) xc) : sAug pn i f w ρ ⟨nx, rt, xc, bk, ct⟩ := by
  obtain ⟨a, e, h⟩ := h
  refine ⟨a, e, ?_⟩
  have e : (fun (d : Dt) (ρ1 : List Ot) => ∃ x, d = Dt.int x ∧ pn i = false ∧ i < ρ1.length ∧ nx (ρ1.set i (.fz (.int (f a x))))) = (fun d ρ1 => ∃ x, d = Dt.int x ∧ i < ρ1.length ∧ nx (ρ1.set i (.fz (.int (f a x))))) := by
    funext d ρ1; exact propext ⟨fun ⟨x, e, _, z⟩ => ⟨x, e, z⟩, fun ⟨x, e, z⟩ => ⟨x, e, hp, z⟩⟩
  show w ρ (fun d ρ1 => ∃ x, d = Dt.int x ∧ pn i = false ∧ i < ρ1.length ∧ nx (ρ1.set i (.fz (.int (f a x))))) xc
  rw [e]
  exact h
theorem g_for {tg : Tg} {cb : Nat} {wi : LW} {w : SW} (h : wi ρ (fun ds ρ1 => (cb = 0 ∨ ds.length ≤ FORN) ∧ Fgt (forP pn tg w ⟨nx, rt, xc, bk, ct⟩ ds) ρ1) xc) : sFor pn tg cb wi w ρ ⟨nx, rt, xc, bk, ct⟩ := h
theorem g_nm {d : Dt} {N : List Ot → Prop} (h1 : pn i = false) (h2 : i < ρ.length) (h : N (ρ.set i (.fz d))) : Tg.put pn (.nm i) d ρ N := by unfold Tg.put; exact ⟨h1, h2, h⟩
theorem g_tp {gs : List Tg} {ds : List Dt} {N : List Ot → Prop} (h : putT pn gs ds ρ N) : Tg.put pn (.tp gs) (.tup ds) ρ N := by unfold Tg.put; exact h
theorem g_tpn {N : List Ot → Prop} (h : N ρ) : putT pn [] [] ρ N := by unfold putT; exact h
theorem g_tpc {g : Tg} {gs : List Tg} {d : Dt} {ds : List Dt} {N : List Ot → Prop} (h : g.put pn d ρ fun ρ1 => putT pn gs ds ρ1 N) : putT pn (g :: gs) (d :: ds) ρ N := by unfold putT; exact h
def slotOk (ρ : List Ot) (i : Nat) : Bool := match ρ[i]? with | some o => !o.isNo | none => false
theorem slotOk_ex (h : slotOk ρ i = true) : ∃ o, ρ[i]? = some o ∧ o.isNo = false := by
  unfold slotOk at h
  cases q : ρ[i]? with
  | none => rw [q] at h; cases h
  | some o => rw [q] at h; exact ⟨o, rfl, by simpa using h⟩
variable {Φ : Dt → List Ot → Prop} {Φv : Vl → List Ot → Prop} {Φl : List Dt → List Ot → Prop} {Φa : List Vl → List Ot → Prop} {Φb : Bool → List Ot → Prop} {P : Dt → Prop}
theorem g_var (h : ∃ d, ρ[i]? = some (.fz d) ∧ Φ d ρ) : dVar i ρ Φ Ψ := h
theorem g_vfz (h : ∃ d, ρ[i]? = some (.fz d) ∧ Φv (.ow (.fz d)) ρ) : vVar i ρ Φv Ψ := by obtain ⟨d, e, h⟩ := h; exact ⟨_, e, h⟩
theorem g_vsrc (e : ρ[i]? = some .src) (h : Φv (.ow .src) ρ) : vVar i ρ Φv Ψ := ⟨_, e, h⟩
theorem g_vl (h : ∃ os, ρ[i]? = some (.lst os) ∧ Φv (.rf i) ρ) : vVar i ρ Φv Ψ := by obtain ⟨d, e, h⟩ := h; exact ⟨_, e, h⟩
theorem g_c {d : Dt} (h : Φ d ρ) : dC d ρ Φ Ψ := h
theorem g_vd {w : DW} (h : w ρ (fun d ρ' => Φv (.ow (.fz d)) ρ') Ψ) : vD w ρ Φv Ψ := h
theorem g_dx {w : EW} (h : w ρ (fun x ρ1 => ∃ d, x = .ow (.fz d) ∧ Φ d ρ1) Ψ) : dX w ρ Φ Ψ := h
theorem g_dfl (ds : List Dt) (e : ρ[i]? = some (.lst (ds.map .fz))) (h : Φ (.lst ds) (ρ.set i (.fz (.lst ds)))) : dF (vVar i) ρ Φ Ψ := ⟨_, e, _, _, e, (by show Option.map Dt.lst (toDs _) = _; rw [toDs_fz]; rfl), h⟩
theorem g_dfz (h : ∃ d, ρ[i]? = some (.fz d) ∧ Φ d ρ) : dF (vVar i) ρ Φ Ψ := by obtain ⟨d, e, h⟩ := h; exact ⟨_, e, d, rfl, h⟩
theorem g_op {f : Fd} {wa wb : DW} (h : wa ρ (fun x ρ1 => wb ρ1 (fun y ρ2 => f x y fun z => Φ z ρ2) Ψ) Ψ) : dOp f wa wb ρ Φ Ψ := h
theorem g_un {f : Fu} {wa : DW} (h : wa ρ (fun x ρ1 => f x fun z => Φ z ρ1) Ψ) : dUn f wa ρ Φ Ψ := h
theorem g_cb {f : Fc} {wa : LW} (h : wa ρ (fun xs ρ1 => f xs fun z => Φ z ρ1) Ψ) : dCb f wa ρ Φ Ψ := h
theorem g_lnil (h : Φl [] ρ) : lNil ρ Φl Ψ := h
theorem g_lcons {w : DW} {r : LW} (h : w ρ (fun x ρ1 => r ρ1 (fun xs ρ2 => Φl (x :: xs) ρ2) Ψ) Ψ) : lCons w r ρ Φl Ψ := h
theorem g_anil (h : Φa [] ρ) : aNil ρ Φa Ψ := h
theorem g_acons {w : EW} {r : AW} (h : w ρ (fun x ρ1 => r ρ1 (fun xs ρ2 => Φa (x :: xs) ρ2) Ψ) Ψ) : aCons w r ρ Φa Ψ := h
theorem g_vlst {w : AW} (h : w ρ (fun xs ρ1 => ∃ os, asO xs = some os ∧ os.length ≤ sizeLine ∧ Φv (.ow (.lst os)) ρ1) Ψ) : vLst w ρ Φv Ψ := h
theorem g_vtup {w : AW} (h : w ρ (fun xs ρ1 => ∃ os, asO xs = some os ∧ os.length ≤ sizeLine ∧ Φv (.ow (.tup os)) ρ1) Ψ) : vTup w ρ Φv Ψ := h
theorem g_dlst {w : LW} (h : w ρ (fun ds ρ1 => ds.length ≤ sizeLine ∧ Φ (.lst ds) ρ1) Ψ) : dLst w ρ Φ Ψ := h
theorem g_dtup {w : LW} (h : w ρ (fun ds ρ1 => ds.length ≤ sizeLine ∧ Φ (.tup ds) ρ1) Ψ) : dTup w ρ Φ Ψ := h
theorem g_tbl {w : DW} (h : w ρ (fun d ρ1 => ∃ b, d = .bl b ∧ Φb b ρ1) Ψ) : tBl w ρ Φb Ψ := h
theorem g_tand {w u : TW} (h : w ρ (fun x ρ1 => if x = true then u ρ1 Φb Ψ else Φb false ρ1) Ψ) : tAndW w u ρ Φb Ψ := h
theorem g_tor {w u : TW} (h : w ρ (fun x ρ1 => if x = true then Φb true ρ1 else u ρ1 Φb Ψ) Ψ) : tOrW w u ρ Φb Ψ := h
theorem g_tnot {w : TW} (h : w ρ (fun x ρ1 => Φb (!x) ρ1) Ψ) : tNotW w ρ Φb Ψ := h
theorem g_tyes (h : Φb true ρ) : tYesW ρ Φb Ψ := h
theorem g_dand {w u : DW} (h : w ρ (fun d ρ1 => ∃ x, d = .bl x ∧ if x = true then u ρ1 Φ Ψ else Φ (.bl false) ρ1) Ψ) : dAnd w u ρ Φ Ψ := h
theorem g_dor {w u : DW} (h : w ρ (fun d ρ1 => ∃ x, d = .bl x ∧ if x = true then Φ (.bl true) ρ1 else u ρ1 Φ Ψ) Ψ) : dOr w u ρ Φ Ψ := h
theorem g_dnot {w : DW} (h : w ρ (fun d ρ1 => ∃ x, d = .bl x ∧ Φ (.bl (!x)) ρ1) Ψ) : dNot w ρ Φ Ψ := h
theorem g_xif {α : Type} {w : TW} {wa wb : List Ot → (α → List Ot → Prop) → XW → Prop} {Φ : α → List Ot → Prop} (h : w ρ (fun x ρ1 => if x = true then wa ρ1 Φ Ψ else wb ρ1 Φ Ψ) Ψ) : xIf w wa wb ρ Φ Ψ := h
theorem g_ilst {w : DW} (h : w ρ (fun d ρ1 => ∃ ds, d = .lst ds ∧ Φl ds ρ1) Ψ) : iLst w ρ Φl Ψ := h
theorem g_iscr {w : DW} (h : w ρ (fun d ρ1 => ∃ ns, d = .scr ns ∧ Φl (ns.map Dt.int) ρ1) Ψ) : iScr w ρ Φl Ψ := h
theorem g_itup {w : DW} (h : w ρ (fun d ρ1 => ∃ ds, d = .tup ds ∧ Φl ds ρ1) Ψ) : iTupW w ρ Φl Ψ := h
theorem g_istr {w : DW} (h : w ρ (fun d ρ1 => ∃ z : Str, d = .str z ∧ Φl (z.cps.toList.map fun c => .str (sgn c)) ρ1) Ψ) : iStrW w ρ Φl Ψ := h
theorem g_irg1 {w : LW} (h : w ρ (fun ds ρ1 => ∃ a : Int, ds = [.int a] ∧ a < 2 ^ 62 ∧ -(2 ^ 62) ≤ a ∧ Φl (rngD 0 a.toNat) ρ1) Ψ) : iRg1 w ρ Φl Ψ := h
theorem g_irg2 {w : LW} (h : w ρ (fun ds ρ1 => ∃ a z : Int, ds = [.int a, .int z] ∧ (-(2 ^ 62) ≤ a ∧ a < 2 ^ 62 ∧ -(2 ^ 62) ≤ z ∧ z < 2 ^ 62) ∧ Φl (rngD a (z - a).toNat) ρ1) Ψ) : iRg2 w ρ Φl Ψ := h
theorem g_ienum {w : LW} (h : w ρ (fun ds ρ1 => ∃ es, ds = [.lst es] ∧ Φl (enumD es) ρ1) Ψ) : iEnumW w ρ Φl Ψ := h
theorem g_izip {w : LW} (h : w ρ (fun ds ρ1 => ∃ es gs, ds = [.lst es, .lst gs] ∧ Φl (zipD es gs) ρ1) Ψ) : iZipW w ρ Φl Ψ := h
theorem g_callQ {F : FnW} {wa : AW} (h : wa ρ (fun xs ρ1 => ∃ os, asO xs = some os ∧ F os (fun o _ => Φv (.ow o) ρ1) noX) Ψ) : vCallQ F wa ρ Φv Ψ := h
theorem g_one {o : Ot} {N : Ot → List Ot → Prop} (h : N o ρ) : oneO (.ow o) ρ N := h
theorem g_opO {f : Dt → List Dt → (Dt → Prop) → Prop} {w : DW} (h : w ρ (fun x ρ1 => ∃ ds, lsAt ρ1 i ds ∧ f x ds fun z => Φ z ρ1) Ψ) : dOpO i f w ρ Φ Ψ := h
theorem g_opO' {f : List Dt → Dt → (Dt → Prop) → Prop} {w : DW} (e : slotOk ρ i = true) (h : w ρ (fun x ρ1 => ∃ ds, lsAt ρ1 i ds ∧ f ds x fun z => Φ z ρ1) Ψ) : dOpO' i f w ρ Φ Ψ := ⟨slotOk_ex e, h⟩
theorem g_lenO (h : ∃ os, ρ[i]? = some (.lst os) ∧ Φ (.int (os.length : Int)) ρ) : dLenO i ρ Φ Ψ := .inl h
theorem g_lenF (h : ∃ ds, ρ[i]? = some (.fz (.lst ds)) ∧ Φ (.int (ds.length : Int)) ρ) : dLenO i ρ Φ Ψ := .inr h
theorem g_sl {f : Fs} {w : DW} {w1 w2 : OW} (h : w ρ (fun x ρ1 => w1 ρ1 (fun lo ρ2 => w2 ρ2 (fun hi ρ3 => f x lo hi fun z => Φ z ρ3) Ψ) Ψ) Ψ) : dSl f w w1 w2 ρ Φ Ψ := h
theorem g_ono {Φ : Option Int → List Ot → Prop} (h : Φ none ρ) : oNo ρ Φ Ψ := h
theorem g_oso {Φ : Option Int → List Ot → Prop} {w : DW} (h : w ρ (fun d ρ1 => ∃ i, d = .int i ∧ Φ (some i) ρ1) Ψ) : oSo w ρ Φ Ψ := h
theorem g_join {wa wb : DW} (h : wa ρ (fun x ρ1 => ∃ a : Str, x = .str a ∧ wb ρ1 (fun y ρ2 => ∃ ys : List Str, y = .lst (ys.map .str) ∧ (ys.map (·.length)).sum + ys.length * a.length ≤ 16777216 ∧ Φ (.str (Txt.join a ys)) ρ2) Ψ) Ψ) : dJoin wa wb ρ Φ Ψ := h
theorem g_II {h : Int → Int → Int} {x y : Int} (q : P (.int (h x y))) : fII h (.int x) (.int y) P := ⟨x, y, rfl, rfl, q⟩
theorem g_IB {h : Int → Int → Bool} {x y : Int} (q : P (.bl (h x y))) : fIB h (.int x) (.int y) P := ⟨x, y, rfl, rfl, q⟩
theorem g_mod {x y : Int} (h : 0 < y) (q : P (.int (x % y))) : fMod (.int x) (.int y) P := ⟨x, y, rfl, rfl, h, q⟩
theorem g_div {x y : Int} (h : 0 < y) (h2 : y < 1073741824) (q : P (.int (x / y))) : fDiv (.int x) (.int y) P := ⟨x, y, rfl, rfl, h, h2, q⟩
theorem g_mul {x y : Int} (h : (-(2 ^ 64) < x ∧ x < 2 ^ 64) ∨ (-(2 ^ 64) < y ∧ y < 2 ^ 64)) (q : P (.int (x * y))) : fMul (.int x) (.int y) P := ⟨x, y, rfl, rfl, h, q⟩
theorem g_pow (n : Int) {x y : Int} (h1 : decide (x ^ y.toNat = n) = true) (h2 : (decide (0 ≤ y) && (decide (y ≤ 1000000) && decide (x.natAbs < 18446744073709551616))) = true) (q : P (.int n)) : fPow (.int x) (.int y) P := ⟨x, y, n, rfl, rfl, h1, h2, q⟩
theorem g_addib {x : Int} {k : Bool} (q : P (.int (x + b2i k))) : fAddIB (.int x) (.bl k) P := ⟨x, k, rfl, rfl, q⟩
theorem g_neg {x : Int} (q : P (.int (-x))) : fNeg (.int x) P := ⟨x, rfl, q⟩
theorem g_eqI {x y : Int} (q : P (.bl (decide (x = y)))) : fEq (.int x) (.int y) P := q
theorem g_eqS {x y : Str} (q : P (.bl (decide (x = y)))) : fEq (.str x) (.str y) P := q
theorem g_eqB {x y : Bool} (q : P (.bl (decide (x = y)))) : fEq (.bl x) (.bl y) P := q
theorem g_neI {x y : Int} (q : P (.bl (!decide (x = y)))) : fNe (.int x) (.int y) P := q
theorem g_neS {x y : Str} (q : P (.bl (!decide (x = y)))) : fNe (.str x) (.str y) P := q
theorem g_addS {x y : Str} (h : x.length + y.length ≤ 1000000) (q : P (.str (x ++ y))) : fAddS (.str x) (.str y) P := ⟨x, y, rfl, rfl, h, q⟩
theorem g_repS {z : Str} {n : Int} (h0 : 0 ≤ n) (h1 : n ≤ 1000) (h2 : z.length ≤ 1000) (q : P (.str (Txt.mul z n))) : fRepS (.str z) (.int n) P := ⟨z, n, rfl, rfl, h0, h1, h2, q⟩
theorem g_isN {x : Dt} (q : P (.bl (isNonD (.dt x)))) : fIsN x .non P := ⟨rfl, q⟩
theorem g_notN {x : Dt} (q : P (.bl (!isNonD (.dt x)))) : fNotN x .non P := ⟨rfl, q⟩
theorem g_ixL {ds : List Dt} {x : Int} {d : Dt} (h : atI ds x = some d) (q : P d) : fIxL (.lst ds) (.int x) P := ⟨ds, x, d, rfl, rfl, h, q⟩
theorem e_ixL {ds : List Dt} {x : Int} (h : ∃ d, atI ds x = some d ∧ P d) : fIxL (.lst ds) (.int x) P := by obtain ⟨d, h, q⟩ := h; exact ⟨ds, x, d, rfl, rfl, h, q⟩
theorem e_ixT {ds : List Dt} {x : Int} (h : ∃ d, atI ds x = some d ∧ P d) : fIxT (.tup ds) (.int x) P := by obtain ⟨d, h, q⟩ := h; exact ⟨ds, x, d, rfl, rfl, h, q⟩
theorem g_ixS {z : Str} {x : Int} {c : Nat} (hz : z.length ≤ 1000000) (h : atI z.cps.toList x = some c) (q : P (.str (sgn c))) : fIxS (.str z) (.int x) P := ⟨z, x, c, rfl, rfl, hz, h, q⟩
theorem g_ixScr {ns : List Int} {x n : Int} (h : atI ns x = some n) (q : P (.int n)) : fIxScr (.scr ns) (.int x) P := ⟨ns, x, n, rfl, rfl, h, q⟩
theorem g_inS {neg : Bool} {z : Str} {zs : List Str} (q : P (.bl (if neg then !decide (z ∈ zs) else decide (z ∈ zs)))) : fInS neg (.str z) (.lst (zs.map .str)) P := ⟨z, zs, rfl, rfl, q⟩
theorem g_inI {neg : Bool} {z : Int} {zs : List Int} (q : P (.bl (if neg then !decide (z ∈ zs) else decide (z ∈ zs)))) : fInI neg (.int z) (.lst (zs.map .int)) P := ⟨z, zs, rfl, rfl, q⟩
theorem g_cat {ds es : List Dt} (h : ds.length + es.length ≤ 1000000) (q : P (.lst (ds ++ es))) : fCat (.lst ds) (.lst es) P := ⟨ds, es, rfl, rfl, h, q⟩
theorem g_len {es : List Dt} (q : P (.int (es.length : Int))) : gLen [.lst es] P := ⟨es, .inl rfl, q⟩
theorem g_lenT {es : List Dt} (q : P (.int (es.length : Int))) : gLen [.tup es] P := ⟨es, .inr rfl, q⟩
theorem g_lenScr {ns : List Int} (q : P (.int (ns.length : Int))) : gLenScr [.scr ns] P := ⟨ns, rfl, q⟩
theorem g_lenS {z : Str} (h : z.length ≤ 1000000) (q : P (.int (z.length : Int))) : gLenS [.str z] P := ⟨z, rfl, h, q⟩
theorem g_int {x : Int} (q : P (.int x)) : gInt [.int x] P := q
theorem g_intB {x : Bool} (q : P (.int (if x then 1 else 0))) : gInt [.bl x] P := q
theorem g_abs {x : Int} (q : P (.int (if x < 0 then -x else x))) : gAbs [.int x] P := ⟨x, rfl, q⟩
theorem g_ii {f : Int → Int → Int} {x y : Int} (q : P (.int (f x y))) : gII f [.int x, .int y] P := ⟨x, y, rfl, q⟩
theorem g_list {es : List Dt} (q : P (.lst es)) : gList [.lst es] P := ⟨es, .inl rfl, q⟩
theorem g_listT {es : List Dt} (q : P (.lst es)) : gList [.tup es] P := ⟨es, .inr rfl, q⟩
theorem g_tuple {es : List Dt} (q : P (.tup es)) : gTuple [.lst es] P := ⟨es, rfl, q⟩
theorem g_slL {ds : List Dt} {lo hi : Option Int} (q : P (.lst (cutG ds lo hi))) : sLst (.lst ds) lo hi P := ⟨ds, rfl, q⟩
theorem g_slScr {ds : List Int} {lo hi : Option Int} (q : P (.lst ((cutG ds lo hi).map .int))) : sScr (.scr ds) lo hi P := ⟨ds, rfl, q⟩
theorem g_slS {z : Str} {lo hi : Option Int} (h : z.length ≤ 1000000) (q : P (.str (cutS z lo hi))) : sStr (.str z) lo hi P := ⟨z, rfl, h, q⟩
theorem g_oinS {neg : Bool} {z : Str} {zs : List Str} (q : P (.bl (if neg then !decide (z ∈ zs) else decide (z ∈ zs)))) : oInS neg (.str z) (zs.map .str) P := ⟨z, zs, rfl, rfl, q⟩
end
theorem ite_d {p : Prop} [Decidable p] {A B : Prop} (h1 : p → A) (h2 : ¬ p → B) : if decide p = true then A else B := by
  by_cases c : p
  · rw [if_pos (decide_eq_true c)]; exact h1 c
  · rw [if_neg (by rw [decide_eq_false c]; exact Bool.false_ne_true)]; exact h2 c
theorem ite_n {p : Prop} [Decidable p] {A B : Prop} (h1 : ¬ p → A) (h2 : p → B) : if (!decide p) = true then A else B := by
  by_cases c : p
  · rw [if_neg (by rw [decide_eq_true c]; exact Bool.false_ne_true)]; exact h2 c
  · rw [if_pos (by rw [decide_eq_false c]; rfl)]; exact h1 c
theorem ite_b {x : Bool} {A B : Prop} (h1 : x = true → A) (h2 : x = false → B) : if x = true then A else B := by
  cases x with
  | true => exact h1 rfl
  | false => exact h2 rfl
theorem ite_t {A B : Prop} (h : A) : if true = true then A else B := h
theorem ite_f {A B : Prop} (h : B) : if false = true then A else B := h
end Vc
namespace Vc
open PySem PySem.Spec PyProof.Rows L2 Sx
section
variable {S : SrcRep} {K : PySem.W.Frag} {W : WX} {pn : Nat → Bool} {s s' : Option Addr} {ρ ρ' : List Ot} {σ σ' : L2.St} {B B' H H' : Hp} {Fr fp fp' g G1 G2 : Fp} {n n' N N' : Nat} {b b1 b2 b3 : Bool} {c c1 c2 c3 : Nat} {te ta tb : TE} {tt : TT} {wi : TI} {aa ak : TA}
theorem wipeO_no : ∀ (vs : List Nat) (ρ : List Ot) (i : Nat), i ∈ vs → (wipeO ρ vs)[i]? = some .no ∨ (wipeO ρ vs)[i]? = none
  | [], _, _, h => by cases h
  | v :: vs, ρ, i, h => by
    unfold wipeO
    by_cases e : v = i
    · subst e
      by_cases hl : v < (wipeO ρ vs).length
      · exact .inl (List.getElem?_set_self hl)
      · exact .inr (by rw [List.getElem?_eq_none_iff, List.length_set]; exact Nat.le_of_not_lt hl)
    · rw [List.getElem?_set_ne e]
      rcases List.mem_cons.mp h with z | z
      · exact absurd z.symm e
      · exact wipeO_no vs ρ i z
def lcG (vs : List Nat) (tg : Tg) (wt : TW) (we : EW) : List Dt → List Ot → List Ot → (List Ot → List Ot → Prop) → Prop
  | [], acc, ρ, Φ => Φ acc ρ
  | d :: ds, acc, ρ, Φ => tg.put (fun _ => false) d (wipeO ρ vs) fun ρ2 => wt ρ2 (fun x ρ3 => if x = true then we ρ3 (fun y ρ4 => ∃ o, y = .ow o ∧ lcG vs tg wt we ds (acc ++ [o]) (wipeO ρ4 vs) Φ) noX else lcG vs tg wt we ds acc (wipeO ρ3 vs) Φ) noX
def vLcG (vs : List Nat) (ce : Nat) (tg : Tg) (wi : LW) (wt : TW) (we : EW) : EW := fun ρ Φ Ψ => wi ρ (fun ds ρ1 => ds.length ≤ LCN ∧ (ce = 0 ∨ ds.length ≤ FORN) ∧ tg.inn vs = true ∧ lcG vs tg wt we ds [] ρ1 fun os ρ2 => Φ (.ow (.lst os)) ρ2) Ψ
end
section
variable {S : SrcRep} {K : PySem.W.Frag} {W : WX} {b b1 b2 : Bool} {c c1 c2 c3 : Nat} {aa ak : TA}
def vKK (n m : Nat) (F : FnW) (wa wk : LW) : EW := fun ρ Φ Ψ => wa ρ (fun ds ρ1 => wk ρ1 (fun es ρ2 => ds.length = n ∧ es.length = m ∧ F ((ds ++ es).map .fz) (fun o _ => Φ (.ow o) ρ2) noX) Ψ) Ψ
end
inductive FzL : List Ot → List Dt → Prop
  | nil : FzL [] []
  | cons {d : Dt} {os : List Ot} {ds : List Dt} : FzL os ds → FzL (.fz d :: os) (d :: ds)
  | map (ds : List Dt) : FzL (ds.map .fz) ds
  | app {os us : List Ot} {ds es : List Dt} : FzL os ds → FzL us es → FzL (os ++ us) (ds ++ es)
theorem FzL.eq : ∀ {os : List Ot} {ds : List Dt}, FzL os ds → os = ds.map .fz
  | _, _, .nil => rfl
  | _, _, .cons h => congrArg (_ :: ·) h.eq
  | _, _, .map _ => rfl
  | _, _, .app h1 h2 => by rw [h1.eq, h2.eq, List.map_append]
section
variable {ρ : List Ot} {nx bk ct : List Ot → Prop} {rt : Ot → List Ot → Prop} {xc Ψ : XW} {i : Nat} {Φ : Dt → List Ot → Prop} {Φv : Vl → List Ot → Prop}
theorem e_lsO2 {P : List Dt → Prop} {os : List Ot} {ds : List Dt} (e : ρ[i]? = some (.lst os)) (f : FzL os ds) (q : P ds) : ∃ ds, lsAt ρ i ds ∧ P ds := ⟨ds, .inl (f.eq ▸ e), q⟩
theorem e_dfl2 {os : List Ot} {ds : List Dt} (e : ρ[i]? = some (.lst os)) (f : FzL os ds) (q : Φ (.lst ds) (ρ.set i (.fz (.lst ds)))) : dF (vVar i) ρ Φ Ψ := g_dfl ds (f.eq ▸ e) q
theorem e_lsF {P : List Dt → Prop} (h : ∃ ds, ρ[i]? = some (.fz (.lst ds)) ∧ P ds) : ∃ ds, lsAt ρ i ds ∧ P ds := by
  obtain ⟨ds, e, q⟩ := h
  exact ⟨ds, .inr e, q⟩
theorem e_oix {ds : List Dt} {x : Int} {P : Dt → Prop} (h : ∃ d, atI ds x = some d ∧ P d) : oIx ds (.int x) P := by obtain ⟨d, h, q⟩ := h; exact ⟨x, d, rfl, h, q⟩
theorem e_arg {xs : List Vl} {os : List Ot} {M : List Ot → Prop} (e : argO ρ xs = some os) (h : M os) : ∃ os, argO ρ xs = some os ∧ M os := ⟨os, e, h⟩
theorem e_asO {xs : List Vl} {os : List Ot} {M : List Ot → Prop} (e : asO xs = some os) (h : M os) : ∃ os, asO xs = some os ∧ M os := ⟨os, e, h⟩
theorem e_isL {P : Prop} (e : isL i ρ) (h : P) : isL i ρ ∧ P := ⟨e, h⟩
theorem e_setAt {v : Int} {M : List Ot → Nat → Prop} (h : ∃ os, ρ[i]? = some (.lst os) ∧ ∃ j, ixN os.length v = some j ∧ ∃ o', os[j]? = some o' ∧ M os j) : ∃ x os j o', Dt.int v = .int x ∧ ρ[i]? = some (.lst os) ∧ ixN os.length x = some j ∧ os[j]? = some o' ∧ M os j := by
  obtain ⟨os, e, j, h1, o', h2, q⟩ := h
  exact ⟨v, os, j, o', rfl, e, h1, h2, q⟩
theorem g_dff {w : EW} (h : w ρ (fun x ρ1 => match x with | .ow o => ∃ d, toD o = some d ∧ Φ d ρ1 | .rf i => ∃ o d, ρ1[i]? = some o ∧ toD o = some d ∧ Φ d (ρ1.set i (.fz d))) Ψ) : dF w ρ Φ Ψ := h
theorem g_kk {n m : Nat} {F : FnW} {wa wk : LW} (h : wa ρ (fun ds ρ1 => wk ρ1 (fun es ρ2 => ds.length = n ∧ es.length = m ∧ F ((ds ++ es).map .fz) (fun o _ => Φv (.ow o) ρ2) noX) Ψ) Ψ) : vKK n m F wa wk ρ Φv Ψ := h
theorem g_lcG {vs : List Nat} {ce : Nat} {tg : Tg} {wi : LW} {wt : TW} {we : EW} (h : wi ρ (fun ds ρ1 => ds.length ≤ LCN ∧ (ce = 0 ∨ ds.length ≤ FORN) ∧ tg.inn vs = true ∧ lcG vs tg wt we ds [] ρ1 fun os ρ2 => Φv (.ow (.lst os)) ρ2) Ψ) : vLcG vs ce tg wi wt we ρ Φv Ψ := h
end
end Vc
namespace Vc
open PySem PySem.Spec PyProof.Rows L2 Sx
inductive SetE : List Ot → Nat → Ot → List Ot → Prop
  | z {a o : Ot} {l : List Ot} : SetE (a :: l) 0 o (o :: l)
  | s {a o : Ot} {i : Nat} {l l' : List Ot} : SetE l i o l' → SetE (a :: l) (i + 1) o (a :: l')
theorem SetE.eq : ∀ {l l' : List Ot} {i : Nat} {o : Ot}, SetE l i o l' → i < l.length ∧ l.set i o = l'
  | _, _, _, _, .z => ⟨Nat.zero_lt_succ _, rfl⟩
  | _, _, _, _, .s h => ⟨Nat.succ_lt_succ h.eq.1, congrArg (_ :: ·) h.eq.2⟩
inductive WipeE (ρ : List Ot) : List Nat → List Ot → Prop
  | nil : WipeE ρ [] ρ
  | cons {v : Nat} {vs : List Nat} {ρ1 ρ2 : List Ot} : WipeE ρ vs ρ1 → SetE ρ1 v .no ρ2 → WipeE ρ (v :: vs) ρ2
theorem WipeE.eq {ρ : List Ot} : ∀ {vs : List Nat} {ρ' : List Ot}, WipeE ρ vs ρ' → wipeO ρ vs = ρ'
  | _, _, .nil => rfl
  | _, _, .cons h e => by
    show (wipeO ρ _).set _ .no = _
    rw [h.eq]; exact e.eq.2
inductive UpsE : List Ot → List (Nat × Ot) → List Ot → Prop
  | nil {ρ : List Ot} : UpsE ρ [] ρ
  | cons {ρ ρ1 ρ2 : List Ot} {j : Nat} {o : Ot} {u : List (Nat × Ot)} : SetE ρ j o ρ1 → UpsE ρ1 u ρ2 → UpsE ρ ((j, o) :: u) ρ2
theorem UpsE.eq : ∀ {ρ ρ' : List Ot} {u : List (Nat × Ot)}, UpsE ρ u ρ' → ups ρ u = ρ'
  | _, _, _, .nil => rfl
  | _, _, _, .cons h e => by
    show ups (List.set _ _ _) _ = _
    rw [h.eq.2]; exact e.eq
inductive BackE : List Ot → List Vl → List Ot → List Ot → Prop
  | nil {ρ os : List Ot} : BackE ρ [] os ρ
  | ow {ρ os ρ' : List Ot} {o o' : Ot} {xs : List Vl} : BackE ρ xs os ρ' → BackE ρ (.ow o :: xs) (o' :: os) ρ'
  | rf {ρ os ρ1 ρ2 ρ3 : List Ot} {o : Ot} {i : Nat} {xs : List Vl} : SetE ρ i .no ρ1 → BackE ρ1 xs os ρ2 → SetE ρ2 i o ρ3 → BackE ρ (.rf i :: xs) (o :: os) ρ3
theorem BackE.eq : ∀ {ρ ρ' os : List Ot} {xs : List Vl}, BackE ρ xs os ρ' → backO ρ xs os = ρ'
  | _, _, _, _, .nil => by unfold backO; rfl
  | _, _, _, _, .ow h => by unfold backO; exact h.eq
  | _, _, _, _, .rf h1 h2 h3 => by
    unfold backO
    rw [h1.eq.2, h2.eq]; exact h3.eq.2
inductive Eqx (md : List Nat) : Nat → List Ot → List Ot → Prop
  | nil {k : Nat} : Eqx md k [] []
  | diff {k : Nat} {a b : Ot} {l l' : List Ot} : md.contains k = true → Eqx md (k + 1) l l' → Eqx md k (a :: l) (b :: l')
  | same {k : Nat} {a : Ot} {l l' : List Ot} : Eqx md (k + 1) l l' → Eqx md k (a :: l) (a :: l')
def Has (ρ : List Ot) : List (Nat × Ot) → Prop
  | [] => True
  | p :: u => ρ[p.1]? = some p.2 ∧ Has ρ u
section
variable {md : List Nat} {ρ ρ' : List Ot}
theorem ups_len : ∀ (u : List (Nat × Ot)) (ρ : List Ot), (ups ρ u).length = ρ.length
  | [], _ => rfl
  | p :: u, ρ => by
    show (ups (ρ.set p.1 p.2) u).length = _
    rw [ups_len u, List.length_set]
theorem wipeO_len : ∀ (vs : List Nat) (ρ : List Ot), (wipeO ρ vs).length = ρ.length
  | [], _ => rfl
  | v :: vs, ρ => by
    show ((wipeO ρ vs).set v .no).length = _
    rw [List.length_set, wipeO_len vs]
theorem ups_get : ∀ (u : List (Nat × Ot)) (ρ : List Ot) (j : Nat) (b : Ot), (ups ρ u)[j]? = some b → (∃ p, p ∈ u ∧ p.1 = j ∧ p.2 = b) ∨ ρ[j]? = some b
  | [], _, _, _, h => .inr h
  | p :: u, ρ, j, b, h => by
    have h : (ups (ρ.set p.1 p.2) u)[j]? = some b := h
    rcases ups_get u _ j b h with ⟨q, h1, h2, h3⟩ | h
    · exact .inl ⟨q, List.mem_cons_of_mem _ h1, h2, h3⟩
    · by_cases e : p.1 = j
      · subst e
        by_cases hl : p.1 < ρ.length
        · rw [List.getElem?_set_self hl] at h
          exact .inl ⟨p, List.mem_cons_self, rfl, Option.some.inj h⟩
        · rw [List.getElem?_eq_none_iff.mpr (by rw [List.length_set]; exact Nat.le_of_not_lt hl)] at h
          cases h
      · rw [List.getElem?_set_ne e] at h
        exact .inr h
theorem ups_ne : ∀ (u : List (Nat × Ot)) (ρ : List Ot) (j : Nat), (∀ p, p ∈ u → p.1 ≠ j) → (ups ρ u)[j]? = ρ[j]?
  | [], _, _, _ => rfl
  | p :: u, ρ, j, h => by
    show (ups (ρ.set p.1 p.2) u)[j]? = _
    rw [ups_ne u _ j fun q hq => h q (List.mem_cons_of_mem _ hq), List.getElem?_set_ne (h p List.mem_cons_self)]
theorem wipeO_ne : ∀ (vs : List Nat) (ρ : List Ot) (j : Nat), (∀ v, v ∈ vs → v ≠ j) → (wipeO ρ vs)[j]? = ρ[j]?
  | [], _, _, _ => rfl
  | v :: vs, ρ, j, h => by
    show ((wipeO ρ vs).set v .no)[j]? = _
    rw [List.getElem?_set_ne (h v List.mem_cons_self), wipeO_ne vs ρ j fun q hq => h q (List.mem_cons_of_mem _ hq)]
theorem con_mem {i : Nat} : md.contains i = true ↔ i ∈ md := List.contains_iff_mem
theorem has_mem : ∀ {u : List (Nat × Ot)} {p : Nat × Ot}, Has ρ u → p ∈ u → ρ[p.1]? = some p.2
  | _ :: _, _, h, m => by
    rcases List.mem_cons.mp m with e | m
    · subst e; exact h.1
    · exact has_mem h.2 m
theorem fg_of : ∀ {ρ τ : List Ot}, ρ.length = τ.length → (∀ (j : Nat) (a b : Ot), ρ[j]? = some a → τ[j]? = some b → b = .no ∨ a = b) → Fg ρ τ
  | [], [], _, _ => trivial
  | a :: ρ, b :: τ, h, q => ⟨q 0 a b rfl rfl, fg_of (by simpa using h) fun j x y h1 h2 => q (j + 1) x y (by simpa using h1) (by simpa using h2)⟩
theorem Eqx.sound : ∀ {k : Nat} {l l' : List Ot}, Eqx md k l l' → l'.length = l.length ∧ ∀ j, (j + k) ∉ md → l'[j]? = l[j]?
  | _, _, _, .nil => ⟨rfl, fun _ _ => rfl⟩
  | k, _, _, .diff e h => by
    obtain ⟨h1, h2⟩ := h.sound
    refine ⟨congrArg (· + 1) h1, fun j hj => ?_⟩
    cases j with
    | zero => exact absurd (con_mem.mp e) (by simpa using hj)
    | succ j => exact (by simpa using h2 j (by rw [show j + (k + 1) = j + 1 + k by omega]; exact hj))
  | k, _, _, .same h => by
    obtain ⟨h1, h2⟩ := h.sound
    refine ⟨congrArg (· + 1) h1, fun j hj => ?_⟩
    cases j with
    | zero => rfl
    | succ j => exact (by simpa using h2 j (by rw [show j + (k + 1) = j + 1 + k by omega]; exact hj))
theorem fg_ups {u : List (Nat × Ot)} (hl : ρ'.length = ρ.length) (hs : ∀ j, j ∉ md → ρ'[j]? = ρ[j]?) (hu : Has ρ' u) : Fg ρ' (Vc.ups (wipeO ρ md) u) := by
  refine fg_of (by rw [ups_len, wipeO_len, hl]) fun j a b h1 h2 => ?_
  rcases ups_get u _ j b h2 with ⟨p, m, e1, e2⟩ | h2
  · subst e1 e2
    have := has_mem hu m
    rw [this] at h1
    exact .inr (Option.some.inj h1).symm
  · by_cases m : j ∈ md
    · rcases wipeO_no md ρ j m with z | z
      · rw [z] at h2; exact .inl (Option.some.inj h2).symm
      · rw [z] at h2; cases h2
    · rcases wipeO_get md ρ j b h2 with z | z
      · exact .inl z
      · rw [hs j m, z] at h1
        exact .inr (Option.some.inj h1).symm
end
def stE (i : Nat) (o : Ot) (ρ : List Ot) (N : List Ot → Prop) : Prop := i < ρ.length ∧ N (ρ.set i o)
def stN (i : Nat) (o : Ot) (ρ : List Ot) (N : List Ot → Prop) : Prop := N (ρ.set i o)
def wpE (vs : List Nat) (ρ : List Ot) (N : List Ot → Prop) : Prop := N (wipeO ρ vs)
def bkE (ρ : List Ot) (xs : List Vl) (os : List Ot) (N : List Ot → Prop) : Prop := N (backO ρ xs os)
def upE (md : List Nat) (u : List (Nat × Ot)) (ρ : List Ot) (N : List Ot → Prop) : Prop := N (ups (wipeO ρ md) u)
section
variable {i : Nat} {o : Ot} {ρ ρ1 ρ' : List Ot} {N : List Ot → Prop} {vs vs' md : List Nat} {xs : List Vl} {os : List Ot} {u : List (Nat × Ot)}
theorem h_ste (e : SetE ρ i o ρ') (h : N ρ') : stE i o ρ N := ⟨e.eq.1, by rw [e.eq.2]; exact h⟩
theorem h_stn (e : SetE ρ i o ρ') (h : N ρ') : stN i o ρ N := by unfold stN; rw [e.eq.2]; exact h
theorem h_wpe (e : WipeE ρ vs ρ') (h : N ρ') : wpE vs ρ N := by unfold wpE; rw [e.eq]; exact h
theorem h_bke (e : BackE ρ xs os ρ') (h : N ρ') : bkE ρ xs os N := by unfold bkE; rw [e.eq]; exact h
theorem h_upe (e1 : WipeE ρ md ρ1) (e2 : UpsE ρ1 u ρ') (h : N ρ') : upE md u ρ N := by unfold upE; rw [e1.eq, e2.eq]; exact h
end
section
variable {pn : Nat → Bool} {tg : Tg} {w : SW} {E : EdV} {ds : List Dt} {ρ : List Ot}
theorem for_e (md : List Nat) (I : Nat → List (Nat × Ot) → Prop) (h0 : ∃ u, Has ρ u ∧ I 0 u)
    (hu : ∀ i u, I i u → (u.all fun p => md.contains p.1) = true)
    (hs : ∀ i d u, ds[i]? = some d → I i u → upE md u ρ fun ρ1 => ∀ N : List Ot → Prop, (∀ u' ρ', Eqx md 0 ρ1 ρ' → Has ρ' u' → I (i + 1) u' → N ρ') → tg.put pn d ρ1 fun ρ2 => w ρ2 { nx := N, ct := N, bk := E.nx, rt := E.rt, xc := E.xc })
    (hd : ∀ u, I ds.length u → upE md u ρ E.nx) : Fgt (forP pn tg w E ds) ρ := by
  obtain ⟨u0, hh, i0⟩ := h0
  refine for_inv md I ⟨u0, i0, fg_ups rfl (fun _ _ => rfl) hh⟩ (fun i d u N hd hI hN => hs i d u hd hI N fun u' ρ' c h hI' => hN u' ρ' hI' ?_) hd
  obtain ⟨c1, c2⟩ := c.sound
  refine fg_ups (by rw [c1, ups_len, wipeO_len]) (fun j hj => ?_) h
  rw [c2 j hj, ups_ne u _ j fun p hp (z : p.1 = j) => hj (by rw [← z]; exact con_mem.mp (List.all_eq_true.mp (hu i u hI) p hp)), wipeO_ne md ρ j fun v hv (z : v = j) => hj (z ▸ hv)]
end
section
variable {α : Type} {ρ : List Ot} {nx bk ct : List Ot → Prop} {rt : Ot → List Ot → Prop} {xc Ψ : XW} {i : Nat} {pn : Nat → Bool} {Φ : Dt → List Ot → Prop} {Φv : Vl → List Ot → Prop}
/-- behind an if: what the two ways have in common -/
theorem seqM_e {a b : SW} (md : List Nat) (I : List (Nat × Ot) → Prop) (h : ∀ N : List Ot → Prop, (∀ u' ρ', Eqx md 0 ρ ρ' → Has ρ' u' → I u' → N ρ') → a ρ ⟨N, rt, xc, bk, ct⟩) (h2 : ∀ u, I u → upE md u ρ fun ρ1 => b ρ1 ⟨nx, rt, xc, bk, ct⟩) : sSeqM a b ρ ⟨nx, rt, xc, bk, ct⟩ :=
  ⟨fun ρ2 => ∃ u, I u ∧ ρ2 = ups (wipeO ρ md) u, h _ fun u' ρ' c hh hI => ⟨_, fg_ups c.sound.1 (fun j hj => c.sound.2 j hj) hh, u', hI, rfl⟩, fun ρ2 ⟨u, hI, e⟩ => by subst e; exact h2 u hI⟩
theorem h_asgD {w : DW} (hp : pn i = false) (h : w ρ (fun d ρ1 => stE i (.fz d) ρ1 nx) xc) : sAsgD pn i w ρ ⟨nx, rt, xc, bk, ct⟩ := g_asgD hp h
theorem h_sto {o : Ot} (h1 : pn i = false) (h : stE i o ρ nx) : stO pn i (.ow o) ρ nx := ⟨h1, h.1, h.2⟩
theorem h_aug {f : Int → Int → Int} {w : DW} (hp : pn i = false) (h : ∃ a, ρ[i]? = some (.fz (.int a)) ∧ w ρ (fun d ρ1 => ∃ x, d = .int x ∧ stE i (.fz (.int (f a x))) ρ1 nx) xc) : sAug pn i f w ρ ⟨nx, rt, xc, bk, ct⟩ := g_aug hp h
theorem h_setL {u : EW} {w : DW} (h : u ρ (fun y ρ0 => oneO y ρ0 fun o ρ1 => isL i ρ1 ∧ w ρ1 (fun d ρ2 => ∃ x os j o', d = .int x ∧ ρ2[i]? = some (.lst os) ∧ ixN os.length x = some j ∧ os[j]? = some o' ∧ stN i (.lst (os.set j o)) ρ2 nx) xc) xc) : sSetL i u w ρ ⟨nx, rt, xc, bk, ct⟩ := h
theorem h_src {ok : Ot → Prop} {w : SW} (h : w ρ ⟨fun ρ' => ∃ o, ρ'[i]? = some o ∧ o.free = false ∧ ok o ∧ nosA (ρ'.set i .no) = true ∧ stN i .src ρ' nx, rt, xc, bk, ct⟩) : sSrc i ok w ρ ⟨nx, rt, xc, bk, ct⟩ := h
theorem h_nm {d : Dt} {N : List Ot → Prop} (h1 : pn i = false) (h : stE i (.fz d) ρ N) : Tg.put pn (.nm i) d ρ N := g_nm h1 h.1 h.2
theorem h_app {w : EW} (h0 : isL i ρ) (h : w ρ (fun x ρ1 => oneO x ρ1 fun o ρ2 => ∃ os, ρ2[i]? = some (.lst os) ∧ os.length < 1000000 ∧ stN i (.lst (os ++ [o])) ρ2 (fun ρ' => Φv (.ow (.fz .non)) ρ')) Ψ) : vAppend i w ρ Φv Ψ := ⟨h0, h⟩
theorem h_pop (h : ∃ os, ρ[i]? = some (.lst os) ∧ ∃ o, os[os.length - 1]? = some o ∧ stN i (.lst os.dropLast) ρ (fun ρ' => Φv (.ow o) ρ')) : vPop i ρ Φv Ψ := by
  obtain ⟨os, e, o, e2, q⟩ := h
  exact ⟨os, o, e, e2, q⟩
theorem h_popAt {w : DW} (h0 : isL i ρ) (h : w ρ (fun d ρ1 => ∃ x os j o, d = .int x ∧ ρ1[i]? = some (.lst os) ∧ (-(2 ^ 63) ≤ x ∧ x < 2 ^ 63) ∧ ixN os.length x = some j ∧ os[j]? = some o ∧ stN i (.lst (os.eraseIdx j)) ρ1 (fun ρ' => Φv (.ow o) ρ')) Ψ) : vPopAt i w ρ Φv Ψ := ⟨h0, h⟩
theorem h_ins {w : DW} {u : EW} (h0 : isL i ρ) (h : w ρ (fun d ρ0 => u ρ0 (fun y ρ1 => oneO y ρ1 fun o ρ2 => ∃ x os, d = .int x ∧ ρ2[i]? = some (.lst os) ∧ (0 ≤ x ∧ x < 2 ^ 63) ∧ os.length < 1000000 ∧ stN i (.lst (os.take x.toNat ++ [o] ++ os.drop x.toNat)) ρ2 (fun ρ' => Φv (.ow (.fz .non)) ρ')) Ψ) Ψ) : vInsert i w u ρ Φv Ψ := ⟨h0, h⟩
theorem h_ext {w : DW} (h0 : isL i ρ) (h : w ρ (fun d ρ1 => ∃ es os, d = .lst es ∧ ρ1[i]? = some (.lst os) ∧ os.length + es.length ≤ 1000000 ∧ stN i (.lst (os ++ es.map .fz)) ρ1 (fun ρ' => Φv (.ow (.fz .non)) ρ')) Ψ) : vExtend i w ρ Φv Ψ := ⟨h0, h⟩
theorem h_dfl {os : List Ot} {ds : List Dt} (e : ρ[i]? = some (.lst os)) (f : FzL os ds) (q : stN i (.fz (.lst ds)) ρ (fun ρ' => Φ (.lst ds) ρ')) : dF (vVar i) ρ Φ Ψ := e_dfl2 e f q
theorem h_call0 {F : FnW} {wa : AW} (h : wa ρ (fun xs ρ1 => ∃ os, argO ρ1 xs = some os ∧ F os (fun o os' => bkE ρ1 xs os' (fun ρ' => Φv (.ow o) ρ')) noX) Ψ) : vCall0 F wa ρ Φv Ψ := h
theorem h_lc {vs : List Nat} {ce : Nat} {tg : Tg} {wi : LW} {wt : TW} {we : DW} (h : wi ρ (fun ds ρ1 => ds.length ≤ LCN ∧ (ce = 0 ∨ ds.length ≤ FORN) ∧ (tg.inn vs && frees ρ1 vs && tg.fre (wipeO ρ1 vs)) = true ∧ wpE vs ρ1 fun ρb => lcD tg wt we ρb ds [] fun os => Φ (.lst os) ρ1) Ψ) : dLc vs ce tg wi wt we ρ Φ Ψ := h
theorem e_ins {v : Int} {M : Int → List Ot → Prop} (h : ∃ os, ρ[i]? = some (.lst os) ∧ M v os) : ∃ x os, Dt.int v = .int x ∧ ρ[i]? = some (.lst os) ∧ M x os := by
  obtain ⟨os, e, q⟩ := h
  exact ⟨v, os, rfl, e, q⟩
theorem e_ext {es : List Dt} {M : List Dt → List Ot → Prop} (h : ∃ os, ρ[i]? = some (.lst os) ∧ M es os) : ∃ es' os, Dt.lst es = .lst es' ∧ ρ[i]? = some (.lst os) ∧ M es' os := by
  obtain ⟨os, e, q⟩ := h
  exact ⟨es, os, rfl, e, q⟩
theorem e_popAt {v : Int} {M : List Ot → Nat → Ot → Prop} (h : ∃ os, ρ[i]? = some (.lst os) ∧ (-(2 ^ 63) ≤ v ∧ v < 2 ^ 63) ∧ ∃ j, ixN os.length v = some j ∧ ∃ o, os[j]? = some o ∧ M os j o) : ∃ x os j o, Dt.int v = .int x ∧ ρ[i]? = some (.lst os) ∧ (-(2 ^ 63) ≤ x ∧ x < 2 ^ 63) ∧ ixN os.length x = some j ∧ os[j]? = some o ∧ M os j o := by
  obtain ⟨os, e, b, j, h1, o, h2, q⟩ := h
  exact ⟨v, os, j, o, rfl, e, b, h1, h2, q⟩
variable {vs : List Nat} {tg : Tg} {wt : TW} {we : EW} {ds : List Dt}
end
end Vc
namespace Vc
open PySem PySem.Spec PyProof.Rows L2 Sx
section
variable {S : SrcRep} {P : Program} {w : World} {K : PySem.W.Frag} {mg : Str → Option Value} {base : Heap} {k : Nat} {x : Str} {ps N : List Str} {st : Stmt}
def Bits (ns : List Int) : Prop := ∀ n ∈ ns, ∃ a, a ≤ 1048576 ∧ n.natAbs < 2 ^ a
theorem kl_of (D : Df K mg x st) (Sc : FnScope N ps (defScope st))
    (hb : ∀ (kV doc pm : Value) (an : Option Addr) (cdv ct : Value) (us : List Value), us.length = ps.length → bindArgs (PySem.W.fnOf x x (defArgs st) (defBody st) (defScope st) .none kV doc pm an cdv ct) ⟨us, []⟩ = pure (ps.zip us))
    (h1 : ps.length = 1) (hS : S = S)
    (body : ∀ (f : Addr) (cdv : Value) (A : Around) (outer : List Env) (s : Shared) (H : Hp) (E : XK), Room k (A.deeper (envOfC x (defScope st) s.heap.objs.size f cdv)) →
      ∃ (g : Bool) (c : Nat) (t : TS) (w' : SW), PSs (cxOf CX0 P w K mg base N x (defScope st) f cdv A outer s H E).nox (defBody st) t ∧ VS S K (fun _ _ _ _ => False) (fun _ => false) g c t w' ∧ c ≤ BUD ∧ ∀ ns : List Int, ns.length ≤ 63 → Bits ns →
        w' (stO0 N [.fz (.scr ns)]) { nx := fun _ => False, rt := fun o _ => o = .fz (.bl true), xc := noX }) : Kp P w K mg base (k + 1) x ps F_lawB := by
  obtain ⟨f, fd, FD, hm⟩ := D
  refine ⟨f, fd, hm, FunD.ki FD, FD.bindsN hb, FD.ok Sc (fun vs H Q E h => ?_) fun cdv A outer s H vs Q E hr hsp => ?_⟩
  · obtain ⟨B, Fr, ss, L, Φ, r, hc, ⟨ns, rfl, _⟩, _⟩ := h
    rw [h1]
    exact r.length.symm
  · obtain ⟨g, c, t, w', h, hv, hcb, q⟩ := body f cdv A outer s H E hr
    refine ⟨t, h.nox, ?_⟩
    obtain ⟨B, Fr, ss, L, Φ, r, ⟨ho, hp, hd⟩, ⟨ns, rfl, rfl, hl, hbits, qq⟩, kk⟩ := hsp
    cases hp
    obtain ⟨v, rfl, r0⟩ : ∃ v, vs = [v] ∧ SlR K B (.dt (.scr ns)) v := by
      cases r with
      | cons r0 rt => cases rt; exact ⟨_, rfl, r0⟩
    have en : En K B none (stO0 N [.fz (.scr ns)]) (L2.start N [v]) [] := by
      have := en_args (K := K) (B := B) (s := none) (os := [.fz (.scr ns)]) (vs := [v]) (f := [] ++ []) (N.length - 1) (.cons (.fz r0) .nil)
      exact this
    refine hv (s := none) (Fr := Fr) (n := 0) (q ns hl hbits) ⟨en, [], rfl, hd⟩ (by omega) ⟨fun _ _ _ _ _ _ _ z => z.elim, fun s' ρ' σ' B' H' fp' n' o v k e ow a => ?_, fun _ _ _ _ _ _ _ z => z.elim, fun _ _ _ _ _ _ _ z => z.elim, fun _ _ _ _ _ _ _ _ _ _ _ _ z => z.elim⟩
    subst e
    cases ow with
    | fz rb =>
      obtain ⟨_, sf, _, hd'⟩ := a.st
      refine kk (.dt (.bl true)) [] v B' H' (qq []) a.le ⟨[], .nil, ?_⟩ rb
      refine Hd.sub hd' ?_
      show Fr.Sublist _
      exact (List.sublist_append_right _ _).trans (List.sublist_append_right _ _)
end
section
variable {ρ : List Ot} {nx bk ct : List Ot → Prop} {rt : Ot → List Ot → Prop} {xc : XW} {pn : Nat → Bool} {i : Nat} {o : Ot}
def rtE (pn : Nat → Bool) : Vl → List Ot → (Ot → List Ot → Prop) → Prop
  | .ow o, ρ, N => N o ρ
  | .rf i, ρ, N => ∃ o, ρ[i]? = some o ∧ o.isNo = false ∧ pn i = false ∧ N o (ρ.set i .no)
theorem h_ret {w : EW} (h : w ρ (fun x ρ1 => rtE pn x ρ1 rt) xc) : sRet pn w ρ ⟨nx, rt, xc, bk, ct⟩ := by
  have e : (fun x ρ1 => match x with | .ow o => rt o ρ1 | .rf i => ∃ o, ρ1[i]? = some o ∧ o.isNo = false ∧ pn i = false ∧ rt o (ρ1.set i .no)) = fun (x : Vl) (ρ1 : List Ot) => rtE pn x ρ1 rt := by
    funext x ρ1
    cases x <;> rfl
  unfold sRet
  show w ρ (fun x ρ1 => match x with | .ow o => rt o ρ1 | .rf i => ∃ o, ρ1[i]? = some o ∧ o.isNo = false ∧ pn i = false ∧ rt o (ρ1.set i .no)) xc
  rw [e]
  exact h
theorem h_rto (h : rt o ρ) : rtE pn (.ow o) ρ rt := h
theorem h_rtf (h1 : ρ[i]? = some o) (h2 : o.isNo = false) (h3 : pn i = false) (h : stN i .no ρ (fun ρ' => rt o ρ')) : rtE pn (.rf i) ρ rt := ⟨o, h1, h2, h3, h⟩
end
theorem ite_nt {A B : Prop} (h : A) : if (!false) = true then A else B := h
theorem ite_nf {A B : Prop} (h : B) : if (!true) = true then A else B := h
theorem g_isiS {z : Str} {T : String} (b : Bool) {P : Dt → Prop} (hb : kitB "str" T = some b) (q : P (.bl b)) : gIsi [.str z, .ty T] P := ⟨_, T, _, b, rfl, rfl, hb, q⟩
theorem g_isiL {z : List Dt} {T : String} (b : Bool) {P : Dt → Prop} (hb : kitB "list" T = some b) (q : P (.bl b)) : gIsi [.lst z, .ty T] P := ⟨_, T, _, b, rfl, rfl, hb, q⟩
theorem g_isiT {z : List Dt} {T : String} (b : Bool) {P : Dt → Prop} (hb : kitB "tuple" T = some b) (q : P (.bl b)) : gIsi [.tup z, .ty T] P := ⟨_, T, _, b, rfl, rfl, hb, q⟩
theorem g_isiI {z : Int} {T : String} (b : Bool) {P : Dt → Prop} (hb : kitB "int" T = some b) (q : P (.bl b)) : gIsi [.int z, .ty T] P := ⟨_, T, _, b, rfl, rfl, hb, q⟩
theorem g_isiB {z : Bool} {T : String} (b : Bool) {P : Dt → Prop} (hb : kitB "bool" T = some b) (q : P (.bl b)) : gIsi [.bl z, .ty T] P := ⟨_, T, _, b, rfl, rfl, hb, q⟩
theorem g_isiN {T : String} (b : Bool) {P : Dt → Prop} (hb : kitB "NoneType" T = some b) (q : P (.bl b)) : gIsi [.non, .ty T] P := ⟨_, T, _, b, rfl, rfl, hb, q⟩
/-- a promise by a number, for all of them below a bound -/
theorem Kv.any {S : SrcRep} {P : Program} {w : World} {K : PySem.W.Frag} {mg : Str → Option Value} {base : Heap} {k c : Nat} {x : Str} {ps : List Str} {F : Nat → FnW} (N : Nat) (G : ∀ n, n ≤ N → Kv S P w K mg base k c x ps (F n)) : Kv S P w K mg base k c x ps (fun os Φ Ψ => ∃ n, n ≤ N ∧ F n os Φ Ψ) := by
  obtain ⟨f, fd, hm, ki, hb, _⟩ := G 0 (Nat.zero_le _)
  have all : ∀ n, n ≤ N → FnOk P w K mg base (L2.CX P w) k f fd ps (SpV S K c (F n)) := fun n hn => by
    obtain ⟨f2, fd2, hm2, ki2, _, ok⟩ := G n hn
    rw [hm] at hm2
    injection hm2 with e1
    injection e1 with e2
    subst e2
    have e3 := KI.same ki ki2
    subst e3
    exact ok
  have go : ∀ {vs H Q E}, SpV S K c (fun os Φ Ψ => ∃ n, n ≤ N ∧ F n os Φ Ψ) vs H Q E → ∃ n, n ≤ N ∧ SpV S K c (F n) vs H Q E := fun ⟨s, B, Fr, fps, sf, os, n, Φ, Ψ, w0, ⟨n1, hn, hF⟩, r⟩ => ⟨n1, hn, s, B, Fr, fps, sf, os, n, Φ, Ψ, w0, hF, r⟩
  refine ⟨f, fd, hm, ki, hb, ⟨fun vs H Q E h => ?_, fun A outer s H args us vs Q E hr he hbt hv hs => ?_⟩⟩
  · obtain ⟨n, hn, h⟩ := go h
    exact (all n hn).len vs H Q E h
  · obtain ⟨n, hn, h⟩ := go hs
    exact (all n hn).run A outer s H args us vs Q E hr he hbt hv h
end Vc
namespace Vc
open PySem PySem.Spec PyProof.Rows L2 Sx
section
variable {S : SrcRep} {K : PySem.W.Frag} {W : WX} {pn : Nat → Bool} {s s' : Option Addr} {ρ ρ' : List Ot} {σ σ' : L2.St} {B B' H H' : Hp} {Fr fp fp' g G1 G2 : Fp} {n n' N N' : Nat} {b b1 b2 b3 : Bool} {c c1 c2 c3 : Nat} {te ta tb tc : TE} {tt : TT} {wi : TI} {aa : TA} {i : Nat} {o : Ot}
/-- what stands at y in the dict x -/
def DGd (x y : Dt) (o : Option Dt) : Prop := (∃ kvs key, x = .dic kvs ∧ keyD y = some key ∧ o = valG kvs key) ∨ ∃ kvs ds key, x = .dit kvs ∧ y = .tup ds ∧ keysD ds = some key ∧ o = valG kvs key
theorem DGd.get {x y : Dt} {o : Option Dt} {xv yv : V} {Fr : Fp} (h : DGd x y o) (hc : Hc K B [] Fr H) (rx : Rp K B xv x) (ry : Rp K B yv y) : ∃ a ov, xv = .ref a ∧ DGet H a yv ov ∧ (∀ d, o = some d → ∃ v, ov = some v ∧ Rp K B v d) ∧ (o = none → ov = none) := by
  have h2 : DG (.dt x) y ([] : Chs) (o.map .dt) := by
    rcases h with ⟨kvs, key, rfl, hk, rfl⟩ | ⟨kvs, ds, key, rfl, rfl, hk, rfl⟩
    · exact .inr (.inl ⟨kvs, key, rfl, hk, rfl⟩)
    · exact .inr (.inr (.inr ⟨kvs, ds, key, rfl, rfl, hk, rfl⟩))
  obtain ⟨a, ov, e, h3, h4, h5⟩ := h2.get hc rx ry
  refine ⟨a, ov, e, h3, fun d hd => ?_, fun hn => h5 (by rw [hn]; rfl)⟩
  subst hd
  exact h4 (.dt d) rfl
def dDg (wa wb : DW) : DW := fun ρ Φ Ψ => wa ρ (fun x ρ1 => wb ρ1 (fun y ρ2 => ∃ d, DGd x y (some d) ∧ Φ d ρ2) Ψ) Ψ
theorem d_dg {wa wb : DW} (ha : VD S K W b1 c1 ta wa) (hb : VD S K W b2 c2 tb wb) : VD S K W (b1 && b2) (c1 + c2) (tDGet ta tb) (dDg wa wb) := by
  refine Vx.bind ha fun x v B0 s σ g r0 ρ Φ Ψ Fr H fp n m Q hw st hn hm k kx => ?_
  obtain ⟨rx, e⟩ := r0
  subst e
  refine hb hw st hn hm (fun y ρ' u B' H' fp' g' n' q l ln r1 st' hq => ?_) kx
  obtain ⟨ry, e⟩ := r1
  subst e
  obtain ⟨d, hd, q⟩ := q
  obtain ⟨F, hc, back⟩ := st'.hc
  obtain ⟨a, ov, rfl, h1, h2, _⟩ := hd.get hc (Rp.mono l rx) ry
  obtain ⟨w, rfl, rw⟩ := h2 d rfl
  exact ⟨a, w, rfl, h1, k d ρ' w B' H' fp' [] n' q l ln ⟨rw, rfl⟩ st' hq⟩
def dDin (neg : Bool) (wa wb : DW) : DW := fun ρ Φ Ψ => wa ρ (fun y ρ1 => wb ρ1 (fun x ρ2 => ∃ o, DGd x y o ∧ Φ (.bl (if neg then !o.isSome else o.isSome)) ρ2) Ψ) Ψ
theorem dget_some {a : Addr} {yv : V} {o : Option Dt} {ov : Option V} (h1 : ∀ d, o = some d → ∃ v, ov = some v ∧ Rp K B v d) (h2 : o = none → ov = none) : ov.isSome = o.isSome := by
  cases o with
  | none => rw [h2 rfl]; rfl
  | some d => obtain ⟨v, e, _⟩ := h1 d rfl; rw [e]; rfl
theorem d_din {wa wb : DW} (ha : VD S K W b1 c1 ta wa) (hb : VD S K W b2 c2 tb wb) : VD S K W (b1 && b2) (c1 + c2) (tDIn ta tb) (dDin false wa wb) := by
  refine Vx.bind ha fun y v B0 s σ g r0 ρ Φ Ψ Fr H fp n m Q hw st hn hm k kx => ?_
  obtain ⟨ry, e⟩ := r0
  subst e
  refine hb hw st hn hm (fun x ρ' u B' H' fp' g' n' q l ln r1 st' hq => ?_) kx
  obtain ⟨rx, e⟩ := r1
  subst e
  obtain ⟨o, hd, q⟩ := q
  obtain ⟨F, hc, back⟩ := st'.hc
  obtain ⟨a, ov, rfl, h1, h2, h3⟩ := hd.get hc rx (Rp.mono l ry)
  have e := dget_some (a := a) (yv := v) h2 h3
  exact ⟨a, ov, rfl, h1, by rw [e]; exact k _ ρ' _ B' H' fp' [] n' q l ln ⟨.bl _, rfl⟩ st' hq⟩
theorem d_dnin {wa wb : DW} (ha : VD S K W b1 c1 ta wa) (hb : VD S K W b2 c2 tb wb) : VD S K W (b1 && b2) (c1 + c2) (tDNotIn ta tb) (dDin true wa wb) := by
  refine Vx.bind ha fun y v B0 s σ g r0 ρ Φ Ψ Fr H fp n m Q hw st hn hm k kx => ?_
  obtain ⟨ry, e⟩ := r0
  subst e
  refine hb hw st hn hm (fun x ρ' u B' H' fp' g' n' q l ln r1 st' hq => ?_) kx
  obtain ⟨rx, e⟩ := r1
  subst e
  obtain ⟨o, hd, q⟩ := q
  obtain ⟨F, hc, back⟩ := st'.hc
  obtain ⟨a, ov, rfl, h1, h2, h3⟩ := hd.get hc rx (Rp.mono l ry)
  have e := dget_some (a := a) (yv := v) h2 h3
  exact ⟨a, ov, rfl, h1, by rw [e]; exact k _ ρ' _ B' H' fp' [] n' q l ln ⟨.bl _, rfl⟩ st' hq⟩
def vDn : EW := fun ρ Φ _ => Φ (.ow (.dic [] [])) ρ
theorem v_dn : VE S K W true 0 tDNewK vDn := fun s ρ Φ Ψ Fr B σ H fp n m Q hw st hn hm k kx p hp =>
  k _ ρ _ B _ fp _ n hw (Le.refl B) (by omega) (.dic (ks := []) (vs := []) rfl .nil) (Sr.new (g := []) (Fr := Fr) st hp _) fun _ => ⟨rfl, rfl⟩
def vDnT : EW := fun ρ Φ _ => Φ (.ow (.dit [] [])) ρ
theorem put_new {κ : Type} [DecidableEq κ] {ks : List κ} {vs : List V} {k : κ} {v : V} (hl : ks.length = vs.length) (h : k ∉ ks) : putK (ks.zip vs) k v = (ks ++ [k]).zip (vs ++ [v]) := by
  have e : ((ks.zip vs).any fun kv => decide (kv.1 = k)) = false := by
    rw [List.any_eq_false]
    intro p hp
    have := List.of_mem_zip hp
    intro z
    exact h (of_decide_eq_true z ▸ this.1)
  unfold putK
  rw [if_neg (by rw [e]; exact Bool.false_ne_true), List.zip_append hl]
  rfl
def isD (i : Nat) (ρ : List Ot) : Prop := ∃ ks os, ρ[i]? = some (.dic ks os)
def sSetD (i : Nat) (u : EW) (w : DW) : SW := fun ρ E => u ρ (fun y ρ0 => oneO y ρ0 fun o ρ1 => isD i ρ1 ∧ w ρ1 (fun d ρ2 => ∃ ks os key, ρ2[i]? = some (.dic ks os) ∧ keyD d = some key ∧ key ∉ ks ∧ ks.length < 1000000 ∧ E.nx (ρ2.set i (.dic (ks ++ [key]) (os ++ [o])))) E.xc) E.xc
theorem s_setD {u : EW} {w : DW} (hu : VE S K W b1 c1 te u) (hw : VD S K W b2 c2 tb w) : VS S K W pn true (c1 + c2) (sDPut (tVar i) tb te) (sSetD i u w) := by
  intro s ρ E Fr B σ H fp n D hq st hn e
  refine hu hq st (m := n + (c1 + c2)) (by omega) hn (fun y ρ0 v B0 H0 fp0 g0 n0 q l0 ln0 r0 st0 hb0 => ?_) e.kx
  obtain ⟨B1, o, kk, ρ1, fp1, l1, ⟨⟨ks0, os0, hi⟩, q⟩, ow, st1⟩ := st0.oneO r0 q
  obtain ⟨a0, _, _, h0, _⟩ := Sr.objAt (g := kk) (Fr := Fr) st1 hi rfl
  refine ⟨_, h0, hw q st1 (m := n + (c1 + c2)) (by omega) hn (fun d ρ2 v2 B2 H2 fp2 g2 n2 q l2 ln2 r2 st2 hb2 => ?_) (e.kx.mono (l0.trans l1)).frame⟩
  obtain ⟨ks, os, key, eo, hk, hn2, hl, q⟩ := q
  obtain ⟨r2, rfl⟩ := r2
  obtain ⟨a, ho, f, h1, h2, h3, up⟩ := Sr.objAt (g := kk) (Fr := Fr) st2 eo rfl
  rw [h0] at h1
  cases h1
  cases h2 with
  | @dic _ _ _ vs _ len w =>
    have ln3 := w.len
    obtain ⟨fp3, st3⟩ := up (.dic (ks ++ [key]) (os ++ [o])) (.dK ((ks ++ [key]).zip (vs ++ [v]))) (f ++ (kk ++ [])) [] [] (.dic (by rw [List.length_append, List.length_append, len]; rfl) (w.app (.cons (ow.mono l2) .nil))) (by simp)
    rw [keyD_v hk r2]
    refine ⟨a0, _, rfl, DPut.k h3 (szl (by rw [List.length_zip]; omega)), ?_⟩
    rw [put_new len hn2]
    exact e.nx s _ σ B2 _ fp3 n2 q ⟨(l0.trans l1).trans l2, by omega, fun _ => rfl, fun _ _ => rfl, st3⟩
def gSortD : Fc := fun xs Φ => ∃ (kvs : List (Key × Dt)) (ks : List Str), xs = [.dic kvs] ∧ kvs.map (·.1) = ks.map Sum.inr ∧ ks.length < 64 ∧ ∀ ys : List Str, ys.Perm ks → sortedS ys = true → Φ (.lst (ys.map .str))
theorem lc_sortD : Lc K (fun xs H Q => ∃ (a : Addr) (kvs : List (Key × V)) (ks : List Str), xs = [.ref a] ∧ Rd H a (.dK kvs) ∧ kvs.map (·.1) = ks.map Sum.inr ∧ ks.length < 64 ∧ ∀ ys p, ys.Perm ks → sortedS ys = true → H p = none → Q (.ref p) (upd H p (.lst (ys.map V.str)))) gSortD := by
  intro xs Φ ⟨kvs, ks, e, h1, h2, q⟩
  subst e
  intro Fr B H Q vs hc rs k
  cases rs with
  | cons a c =>
    cases c
    cases a with
    | dic hb e1 e2 =>
      refine ⟨_, _, ks, rfl, rd_same hc.seq hb, e1.trans h1, h2, fun ys p hp hs hn => ?_⟩
      obtain ⟨ho, hpp, hd⟩ := hc
      cases hpp
      have hd2 : Hd B ([] ++ ((p, .lst (ys.map V.str)) :: Fr)) (upd H p (.lst (ys.map V.str))) := hd.new hn _
      obtain ⟨B2, e3, l3, hd3⟩ := Hd.fin hd2
      refine k _ [] _ B2 _ ⟨_, rfl, rfl, q ys hp hs⟩ l3 ⟨[], .nil, hd3⟩ (.lst e3 ?_)
      have : ∀ ys : List Str, RpA K B2 (ys.map V.str) (ys.map .str) := fun ys => by
        induction ys with
        | nil => exact .nil
        | cons y ys ih => exact .cons (.str y) ih
      exact this ys
def fInSg (neg : Bool) : Fd := fun x y Φ => ∃ (c : Nat) (z : Str), x = .str (sgn c) ∧ y = .str z ∧ Φ (.bl (if neg then !decide (c ∈ z.cps.toList) else decide (c ∈ z.cps.toList)))
theorem lf_notInSg : Lf K (fun x y H Q => ∃ (c : Nat) (z : Str), x = .str ⟨#[c]⟩ ∧ y = .str z ∧ Q (.bl (!decide (c ∈ z.cps.toList))) H) (fInSg true) := by
  intro x y Φ ⟨c, z, e1, e2, q⟩
  subst e1 e2
  intro Fr B H Q v u hc rx ry k
  cases rx; cases ry
  exact ⟨c, z, rfl, rfl, k _ [] _ B H ⟨_, rfl, rfl, q⟩ (Le.refl B) hc (.bl _)⟩
end
end Vc
namespace PySem
namespace LowX
open PySem.W PySem.Calls PyProof.Rows PySem.HandSPX
def iA (p1 p2 : Pos) : Arguments := { posonlyargs := [], args := [{ arg := "self", annotation := none, pos := p1 }, { arg := "value", annotation := none, pos := p2 }], vararg := none, kwonlyargs := [], kw_defaults := [], kwarg := none, defaults := [] }
def iB (q1 q2 q3 q4 : Pos) : List Stmt := [.Assign [.Attribute (.Name "self" q1) "value" q2] (.Name "value" q3) q4]
def iS : Scope := { kind := .function, names := [(PySem.Str.ofString "self", .local), (PySem.Str.ofString "value", .local)], isGenerator := false, isCoroutine := false, more := [] }
/-- what the written part says of Low, at C, and of its __init__, at fI -/
structure LowTxt (K : Frag) (mg : Str → Option Value) (cn : Str) (C fI : Addr) : Prop where
  gC : mg cn = some (.ref C)
  cls : ∃ nm q N bs bm sn sub ab col dd k0 k1 k2 k3 k5, K.lookup C = some (excClassObj nm q C N bs bm true sn sub ab col dd k0 k1 k2 k3 k5 "ValueError.__new__") ∧ refsVE bm = true
  sa : findIn K (.ref C) "__setattr__" = some (some (.builtin "object.__setattr__"))
  ga : findIn K (.ref C) "__getattribute__" = some (some (.builtin "BaseException.__getattribute__"))
  gg : findIn K (.ref C) "__getattr__" = some none
  noN : findIn K (.ref C) "value" = some none
  iC : findIn K (.ref C) "__init__" = some (some (.ref fI))
  tC : typeIn K (.ref fI) = some (.type "function")
  kC : keepIn K (.ref C) = true
  exC : subIn K (.ref C) (.type "BaseException") = some true
  tyC : typeIn K (.ref C) = some (.type "type")
  hdC : hasDictIn K C = true
  te : exmOne K (.ref C) (.ref C) = some true
  fn : ∃ (oc : Value) (od : Option Addr) (kV doc pm : Value) (an : Option Addr) (cdv ct : Value) (osl : Array (Option Value)) (p1 p2 q1 q2 q3 q4 : Pos),
    K.lookup fI = some ⟨oc, od, .func (fnOf "__init__" "PressError.__init__" (iA p1 p2) (iB q1 q2 q3 q4) iS .none kV doc pm an cdv ct), osl⟩ ∧ codeIn K cdv "PressError.__init__" = true
theorem one_size (v : Value) : [v].length ≤ sizeLine := by
  rw [sizeLine_eq]
  exact (by decide : 1 ≤ 16777216)
theorem ldC {M : Model} {s : Shared} {name : Str} {scope : Scope} {L a : Addr} {cd : Value} {m : Str → Option Value} {x : Str} {pos : Pos} {v : Value} {Q : Value → Shared → Prop} {A : Around} {E : Value → Shared → Prop} (hn : s.heap.Ns L m) (hv : m x = some v) (h : Q v s)
    (hk : scope.kind = .function := by rfl) (hl : (envOfC name scope L a cd).kindOf x = some .local := by rfl) (hd : (x == ("__debug__" : Str)) = false := by decide) :
    wpAny M A (eval (.Name x pos) (envOfC name scope L a cd)) Q E s := wpAny_Name (wpAny_loadName_local hk hl hn hv h) hd
/-- what __init__ leaves of a fresh exception at x -/
structure InitEnd (h h' : Heap) (x C dx t1 : Addr) (v : Value) : Prop where
  keep : ∀ b o, b ≠ x → h.get? b = some o → h'.get? b = some o
  obj : h'.get? x = some { cls := .ref C, dict := some dx, data := .fields #[.ref t1, .none, .none, .none, .bool false, .none] }
  dbig : h.objs.size ≤ dx
  dne : dx ≠ x
  ns : h'.Ns1 dx (fun y => if y = "value" then some v else none)
/-- a made Low -/
structure OwnMade (h h' : Heap) (e C d : Addr) (v : Value) : Prop where
  keep : ∀ b o, h.get? b = some o → h'.get? b = some o
  new : h.objs.size ≤ e
  obj : ∃ oe vs, h'.get? e = some oe ∧ oe.cls = .ref C ∧ oe.dict = some d ∧ oe.data = .fields vs ∧ vs[1]? = some .none
  dbig : h.objs.size ≤ d
  dne : d ≠ e
  ns : h'.Ns1 d (fun y => if y = "value" then some v else none)
section
variable {prog : Program} {w : World} {A : Around} {E : Value → Shared → Prop} {R : Result → Shared → Prop} {s : Shared} {K : Frag} {mg : Str → Option Value} {cn : Str} {C fI : Addr}
theorem low_init (T : LowTxt K mg cn C fI) {x t0 : Addr} {v : Value} (X : K.In s.heap) (hlim : s.heap.NoLimit) (hx : s.heap.get? x = some (excO C t0)) (hnx : K.lookup x = none) (hroom : A.depth < recursionLimit)
    (hq : ∀ h' tk dx, InitEnd s.heap h' x C dx t0 v → R (.ok (.ret .none)) { s with heap := h', toks := tk }) :
    codeAny (model prog w) A (.call (.ref fI) ⟨[.ref x, v], []⟩) R s := by
  obtain ⟨oc, od, kV, doc, pm, an, cdv, ct, osl, p1, p2, q1, q2, q3, q4, ho, hcd⟩ := T.fn
  obtain ⟨nm, q, N, bs, bm, sn, sub, ab, col, dd, k0, k1, k2, k3, k5, hC, hbm⟩ := T.cls
  have hcl : clsIn K C = some { name := nm, bases := bs, mro := .ref C :: bm, ns := N, qualname := q, hasDict := true, slotNames := sn, subclasses := sub, abstract := ab, collection := col, hasDel := false } := by unfold clsIn; rw [hC] <;> rfl
  refine Att.call_fn (binds := [("self", .ref x), ("value", v)]) X hlim ho hcd hroom (BindsTo.of_eq (by first | rfl | with_unfolding_all rfl)) (by first | rfl | decide | with_unfolding_all rfl) (fun s₁ IC => ?_) rfl rfl rfl
  obtain ⟨h₁, tk₁, rfl⟩ := IC.toInCall.same
  have k : ∀ b o, s.heap.get? b = some o → h₁.get? b = some o := IC.toInCall.keep
  have hn := IC.toInCall.ns
  have hxL : s.heap.objs.size ≠ x := Nat.ne_of_gt (Heap.lt_size hx)
  have X₁ : K.In h₁ := X.keeps k
  have hx₁ := k _ _ hx
  -- self.by = by
  show wpAny _ _ (execs _ _) _ _ _
  refine wpAny_execs_cons (plainObj_wpAny_Assign_Attribute ?_)
  refine ldC (v := v) hn (by first | rfl | with_unfolding_all rfl | kernel_rfl) (ldC (v := .ref x) hn (by first | rfl | with_unfolding_all rfl | kernel_rfl) ?_)
  refine set_plain X₁ (ox := excO C t0) (od := none) ⟨hx₁, rfl, rfl, trivial⟩ T.sa ?_
  refine exc_osa X₁ hx₁ hcl (show refsVE (.ref C :: bm) = true from hbm) rfl T.noN (fun h₃ tk₃ dx k₃ dn dne hx₃ hn₃ => ?_)
  show wpAny _ _ (execs _ _) _ _ _
  have z : s.heap.objs.size < h₁.objs.size := hn.lt
  exact wpAny_execs_nil (hq h₃ tk₃ dx ⟨fun b o hb e => k₃ b o hb (k b o e), hx₃, Nat.le_of_lt (Nat.lt_of_lt_of_le z dn), dne, hn₃⟩)
theorem low_made (T : LowTxt K mg cn C fI) {v : Value} (X : K.In s.heap) (hlim : s.heap.NoLimit) (hroom : A.depth + 1 < recursionLimit)
    (hq : ∀ h' tk e d, OwnMade s.heap h' e C d v → R (.ok (.ret (.ref e))) { s with heap := h', toks := tk }) :
    codeAny (model prog w) A (.call (.ref C) ⟨[v], []⟩) R s := by
  obtain ⟨nm, q, N, bs, bm, sn, sub, ab, col, dd, k0, k1, k2, k3, k5, hC, hbm⟩ := T.cls
  obtain ⟨hp, g, dr, tk, os⟩ := s
  have k : ∀ b o, hp.get? b = some o → ((hp.push (kdv_tup [v])).push (excO C hp.objs.size)).get? b = some o := fun b o e => Heap.get?_push_of_some _ (Heap.get?_push_of_some _ e)
  have hget : ((hp.push (kdv_tup [v])).push (excO C hp.objs.size)).get? (hp.objs.size + 1) = some (excO C hp.objs.size) := by heap_get
  have hnx : K.lookup (hp.objs.size + 1) = none := by
    cases e : K.lookup (hp.objs.size + 1) with
    | none => rfl
    | some o =>
      have z : hp.get? (hp.objs.size + 1) = some o := X _ _ e
      exact absurd (Nat.lt_of_succ_lt (Heap.lt_size z)) (Nat.lt_irrefl _)
  refine call_own F.excBase_ValueError (fun X => refsVE_contains X bm hbm) (X _ _ hC) (looks_findIn X T.iC) (fun self => bind_fn X self T.tC) (one_size v) ?_
  refine low_init (s := ⟨(hp.push (kdv_tup [v])).push (excO C hp.objs.size), g, dr, tk, os⟩) T (X.keeps k) (hlim.keeps k) hget hnx ?_ fun h' tk' dx ⟨k', hx, dn, dne, hns⟩ => ?_
  · show A.depth + 1 < recursionLimit
    exact hroom
  · have old : ∀ b o, hp.get? b = some o → h'.get? b = some o := fun b o e => k' b o (Nat.ne_of_lt (Nat.lt_succ_of_lt (Heap.lt_size e))) (k b o e)
    have z : hp.objs.size + 1 + 1 ≤ dx := by
      first
        | (simpa only [Heap.size_push] using dn)
        | exact dn
        | (have q := dn; rw [Heap.size_push, Heap.size_push] at q; exact q)
    exact ⟨rfl, hq h' tk' (hp.objs.size + 1) dx ⟨old, Nat.le_succ _, ⟨_, _, hx, rfl, rfl, rfl, rfl⟩, Nat.le_trans (Nat.le_trans (Nat.le_succ _) (Nat.le_succ _)) z, dne, hns⟩⟩
end
end LowX
end PySem
namespace L2
open PySem PySem.Spec PyProof.Rows
theorem relO_low {v : V} {v' : Value} (r : RelV v v') (f : Str) : RelO (List.lookup f [(("value" : Str), v)]) (if f = "value" then some v' else none) := by
  by_cases hw : f = "value"
  · subst hw
    rw [if_pos rfl]
    have q : List.lookup ("value" : Str) [(("value" : Str), v)] = some v := by simp [List.lookup]
    rw [q]
    exact r
  · rw [if_neg hw]
    have qw : (f == ("value" : Str)) = false := by simpa using hw
    have q2 : List.lookup f [(("value" : Str), v)] = none := by simp [List.lookup, qw]
    rw [q2]
    trivial
section
variable {X : Cx} {cn : Str} {C fI : Addr}
/-- Low(e) -/
def tMkLow (C : Addr) (ta : TA) : St → Hp → XK → Prop := fun σ H Q => ta σ H fun vs H1 => ∃ v, vs = [v] ∧ ∀ d, H1 d = none → Q (.ref C) (some d) (upd H1 d (.xd [(("value" : Str), v)]))
theorem pmk_low {a : Expr} {ta : TA} {p pos : Pos} {k : Nat} (T : PySem.LowX.LowTxt X.K X.mg cn C fI) (hr : Room k X.A) (ha : PA X [a] ta) (hg : Gl X cn := by rfl) (hdb : (cn == ("__debug__" : Str)) = false := by decide)
    (he : starEach (a :: []) X.env = (false, eval a X.env) :: starEach [] X.env := by rfl) (hpl : (backTo pos (starEach [] X.env)).any (·.1) = false := by rfl) :
    PMk X (.Call (.Name cn p) [a] [] pos) (tMkLow C ta) := by
  intro pins s σ H Q I h
  refine wpAny_Call_Name_kw (ld_glob I hg T.gC ?_ hdb)
  refine PySem.W.callWith_K (h₀ := X.base) I.ok.mod.kin T.kC (thn (ha.run pos pins s σ H _ I h) fun us s1 hh => ?_) he hpl
  obtain ⟨vs, H1, I1, r1, v, ev, q1⟩ := hh
  subst ev
  refine ⟨I1.kIn, ?_⟩
  cases r1 with
  | cons rv rn =>
    rename_i v' us'
    cases rn
    show wpAny _ _ (call (.ref C) [v']) _ _ _
    have hlim := I1.nolimit
    obtain ⟨hp, g, dr, tk, os⟩ := s1
    refine wpAny_call (PySem.LowX.low_made T I1.kIn hlim (by have := hr.dp; omega) fun h' tk' e d M => ?_)
    show MkP X pins σ Q (.ref e) ⟨h', g, dr, tk', os⟩
    obtain ⟨oe, fv, hoe, hc, hd, hdat, h1⟩ := M.obj
    have hns := M.ns
    obtain ⟨G', g1, g2⟩ := restrict h' fun b => decide (b ≠ e)
    have gk : ∀ b, b ≠ e → G'.get? b = h'.get? b := fun b hb => g1 b (decide_eq_true hb)
    have ge : G'.get? e = none := g2 e (by simp)
    have old : ∀ b o, hp.get? b = some o → G'.get? b = some o := fun b o q => (gk b (Nat.ne_of_lt (Nat.lt_of_lt_of_le (Heap.lt_size q) M.new))).trans (M.keep b o q)
    have ob : ObjOk X.prog X.w (upd H1 d (.xd [(("value" : Str), v)])) G' d (.xd [(("value" : Str), v)]) :=
      ⟨_, hns.at (fun o q => (gk d M.dne).trans q), fun f => relO_low rv f⟩
    have J : Inv X pins σ (upd H1 d (.xd [(("value" : Str), v)])) ⟨G', g, dr, tk', os⟩ := I1.laid (t' := tk') old M.dbig ob
    refine ⟨e, oe, fv, ⟨G', g, dr, tk', os⟩, _, .ref C, some d, rfl, J, fun b o q => ?_, ge, hoe, ⟨hc, hd⟩, hdat, h1, ?_, rfl, I1.bare, raises_own T.exC T.tyC, q1 d (I1.hok.fresh M.dbig)⟩
    · by_cases hb : b = e
      · have q' : G'.get? b = some o := q
        rw [hb, ge] at q'; cases q'
      · exact (gk b hb).symm.trans q
    · rw [upd_ne (Ne.symm M.dne)]
      exact I1.hok.fresh M.new
/-- raise Low(e) -/
def tRaiseLow (C : Addr) (W : WX) (ta : TA) : TS := fun _ σ H => tMkLow C ta σ H fun cls d H' => W cls d σ H'
theorem ps_raiseLow {a : Expr} {ta : TA} {W : WX} {p pos pos2 : Pos} {k : Nat} (hc : X.calm = true) (T : PySem.LowX.LowTxt X.K X.mg cn C fI) (hr : Room k X.A) (tk : Takes X W) (ha : PA X [a] ta) (hg : Gl X cn := by rfl) (hdb : (cn == ("__debug__" : Str)) = false := by decide)
    (he : starEach (a :: []) X.env = (false, eval a X.env) :: starEach [] X.env := by rfl) (hpl : (backTo pos (starEach [] X.env)).any (·.1) = false := by rfl) :
    PS X (.Raise (some (.Call (.Name cn p) [a] [] pos)) none pos2) (tRaiseLow C W ta) := ps_raise hc tk (pmk_low T hr ha hg hdb he hpl)
end
end L2
namespace Vc
open PySem PySem.Spec PyProof.Rows L2 Sx
section
variable {S : SrcRep} {K : PySem.W.Frag} {W : WX} {pn : Nat → Bool} {s s' : Option Addr} {ρ ρ' : List Ot} {σ σ' : L2.St} {B B' H H' : Hp} {Fr fp fp' g G1 G2 : Fp} {n n' N N' : Nat} {b b1 b2 b3 : Bool} {c c1 c2 c3 : Nat} {te ta tb tc : TE} {tt : TT} {wi : TI} {aa : TA} {i : Nat} {o : Ot} {C : Addr} {f : Str}
theorem fs_lookup {d : Dt} : ∀ {fs : List (Str × V)} {ds : List (Str × Dt)}, fs.map (·.1) = ds.map (·.1) → RpA K B (fs.map (·.2)) (ds.map (·.2)) → ds.lookup f = some d → ∃ v, fs.lookup f = some v ∧ Rp K B v d
  | [], [], _, _, h => by cases h
  | [], _ :: _, h, _, _ => by cases h
  | _ :: _, [], h, _, _ => by cases h
  | (x, v) :: fs, (y, e) :: ds, hk, hr, h => by
    rw [List.map_cons, List.map_cons] at hk hr
    injection hk with h1 h2
    have h1 : x = y := h1
    subst h1
    cases hr with
    | cons r1 r2 =>
      cases q : (f == x) with
      | true =>
        simp only [List.lookup, q] at h ⊢
        cases h
        exact ⟨v, rfl, r1⟩
      | false =>
        simp only [List.lookup, q] at h ⊢
        exact fs_lookup h2 r2 h
def dFld (C : Addr) (f : Str) (w : DW) : DW := fun ρ Φ Ψ => w ρ (fun x ρ1 => ∃ fs d, x = .ins C fs ∧ fs.lookup f = some d ∧ Φ d ρ1) Ψ
theorem d_fld {w : DW} (cl : Cls K C) (na : NoAttr K C f) (h : VD S K W b c te w) : VD S K W b c (tFld K te f) (dFld C f w) := by
  intro s ρ Φ Ψ Fr B σ H fp n m Q hw st hn hm k kx
  refine h hw st hn hm (fun x ρ' v B' H' fp' g n' q l ln r0 st' hq => ?_) kx
  obtain ⟨rx, rfl⟩ := r0
  obtain ⟨fs, d, rfl, h1, q⟩ := q
  cases rx with
  | ins hb e1 e2 =>
    obtain ⟨u, h2, r2⟩ := fs_lookup e1 e2 h1
    exact ⟨_, C, _, _, u, rfl, st'.same _ _ hb, cl, na, h2, k d ρ' u B' H' fp' [] n' q l ln ⟨r2, rfl⟩ st' hq⟩
def dFldO (i : Nat) (C : Addr) (f : Str) : DW := fun ρ Φ _ => ∃ ks os d, ρ[i]? = some (.ins C ks os) ∧ (ks.zip os).lookup f = some (.fz d) ∧ Φ d ρ
theorem putF_new {v : V} : ∀ {ks : List Str} {vs : List V}, ks.length = vs.length → f ∉ ks → putF f v (ks.zip vs) = (ks ++ [f]).zip (vs ++ [v])
  | [], [], _, _ => rfl
  | [], _ :: _, h, _ => by cases h
  | _ :: _, [], h, _ => by cases h
  | x :: ks, u :: vs, h, hf => by
    show putF f v ((x, u) :: ks.zip vs) = (x, u) :: (ks ++ [f]).zip (vs ++ [v])
    unfold putF
    rw [if_neg (fun z : x = f => hf (by rw [← z]; exact List.mem_cons_self)), putF_new (by simpa using h) fun m => hf (List.mem_cons_of_mem _ m)]
/-- x.f = e, a field that was not there -/
def sSetF (i : Nat) (C : Addr) (f : Str) (u : EW) : SW := fun ρ E => u ρ (fun y ρ0 => oneO y ρ0 fun o ρ1 => ∃ ks os, ρ1[i]? = some (.ins C ks os) ∧ f ∉ ks ∧ ks.length < 1000 ∧ E.nx (ρ1.set i (.ins C (ks ++ [f]) (os ++ [o])))) E.xc
theorem s_setF {u : EW} (cl : Cls K C) (na : NoAttr K C f) (hu : VE S K W b c te u) : VS S K W pn true c (sFld K (tVar i) te f) (sSetF i C f u) := by
  intro s ρ E Fr B σ H fp n D hq st hn e
  refine hu hq st (m := n + c) (by omega) hn (fun y ρ0 v B0 H0 fp0 g0 n0 q l0 ln0 r0 st0 hb0 => ?_) e.kx
  obtain ⟨B2, o, kk, ρ2, fp2, l2, ⟨ks, os, e1, hf, hl, q⟩, ow, st2⟩ := st0.oneO r0 q
  obtain ⟨a, ho, f', h1, h2, h3, up⟩ := Sr.objAt (Fr := Fr) st2 e1 rfl
  refine ⟨_, h1, ?_⟩
  cases h2 with
  | @ins _ _ dx _ _ vs _ len w =>
    obtain ⟨fp3, st3⟩ := up (.ins C (ks ++ [f]) (os ++ [o])) (.ins C dx ((ks ++ [f]).zip (vs ++ [v]))) (f' ++ (kk ++ [])) [] [] (.ins (by rw [List.length_append, List.length_append, len]; rfl) (w.app (.cons ow .nil))) (by simp)
    refine ⟨a, C, dx, _, rfl, h3, cl, na, by rw [List.length_zip]; omega, ?_⟩
    rw [putF_new len hf]
    exact e.nx s _ σ B2 _ fp3 n0 q ⟨l0.trans l2, by omega, fun _ => rfl, fun _ _ => rfl, st3⟩
mutual
def Ot.sc : Ot → Bool
  | .fz (.int _) => true
  | .fz (.str _) => true
  | .fz (.bl _) => true
  | .fz .non => true
  | .lst os => scA os
  | .tup os => scA os
  | .dic _ os => scA os
  | .dit _ os => scA os
  | .dx _ _ _ => false
  | .ins _ _ os => scA os
  | _ => false
def scA : List Ot → Bool
  | [] => true
  | o :: os => o.sc && scA os
end
mutual
theorem Ow.sc : ∀ {o : Ot} {v : V} {f : Fp}, Ow K B s o v f → o.sc = true → ∀ B', Ow K B' s o v f
  | _, _, _, .src _, h, _ => by unfold Ot.sc at h; cases h
  | _, _, _, .fz (d := d) r, h, B' => by
    cases d with
    | int i => cases r; exact .fz (.int i)
    | str x => cases r; exact .fz (.str x)
    | bl x => cases r; exact .fz (.bl x)
    | non => cases r; exact .fz .non
    | _ => unfold Ot.sc at h; cases h
  | _, _, _, .lst w, h, B' => .lst (OwA.sc w (by unfold Ot.sc at h; exact h) B')
  | _, _, _, .tup w, h, B' => .tup (OwA.sc w (by unfold Ot.sc at h; exact h) B')
  | _, _, _, .dic e w, h, B' => .dic e (OwA.sc w (by unfold Ot.sc at h; exact h) B')
  | _, _, _, .dit e w, h, B' => .dit e (OwA.sc w (by unfold Ot.sc at h; exact h) B')
  | _, _, _, .ins e w, h, B' => .ins e (OwA.sc w (by unfold Ot.sc at h; exact h) B')
  | _, _, _, .hp _, h, _ => by unfold Ot.sc at h; cases h
  | _, _, _, .dx _ _ _ _, h, _ => by unfold Ot.sc at h; cases h
  | _, _, _, .av _, h, _ => by unfold Ot.sc at h; cases h
theorem OwA.sc : ∀ {os : List Ot} {vs : List V} {f : Fp}, OwA K B s os vs f → scA os = true → ∀ B', OwA K B' s os vs f
  | _, _, _, .nil, _, _ => .nil
  | _, _, _, .cons a t, h, B' => by
    unfold scA at h
    rw [Bool.and_eq_true] at h
    exact .cons (a.sc h.1 B') (OwA.sc t h.2 B')
end
mutual
def Ot.nd : Ot → Bool
  | .dic _ _ => false
  | .dit _ _ => false
  | .dx _ _ _ => false
  | .lst os => ndA os
  | .tup os => ndA os
  | .ins _ _ os => ndA os
  | .hp b _ _ => b
  | .av _ o => o.nd
  | _ => true
def ndA : List Ot → Bool
  | [] => true
  | o :: os => o.nd && ndA os
end
mutual
theorem Ow.nd : ∀ {o : Ot} {v : V} {f : Fp}, Ow K B s o v f → o.nd = true → ∀ p ∈ f, ¬ isDict p.2
  | _, _, _, .src _, _, p, hp => by cases hp
  | _, _, _, .fz r, h, p, hp => by cases hp
  | _, _, _, .lst w, h, p, hp => by
    rcases List.mem_cons.mp hp with rfl | hp
    · exact fun z => z
    · exact OwA.nd w (by unfold Ot.nd at h; exact h) p hp
  | _, _, _, .tup w, h, p, hp => by
    rcases List.mem_cons.mp hp with rfl | hp
    · exact fun z => z
    · exact OwA.nd w (by unfold Ot.nd at h; exact h) p hp
  | _, _, _, .ins _ w, h, p, hp => by
    rcases List.mem_cons.mp hp with rfl | hp
    · exact fun z => z
    · exact OwA.nd w (by unfold Ot.nd at h; exact h) p hp
  | _, _, _, .hp h0, h, p, hp => (h0 p hp).2 (by unfold Ot.nd at h; exact h)
  | _, _, _, .av w, h, p, hp => Ow.nd w (by unfold Ot.nd at h; exact h) p hp
  | _, _, _, .dic _ _, h, _, _ => by unfold Ot.nd at h; cases h
  | _, _, _, .dit _ _, h, _, _ => by unfold Ot.nd at h; cases h
  | _, _, _, .dx _ _ _ _, h, _, _ => by unfold Ot.nd at h; cases h
theorem OwA.nd : ∀ {os : List Ot} {vs : List V} {f : Fp}, OwA K B s os vs f → ndA os = true → ∀ p ∈ f, ¬ isDict p.2
  | _, _, _, .nil, _, p, hp => by cases hp
  | _, _, _, .cons a t, h, p, hp => by
    unfold ndA at h
    rw [Bool.and_eq_true] at h
    rcases List.mem_append.mp hp with hp | hp
    · exact a.nd h.1 p hp
    · exact OwA.nd t h.2 p hp
end
theorem En.nd : ∀ {ρ : List Ot} {σ : L2.St} {f : Fp}, En K B s ρ σ f → ndA ρ = true → ∀ p ∈ f, ¬ isDict p.2
  | _, _, _, .nil, _, p, hp => by cases hp
  | _, _, _, .no t, h, p, hp => by
    unfold ndA at h
    rw [Bool.and_eq_true] at h
    exact En.nd t h.2 p hp
  | _, _, _, .cons a t, h, p, hp => by
    unfold ndA at h
    rw [Bool.and_eq_true] at h
    rcases List.mem_append.mp hp with hp | hp
    · exact a.nd h.1 p hp
    · exact En.nd t h.2 p hp
/-- all of fp is fixed -/
def fixB (B : Hp) (fp : Fp) : Hp := fun a => match fp.lookup a with | some o => some o | none => B a
theorem lookup_mem' {fp : Fp} {a : Addr} {o : HO} : fp.lookup a = some o → (a, o) ∈ fp := by
  induction fp with
  | nil => intro h; cases h
  | cons p fp ih =>
    obtain ⟨x, u⟩ := p
    intro h
    cases q : (a == x) with
    | true =>
      simp only [List.lookup, q] at h
      cases h
      rw [beq_iff_eq.mp q]
      exact List.mem_cons_self
    | false =>
      simp only [List.lookup, q] at h
      exact List.mem_cons_of_mem _ (ih h)
theorem lookup_of_mem' {fp : Fp} {a : Addr} {o : HO} (nd : (fp.map (·.1)).Nodup) : (a, o) ∈ fp → fp.lookup a = some o := by
  induction fp with
  | nil => intro h; cases h
  | cons p fp ih =>
    obtain ⟨x, u⟩ := p
    intro h
    rw [List.map_cons, List.nodup_cons] at nd
    rcases List.mem_cons.mp h with e | m
    · cases e
      simp [List.lookup]
    · have : (a == x) = false := beq_eq_false_iff_ne.mpr fun z => nd.1 (z ▸ List.mem_map.mpr ⟨_, m, rfl⟩)
      simp only [List.lookup, this]
      exact ih nd.2 m
theorem lookup_none' {fp : Fp} {a : Addr} (h : a ∉ fp.map (·.1)) : fp.lookup a = none := by
  cases q : fp.lookup a with
  | none => rfl
  | some o => exact absurd (List.mem_map.mpr ⟨_, lookup_mem' q, rfl⟩) h
theorem Hd.fixA {R : Fp} (S : Hd B (fp ++ R) H) : Le B (fixB B fp) ∧ (∀ p ∈ fp, fixB B fp p.1 = some p.2) ∧ Hd (fixB B fp) R H := by
  have nd := S.nd
  rw [List.map_append, List.nodup_append] at nd
  obtain ⟨nd1, nd2, nd3⟩ := nd
  have hm : ∀ p ∈ fp, fixB B fp p.1 = some p.2 := fun p hp => by
    unfold fixB
    rw [lookup_of_mem' nd1 (show (p.1, p.2) ∈ fp from hp)]
  refine ⟨fun a o e => ?_, hm, ⟨fun a o e => ?_, fun p hp => ⟨(S.at_ p (List.mem_append_right _ hp)).1, ?_⟩, nd2⟩⟩
  · unfold fixB
    rw [lookup_none' (fp := fp) (a := a) fun z => by
      obtain ⟨p, hp, rfl⟩ := List.mem_map.mp z
      rw [(S.at_ p (List.mem_append_left _ hp)).2] at e
      cases e]
    exact e
  · unfold fixB at e
    cases q : fp.lookup a with
    | none => rw [q] at e; exact S.old a o e
    | some u =>
      rw [q] at e
      cases e
      exact (S.at_ (a, _) (List.mem_append_left _ (lookup_mem' q))).1
  · unfold fixB
    rw [lookup_none' (fp := fp) (a := p.1) fun z => nd3 _ z _ (List.mem_map.mpr ⟨p, hp, rfl⟩) rfl]
    exact (S.at_ p (List.mem_append_right _ hp)).2
/-- .. and freed again -/
def freeB (B : Hp) (fp : Fp) : Hp := fun a => match fp.lookup a with | some _ => none | none => B a
theorem Hd.freeA2 {R : Fp} {B0 : Hp} (l : Le (fixB B0 fp) B') (hf : ∀ p ∈ fp, B0 p.1 = none) (nd : (fp.map (·.1)).Nodup) (S : Hd B' R H) : Le B0 (freeB B' fp) ∧ Hd (freeB B' fp) (fp ++ R) H := by
  have hB : ∀ p ∈ fp, B' p.1 = some p.2 := fun p hp => by
    have e : fixB B0 fp p.1 = some p.2 := by
      unfold fixB
      rw [lookup_of_mem' nd (show (p.1, p.2) ∈ fp from hp)]
    exact l _ _ e
  have hR : ∀ p ∈ R, p.1 ∉ fp.map (·.1) := fun p hp z => by
    obtain ⟨q, hq, e⟩ := List.mem_map.mp z
    have h1 := hB q hq
    rw [e, (S.at_ p hp).2] at h1
    cases h1
  refine ⟨fun a o e => ?_, ⟨fun a o e => ?_, fun p hp => ?_, ?_⟩⟩
  · have hl : fp.lookup a = none := lookup_none' fun z => by
      obtain ⟨q, hq, rfl⟩ := List.mem_map.mp z
      rw [hf q hq] at e
      cases e
    have e2 : fixB B0 fp a = some o := by unfold fixB; rw [hl]; exact e
    unfold freeB
    rw [hl]
    exact l _ _ e2
  · unfold freeB at e
    cases q : fp.lookup a with
    | some w => rw [q] at e; cases e
    | none => rw [q] at e; exact S.old a o e
  · rcases List.mem_append.mp hp with m | m
    · refine ⟨S.old _ _ (hB p m), ?_⟩
      unfold freeB
      rw [lookup_of_mem' nd (show (p.1, p.2) ∈ fp from m)]
    · refine ⟨(S.at_ p m).1, ?_⟩
      unfold freeB
      rw [lookup_none' (hR p m)]
      exact (S.at_ p m).2
  · rw [List.map_append, List.nodup_append]
    exact ⟨nd, S.nd, fun a ha c hc z => by
      subst z
      obtain ⟨p, hp, rfl⟩ := List.mem_map.mp hc
      exact hR p hp ha⟩
theorem Hd.freeA {R : Fp} {B0 : Hp} (l : Le (fixB B0 fp) B') (hf : ∀ p ∈ fp, B0 p.1 = none ∧ ¬ isDict p.2) (nd : (fp.map (·.1)).Nodup) (S : Hd B' R H) : Le B0 (freeB B' fp) ∧ Hd (freeB B' fp) (fp ++ R) H := Hd.freeA2 l (fun p hp => (hf p hp).1) nd S
mutual
/-- a tree whose objects are fixed is data -/
theorem Ow.rp : ∀ {o : Ot} {v : V} {f : Fp} {d : Dt}, Ow K B s o v f → toD o = some d → Le B B' → (∀ p ∈ f, B' p.1 = some p.2) → Rp K B' v d
  | _, _, _, _, .src _, e, _, _ => by cases e
  | _, _, _, _, .fz h, e, l, _ => by cases e; exact h.mono l
  | _, _, _, d, .lst w, e, l, hp => by
    unfold toD at e
    cases q : toDs _ with
    | none => rw [q] at e; cases e
    | some ds =>
      rw [q] at e; cases e
      exact .lst (hp _ List.mem_cons_self) (OwA.rp w q l fun p m => hp p (List.mem_cons_of_mem _ m))
  | _, _, _, d, .tup w, e, l, hp => by
    unfold toD at e
    cases q : toDs _ with
    | none => rw [q] at e; cases e
    | some ds =>
      rw [q] at e; cases e
      exact .tup (hp _ List.mem_cons_self) (OwA.rp w q l fun p m => hp p (List.mem_cons_of_mem _ m))
  | _, _, _, d, .dic le w, e, l, hp => by
    unfold toD at e
    cases q : toDs _ with
    | none => rw [q] at e; cases e
    | some ds =>
      rw [q] at e; cases e
      have r := OwA.rp w q l fun p m => hp p (List.mem_cons_of_mem _ m)
      have le2 := le.trans r.len
      exact .dic (.inl (hp _ List.mem_cons_self)) ((zip_fst le).trans (zip_fst le2).symm) (by rw [zip_snd le, zip_snd le2]; exact r)
  | _, _, _, d, .dit le w, e, l, hp => by
    unfold toD at e
    cases q : toDs _ with
    | none => rw [q] at e; cases e
    | some ds =>
      rw [q] at e; cases e
      have r := OwA.rp w q l fun p m => hp p (List.mem_cons_of_mem _ m)
      have le2 := le.trans r.len
      exact .dit (.inl (hp _ List.mem_cons_self)) ((zip_fst le).trans (zip_fst le2).symm) (by rw [zip_snd le, zip_snd le2]; exact r)
  | _, _, _, d, .hp _, e, l, hp => by cases e
  | _, _, _, d, .dx k ke kd w, e, l, hp => by
    unfold toD at e
    cases q : toDs _ with
    | none => rw [q] at e; cases e
    | some ds =>
      rw [q] at e; cases e
      have r := OwA.rp w q l fun p m => hp p (List.mem_cons_of_mem _ m)
      exact .dx (.inl (hp _ List.mem_cons_self)) (RpA.mono l k) ke kd r
  | _, _, _, d, .av w, e, l, hp => Ow.rp w (by unfold toD at e; exact e) l hp
  | _, _, _, d, .ins le w, e, l, hp => by
    unfold toD at e
    cases q : toDs _ with
    | none => rw [q] at e; cases e
    | some ds =>
      rw [q] at e; cases e
      have r := OwA.rp w q l fun p m => hp p (List.mem_cons_of_mem _ m)
      have le2 := le.trans r.len
      exact .ins (hp _ List.mem_cons_self) ((zip_fst le).trans (zip_fst le2).symm) (by rw [zip_snd le, zip_snd le2]; exact r)
theorem OwA.rp : ∀ {os : List Ot} {vs : List V} {f : Fp} {ds : List Dt}, OwA K B s os vs f → toDs os = some ds → Le B B' → (∀ p ∈ f, B' p.1 = some p.2) → RpA K B' vs ds
  | _, _, _, _, .nil, e, _, _ => by cases e; exact .nil
  | _, _, _, ds, .cons (o := o) (os := os) a t, e, l, hp => by
    unfold toDs at e
    cases q : toD o with
    | none => rw [q] at e; cases e
    | some d =>
      rw [q] at e
      cases q2 : toDs os with
      | none => rw [q2] at e; cases e
      | some ds =>
        rw [q2] at e; cases e
        exact .cons (a.rp q l fun p m => hp p (List.mem_append_left _ m)) (OwA.rp t q2 l fun p m => hp p (List.mem_append_right _ m))
end
def datO (ρ : List Ot) : List Vl → Option (List Dt)
  | [] => some []
  | .ow (.fz d) :: xs => (datO ρ xs).map (d :: ·)
  | .ow _ :: _ => none
  | .rf i :: xs => match ρ[i]? with
    | some o => match toD o, datO ρ xs with
      | some d, some ds => some (d :: ds)
      | _, _ => none
    | none => none
theorem datO_rp : ∀ {xs : List Vl} {ρ : List Ot} {ds : List Dt} {vs : List V} {g fp : Fp}, datO ρ xs = some ds → En K B s ρ σ fp → VlsR K B s σ xs vs g → Le B B' → (∀ p ∈ fp, B' p.1 = some p.2) → g = [] ∧ RpA K B' vs ds
  | [], _, _, _, _, _, e, _, r, _, _ => by cases e; cases r; exact ⟨rfl, .nil⟩
  | .ow o :: xs, ρ, ds, _, _, _, e, en, .cons r t, l, hp => by
    cases o with
    | fz d =>
      unfold datO at e
      cases q : datO ρ xs with
      | none => rw [q] at e; cases e
      | some es =>
        rw [q] at e; cases e
        obtain ⟨rfl, r2⟩ := datO_rp q en t l hp
        cases r with
        | fz r => exact ⟨rfl, .cons (r.mono l) r2⟩
    | _ => unfold datO at e; cases e
  | .rf i :: xs, ρ, ds, _, _, _, e, en, .cons r t, l, hp => by
    unfold datO at e
    cases q0 : ρ[i]? with
    | none => rw [q0] at e; cases e
    | some o =>
      rw [q0] at e
      cases q1 : toD o with
      | none => simp only [q1] at e; cases e
      | some d =>
        cases q2 : datO ρ xs with
        | none => simp only [q1, q2] at e; cases e
        | some es =>
          simp only [q1, q2] at e
          cases e
          obtain ⟨rfl, r2⟩ := datO_rp q2 en t l hp
          obtain ⟨r1, rfl⟩ := r
          obtain ⟨v', k, a1, a2, h1, rfl, h3, _⟩ := en.at_ q0 (toD_no q1)
          rw [r1] at h1
          cases h1
          exact ⟨rfl, .cons (h3.rp q1 l fun p m => hp p (List.mem_append_right _ (List.mem_append_left _ m))) r2⟩
def vCallF (F : FnW) (wa : AW) : EW := fun ρ Φ Ψ => wa ρ (fun xs ρ1 => ∃ ds, datO ρ1 xs = some ds ∧ ndA ρ1 = true ∧ F (ds.map .fz) (fun o _ => o.sc = true ∧ Φ (.ow o) ρ1) noX) Ψ
theorem v_callF {F : FnW} {wa : AW} (ha : VA S K W b c1 aa wa) : VE S K W b (c1 + c2) (tCall (SpV S K c2 F) [] E0 aa) (vCallF F wa) := by
  intro s ρ Φ Ψ Fr B σ H fp n m Q hw st hn hm k kx
  refine ha hw st (by omega) hm (fun xs ρ1 vs B1 H1 fp1 g n1 q l ln r st1 hb => ?_) kx
  obtain ⟨ds, ho, hnd, hF⟩ := q
  rw [List.append_nil]
  obtain ⟨en, sf, asf, hd⟩ := st1
  have hdn := hd.nd
  have hdat := hd.at_
  obtain ⟨lf, hfx, hd2⟩ := Hd.fixA (fp := fp1) hd
  obtain ⟨rfl, ra⟩ := datO_rp ho en r lf hfx
  rw [List.map_append, List.nodup_append] at hdn
  refine ⟨s, fixB B1 fp1, Fr, [], sf, _, n1, _, _, rpa_ow ra, hF, asf, hd2, by omega, fun o os' v B' H' kk fps' sf' n' ⟨hsc, q⟩ l2 ln2 w' w2 asf' hd' => ?_, fun _ _ _ _ _ _ _ _ _ _ _ z => z.elim⟩
  have hd3 := Hd.sub hd' (List.sublist_append_right fps' _)
  obtain ⟨l3, hd4⟩ := Hd.freeA l2 (fun p hp => ⟨(hdat p (List.mem_append_left _ hp)).2, En.nd en hnd p hp⟩) hdn.1 hd3
  exact k _ ρ1 v _ H' fp1 kk n' q (l.trans l3) (by omega) (w'.sc hsc _) ⟨en.mono l3, sf', asf', hd4⟩ hb
end
end Vc
namespace Vc
open PySem PySem.Spec PyProof.Rows L2 Sx
section
variable {S : SrcRep} {K : PySem.W.Frag} {W : WX} {pn : Nat → Bool} {s s' : Option Addr} {ρ ρ' : List Ot} {σ σ' : L2.St} {B B' H H' : Hp} {Fr fp fp' g G1 G2 : Fp} {n n' N N' : Nat} {b b1 b2 b3 : Bool} {c c1 c2 c3 : Nat} {te ta tb tc : TE} {tt : TT} {wi : TI} {aa : TA} {i : Nat} {o : Ot} {C : Addr} {f : Str}
theorem OwA.splitAt : ∀ {o1 o2 : List Ot} {o : Ot} {vs : List V} {f : Fp}, OwA K B s (o1 ++ o :: o2) vs f → ∃ v1 v v2 f1 f0 f2, vs = v1 ++ v :: v2 ∧ f = f1 ++ (f0 ++ f2) ∧ v1.length = o1.length ∧ OwA K B s o1 v1 f1 ∧ Ow K B s o v f0 ∧ OwA K B s o2 v2 f2
  | [], o2, o, _, _, .cons a t => ⟨[], _, _, [], _, _, rfl, rfl, rfl, .nil, a, t⟩
  | x :: o1, o2, o, _, _, .cons a t => by
    obtain ⟨v1, v, v2, f1, f0, f2, rfl, rfl, h1, h2, h3, h4⟩ := OwA.splitAt (o1 := o1) t
    exact ⟨_ :: v1, v, v2, _ ++ f1, f0, f2, rfl, by rw [List.append_assoc], by rw [List.length_cons, h1, List.length_cons], .cons a h2, h3, h4⟩
theorem zip_look {v : V} : ∀ {k1 k2 : List Str} {v1 v2 : List V}, k1.length = v1.length → f ∉ k1 → ((k1 ++ f :: k2).zip (v1 ++ v :: v2)).lookup f = some v
  | [], k2, [], v2, _, _ => by simp [List.lookup]
  | [], _, _ :: _, _, h, _ => by cases h
  | _ :: _, _, [], _, h, _ => by cases h
  | x :: k1, k2, u :: v1, v2, h, hf => by
    have : (f == x) = false := beq_eq_false_iff_ne.mpr fun z => hf (z ▸ List.mem_cons_self)
    show List.lookup f ((x, u) :: (k1 ++ f :: k2).zip (v1 ++ v :: v2)) = some v
    simp only [List.lookup, this]
    exact zip_look (by simpa using h) fun m => hf (List.mem_cons_of_mem _ m)
def vAppF (i : Nat) (C : Addr) (f : Str) (w : EW) : EW := fun ρ Φ Ψ => ∃ k1 k2 o1 es o2, ρ[i]? = some (.ins C (k1 ++ f :: k2) (o1 ++ .lst es :: o2)) ∧ f ∉ k1 ∧ k1.length = o1.length ∧ es.length < 1000000 ∧
  w ρ (fun x ρ1 => ∃ o, x = .ow o ∧ Φ (.ow (.fz .non)) (ρ1.set i (.ins C (k1 ++ f :: k2) (o1 ++ .lst (es ++ [o]) :: o2)))) Ψ
theorem v_appF {w : EW} (cl : Cls K C) (na : NoAttr K C f) (ha : VE S K W true c ta w) : VE S K W false c (tBM K "list" rAppend (tFld K (tVar i) f) (tCons ta tNil)) (vAppF i C f w) := by
  intro s ρ Φ Ψ Fr B σ H fp n m Q hw st hn hm k kx
  obtain ⟨k1, k2, o1, es, o2, e, hf, hk, hz, hw⟩ := hw
  obtain ⟨v0, g0, r1, r2, h1, hfp, h3, h4, _⟩ := st.en.at_ e rfl
  cases h3 with
  | @ins a _ dx _ _ vs f0 len w0 =>
  obtain ⟨v1, vl, v2, f1, fl, f2, rfl, rfl, hl1, w1, wl, w2⟩ := w0.splitAt
  cases wl with
  | @lst l _ ws fw wl =>
  subst hfp
  have hd0 := st
  obtain ⟨_, sf, asf, hd⟩ := st
  have perm0 : ∀ (x y : Fp), ((r1 ++ (((a, HO.ins C dx ((k1 ++ f :: k2).zip (v1 ++ V.ref l :: v2))) :: (f1 ++ (((l, HO.lst ws) :: fw) ++ f2))) ++ r2)) ++ (x ++ y)).Perm ((a, HO.ins C dx ((k1 ++ f :: k2).zip (v1 ++ V.ref l :: v2))) :: (l, HO.lst ws) :: (r1 ++ (f1 ++ (fw ++ (f2 ++ (r2 ++ (x ++ y))))))) := fun x y => pmc fun c k ca cc _ _ => by simp only [ca, cc]; omega
  have hd1 := hd.perm (perm0 sf Fr).symm
  have ha0 : H a = some (.ins C dx ((k1 ++ f :: k2).zip (v1 ++ V.ref l :: v2))) := hd1.get
  have hl0 : H l = some (.lst ws) := hd1.drop.get
  refine ⟨_, h1, a, C, dx, _, .ref l, rfl, ha0, cl, na, zip_look (hk.trans hl1.symm) hf, .inl ⟨rfl, _, SqL.of hl0⟩, ha hw hd0 hn hm (fun x ρ' v B' H' fp' g' n' q l2 ln r st' hb => ?_) kx⟩
  obtain ⟨rfl, rfl⟩ := hb rfl
  obtain ⟨o, rfl, q⟩ := q
  have ow : Ow K B' s o v g' := r
  obtain ⟨_, sf', asf', hd'⟩ := st'
  have hd2 := hd'.perm (perm0 sf' (g' ++ Fr)).symm
  have hd3 := hd2.swap
  have hl3 : H' l = some (.lst ws) := hd3.get
  have hd4 := hd3.put (.lst (ws ++ [v]))
  have hlen := wl.len
  refine ⟨l, ws, v, rfl, rfl, hl3, szl (by omega), ?_⟩
  have en' := h4 (.ins C (k1 ++ f :: k2) (o1 ++ .lst (es ++ [o]) :: o2)) (.ref a) ((a, HO.ins C dx ((k1 ++ f :: k2).zip (v1 ++ V.ref l :: v2))) :: (f1 ++ (((l, HO.lst (ws ++ [v])) :: (fw ++ (g' ++ []))) ++ f2))) B' l2
    (.ins len ((w1.mono l2).app (.cons (.lst ((wl.mono l2).app (.cons ow .nil))) (w2.mono l2))))
  rw [set_same' h1] at en'
  refine k _ _ .non B' _ _ [] n' q l2 ln (.fz .non) ⟨en', sf', asf', hd4.perm (pmc fun c k ca cc _ c0 => by simp only [ca, cc, c0]; omega)⟩ fun z => by cases z
def vMake (C : Addr) (F : FnW) (wa : AW) : EW := fun ρ Φ Ψ => wa ρ (fun xs ρ1 => ∃ os, asO xs = some os ∧ F (.ins C [] [] :: os) (fun r os' => r = .fz .non ∧ ∃ o rest, os' = o :: rest ∧ Φ (.ow o) ρ1) noX) Ψ
theorem v_make {F : FnW} {wa : AW} (ha : VA S K W b c1 aa wa) : VE S K W b (c1 + c2) (tMake C (SpV S K c2 F) [] E0 aa) (vMake C F wa) := by
  intro s ρ Φ Ψ Fr B σ H fp n m Q hw st hn hm k kx
  refine ha hw st (by omega) hm (fun xs ρ1 vs B1 H1 fp1 g n1 q l ln r st1 hb => ?_) kx
  obtain ⟨os, ho, hF⟩ := q
  have w := asO_ow ho r
  intro x dx hx hdx hne
  rw [List.append_nil]
  obtain ⟨B2, e2, l2, st2⟩ := Sr.fix (Fr := g ++ Fr) st1 hdx (.own x)
  have hx2 : (upd H1 dx (.own x)) x = none := by rw [upd_ne (Ne.symm hne)]; exact hx
  have st3 := Sr.new (g := g) (Fr := Fr) st2 hx2 (.ins C dx [])
  obtain ⟨en, sf, asf, hd⟩ := st3
  refine ⟨s, B2, fp1 ++ Fr, ((x, HO.ins C dx []) :: []) ++ g, sf, _, n1, _, _, .cons (.ins (ks := []) (vs := []) rfl .nil) (w.mono l2), hF, asf, hd.perm (pmc fun c k ca cc _ c0 => by simp only [ca, cc, c0]; omega), by omega, fun o os' v B' H' kk fps' sf' n' ⟨er, o', rest, eo, q⟩ l3 ln3 w' w2 asf' hd' => ?_, fun _ _ _ _ _ _ _ _ _ _ _ z => z.elim⟩
  subst er eo
  cases w' with
  | fz rn =>
  cases rn
  cases w2 with
  | @cons _ _ _ _ f1 g1 wo wr =>
  refine ⟨rfl, k _ ρ1 (.ref x) B' H' fp1 f1 n' q ((l.trans l2).trans l3) (by omega) wo ⟨en.mono l3, sf', asf', Hd.sub (hd'.perm (ch' := g1 ++ (fp1 ++ (sf' ++ (f1 ++ Fr)))) (pmc fun c k ca cc _ c0 => by simp only [ca, c0]; omega)) (List.sublist_append_right g1 _)⟩ hb⟩
def vProp (C : Addr) (F : FnW) (w : DW) : EW := fun ρ Φ Ψ => w ρ (fun x ρ1 => ∃ fs, x = .ins C fs ∧ F [.fz x] (fun o _ => Φ (.ow o) ρ1) noX) Ψ
theorem v_prop {F : FnW} {w : DW} (ha : VD S K W b c1 te w) : VE S K W b (c1 + c2) (tProp C (SpV S K c2 F) [] E0 te) (vProp C F w) := by
  intro s ρ Φ Ψ Fr B σ H fp n m Q hw st hn hm k kx
  refine ha hw st (by omega) hm (fun x ρ1 v B1 H1 fp1 g n1 q l ln r st1 hb => ?_) kx
  obtain ⟨rx, rfl⟩ := r
  obtain ⟨fs, rfl, hF⟩ := q
  have rx' := rx
  cases rx with
  | @ins a _ dx us _ hb1 e1 e2 =>
  have same := st1.same
  obtain ⟨en, sf, asf, hd⟩ := st1
  refine ⟨a, dx, us, rfl, same _ _ hb1, s, B1, fp1 ++ Fr, [], sf, _, n1, _, _, (show OwA K B1 s _ _ ([] ++ []) from .cons (.fz rx') .nil), hF, asf, hd.perm (pmc fun c k ca cc _ c0 => by simp only [ca, c0]; omega), by omega, fun o os' v B' H' kk fps' sf' n' q l2 ln2 w' w2 asf' hd' => ?_, fun _ _ _ _ _ _ _ _ _ _ _ z => z.elim⟩
  exact k _ ρ1 v B' H' fp1 kk n' q (l.trans l2) (by omega) w' ⟨en.mono l2, sf', asf', Hd.sub (hd'.perm (ch' := fps' ++ (fp1 ++ (sf' ++ (kk ++ Fr)))) (pmc fun c k ca cc _ c0 => by simp only [ca]; omega)) (List.sublist_append_right fps' _)⟩ hb
def sRaise (C : Addr) (w : DW) : SW := fun ρ E => w ρ (fun d ρ1 => E.xc C d ρ1) E.xc
theorem s_raise {w : DW} (h : VD S K W b c te w) : VS S K W pn true c (tRaiseLow C W (tCons te tNil)) (sRaise C w) := by
  intro s ρ E Fr B σ H fp n D hq st hn e
  refine h hq st (m := n + c) (by omega) hn (fun d ρ' v B' H' fp' g n' q l ln r st' hb => ?_) e.kx
  obtain ⟨rd, rfl⟩ := r
  refine ⟨v, rfl, fun dd hdd => ?_⟩
  obtain ⟨B2, e2, l2, st2⟩ := Sr.fix (Fr := Fr) st' hdd (.xd [(("value" : Str), v)])
  exact e.xc s ρ' σ B2 _ fp' n' C d dd _ v q ⟨l.trans l2, ln, fun _ => rfl, fun _ _ => rfl, st2⟩ e2 (by simp [List.lookup]) (rd.mono l2)
end
def DfR (K : PySem.W.Frag) (x q : Str) (st : Stmt) (R : Addr → Prop) : Prop := ∃ f fd, FunD K x q (defArgs st) (defBody st) (defScope st) [] [] f fd ∧ R f
def KvR (S : SrcRep) (P : Program) (w : World) (K : PySem.W.Frag) (mg : Str → Option Value) (base : Heap) (k c : Nat) (R : Addr → Prop) (ps : List Str) (F : FnW) : Prop :=
  ∃ f fd, R f ∧ KI K f fd ∧ Binds K fd ps [] ∧ FnOk P w K mg base (L2.CX P w) k f fd ps (SpV S K c F)
section
variable {S : SrcRep} {P : Program} {w : World} {K : PySem.W.Frag} {mg : Str → Option Value} {base : Heap} {k c : Nat} {x q0 : Str} {ps N : List Str} {F : FnW} {st : Stmt} {R : Addr → Prop}
theorem kvr_of (pn : Nat → Bool) (D : DfR K x q0 st R) (Sc : FnScope N ps (defScope st))
    (hb : ∀ (kV doc pm : Value) (an : Option Addr) (cdv ct : Value) (us : List Value), us.length = ps.length → bindArgs (PySem.W.fnOf x q0 (defArgs st) (defBody st) (defScope st) .none kV doc pm an cdv ct) ⟨us, []⟩ = pure (ps.zip us))
    (hlen : ∀ os Φ Ψ, F os Φ Ψ → os.length = ps.length)
    (body : ∀ (f : Addr) (cdv : Value) (A : Around) (outer : List Env) (s : Shared) (H : Hp) (E : XK), Room k (A.deeper (envOfC q0 (defScope st) s.heap.objs.size f cdv)) →
      ∃ t w', PSs (cxOf (L2.CX P w) P w K mg base N q0 (defScope st) f cdv A outer s H E) (defBody st) t ∧ VS S K (fun cls d _ H => E cls d H) pn true c t w' ∧ ∀ os Φ Ψ, F os Φ Ψ → pnOk pn os = true ∧
        w' (stO0 N os) { nx := fun ρ' => finB pn ρ' os = true ∧ Φ (.fz .non) (fin pn ρ' os), rt := fun o ρ' => finB pn ρ' os = true ∧ Φ o (fin pn ρ' os), xc := fun C d ρ' => finB pn ρ' os = true ∧ Ψ C d (fin pn ρ' os) }) : KvR S P w K mg base (k + 1) c R ps F := by
  obtain ⟨f, fd, FD, hm⟩ := D
  refine ⟨f, fd, hm, FunD.ki FD, FD.bindsN hb, FD.ok Sc (fun vs H Q E h => ?_) fun cdv A outer s H vs Q E hr hsp => ?_⟩
  · obtain ⟨s, B, Fr, fps, sf, os, n, Φ, Ψ, w0, hF, _⟩ := h
    rw [← w0.len]
    exact hlen os Φ Ψ hF
  · obtain ⟨t, w', h, hv, q⟩ := body f cdv A outer s H E hr
    exact ⟨t, h, spv_body hsp hv q⟩
theorem kvr_of0 (pn : Nat → Bool) (D : DfR K x q0 st R) (Sc : FnScope N ps (defScope st))
    (hb : ∀ (kV doc pm : Value) (an : Option Addr) (cdv ct : Value) (us : List Value), us.length = ps.length → bindArgs (PySem.W.fnOf x q0 (defArgs st) (defBody st) (defScope st) .none kV doc pm an cdv ct) ⟨us, []⟩ = pure (ps.zip us))
    (hlen : ∀ os Φ Ψ, F os Φ Ψ → os.length = ps.length)
    (body : ∀ (f : Addr) (cdv : Value) (A : Around) (outer : List Env) (s : Shared) (H : Hp) (E : XK), Room k (A.deeper (envOfC q0 (defScope st) s.heap.objs.size f cdv)) →
      ∃ t w', PSs (cxOf (L2.CX P w) P w K mg base N q0 (defScope st) f cdv A outer s H E).nox (defBody st) t ∧ VS S K (fun cls d _ H => E cls d H) pn true c t w' ∧ ∀ os Φ Ψ, F os Φ Ψ → pnOk pn os = true ∧
        w' (stO0 N os) { nx := fun ρ' => finB pn ρ' os = true ∧ Φ (.fz .non) (fin pn ρ' os), rt := fun o ρ' => finB pn ρ' os = true ∧ Φ o (fin pn ρ' os), xc := fun C d ρ' => finB pn ρ' os = true ∧ Ψ C d (fin pn ρ' os) }) : KvR S P w K mg base (k + 1) c R ps F :=
  kvr_of pn D Sc hb hlen fun f cdv A outer s H E hr => by
    obtain ⟨t, w', h, q⟩ := body f cdv A outer s H E hr
    exact ⟨t, w', h.nox, q⟩
variable {X : Cx} {j : Nat} {e : Expr} {es : List Expr} {t : TA} {te : TE} {p pos : Pos} {C pr : Addr} {f : Str}
theorem k_make (G : KvR S P w K mg base j c (Mk K C) ps F) (hr : Room k X.A) (hj : j + 1 ≤ k) (ha : PA X (e :: es) t) (hmg : mg x = some (.ref C)) (hg : Gl X x := by rfl) (hdb : (x == ("__debug__" : Str)) = false := by decide)
    (he : starEach (e :: es) X.env = (false, eval e X.env) :: starEach es X.env := by rfl) (hpl : (backTo pos (starEach es X.env)).any (·.1) = false := by rfl)
    (hP : X.prog = P := by rfl) (hw : X.w = w := by rfl) (hK : X.K = K := by rfl) (hm : X.mg = mg := by rfl) (hb : X.base = base := by rfl) : PE X (.Call (.Name x p) (e :: es) [] pos) (tMake C (SpV S K c F) [] E0 t) := by
  subst hP hw hK hm hb
  obtain ⟨f, fd, M, hk, hb, F1⟩ := G
  exact pe_make M F1 (hr.mono hj) hg hmg hb .nil passL ha hdb he hpl
theorem k_prop (G : KvR S P w K mg base j c (fun g => ∃ p, PropOf K C f p g) ps F) (hr : Room k X.A) (hj : j + 1 ≤ k) (he : PE X e te) (cl : Cls K C) (hab : attributeBase e f X.env (eval e X.env) = eval e X.env := by rfl)
    (hP : X.prog = P := by rfl) (hw : X.w = w := by rfl) (hK : X.K = K := by rfl) (hm : X.mg = mg := by rfl) (hb : X.base = base := by rfl) : PE X (.Attribute e f pos) (tProp C (SpV S K c F) [] E0 te) := by
  subst hP hw hK hm hb
  obtain ⟨g, fd, ⟨p, M⟩, hk, hb, F1⟩ := G
  exact pe_prop he cl M F1 (hr.mono hj) hb .nil (passL (X := X.nox)) hab
theorem k_fld (he : PE X e te) (hK : X.K = K := by rfl) (hab : attributeBase e f X.env (eval e X.env) = eval e X.env := by rfl) : PE X (.Attribute e f pos) (tFld K te f) := by
  subst hK
  exact pe_fld he hab
end
end Vc
namespace Vh
open PySem PySem.Spec PyProof.Rows L2 He
/-- the getter of the property f of the class at C -/
def pA (K : PySem.W.Frag) (C : Addr) (f : Str) : Addr := match PySem.W.recIn K (ma K C f) "property" with
  | some (.ref g :: _) => g
  | _ => 0
def fnA (K : PySem.W.Frag) (a : Addr) : He.FnW := match K.lookup a with
  | some ⟨_, _, .func fd, _⟩ => some (fd.name, fd.qualname, fd.params, fd.body, fd.scope, fd.globals, fd.closure, fd.builtins)
  | _ => none
def okA (K : PySem.W.Frag) (a : Addr) (q : Str) : Bool := PySem.W.keepIn K (.ref a) && (match K.lookup a with
  | some ⟨_, _, .func fd, _⟩ => PySem.W.codeIn K fd.code q && (dflB K fd.defaults [] && kwdB K fd.kwdefaults [])
  | _ => false)
theorem funA {K : PySem.W.Frag} {a : Addr} {name qual : Str} {params : Arguments} {body : List Stmt} {scope : Scope} (e : fnA K a = some (name, qual, params, .stmts body, scope, mainGlobals, [], builtinsNs)) (c : okA K a qual = true) :
    ∃ fd, FunD K name qual params body scope [] [] a fd := by
  obtain ⟨kp, c2⟩ := ba c
  unfold fnA at e
  cases q : K.lookup a with
  | none =>
    rw [q] at c2
    cases c2
  | some o =>
    obtain ⟨oc, od, dt, osl⟩ := o
    rw [q] at c2 e
    cases dt with
    | func fd =>
      obtain ⟨n1, n2, n3, n4, n5, n6, n7, n8, n9, n10, n11, n12, n13, n14, n15⟩ := fd
      have e2 : (some (n1, n2, n3, n4, n5, n6, n7, n15) : He.FnW) = some (name, qual, params, .stmts body, scope, mainGlobals, [], builtinsNs) := e
      simp only [Option.some.injEq, Prod.mk.injEq] at e2
      obtain ⟨h1, h2, h3, h4, h5, h6, h7, h8⟩ := e2
      subst h1 h2 h3 h4 h5 h6 h7 h8
      have c3 : (PySem.W.codeIn K n13 n2 && (dflB K n8 [] && kwdB K n9 [])) = true := c2
      obtain ⟨k1, k2⟩ := ba c3
      obtain ⟨k3, k4⟩ := ba k2
      exact ⟨_, ⟨oc, od, n8, n9, n10, n11, n12, n13, n14, osl, rfl, q, k1, dflB_ok k3, kwdB_ok k4⟩, kp⟩
    | _ => cases c2
def propB (K : PySem.W.Frag) (C : Addr) (f : Str) : Bool := eqO (PySem.W.findIn K (.ref C) f) (some (some (.ref (ma K C f)))) && (eqO (PySem.W.specialIn K (.ref (ma K C f)) "__get__") (some (some (.builtin "property.__get__"))) &&
  (decide (PySem.W.takesIn K (.ref (ma K C f)) = some true) && (match PySem.W.recIn K (ma K C f) "property" with
  | some (.ref _ :: _) => true
  | _ => false)))
theorem propB_ok {K : PySem.W.Frag} {C : Addr} {f : Str} (h : propB K C f = true) : PropOf K C f (ma K C f) (pA K C f) := by
  obtain ⟨h1, h⟩ := ba h
  obtain ⟨h2, h⟩ := ba h
  obtain ⟨h3, h4⟩ := ba h
  refine ⟨eqO_ok h1, eqO_ok h2, of_decide_eq_true h3, ?_⟩
  unfold pA
  split at h4
  · rename_i g rest e
    rw [e]
    exact ⟨rest, rfl⟩
  · cases h4
def clsB (K : PySem.W.Frag) (C : Addr) : Bool := match K.lookup C with
  | some ⟨.type "type", _, .cls cd, sl⟩ => (match cd.mro, sl.toList with
    | .ref C' :: bm, [_, _, _, _, some (.builtin n), _] => decide (C' = C) && (n == "ValueError.__new__" && (cd.hasDict && (!cd.hasDel && PySem.HandSPX.refsVE bm)))
    | _, _ => false)
  | _ => false
theorem clsB_ok {K : PySem.W.Frag} {C : Addr} (h : clsB K C = true) : ∃ nm q N bs bm sn sub ab col dd k0 k1 k2 k3 k5, K.lookup C = some (excClassObj nm q C N bs bm true sn sub ab col dd k0 k1 k2 k3 k5 "ValueError.__new__") ∧ PySem.HandSPX.refsVE bm = true := by
  unfold clsB at h
  split at h
  · rename_i dd cd sl ho
    split at h
    · rename_i C' bm k0 k1 k2 k3 n k5 hm hs
      obtain ⟨h1, h⟩ := ba h
      obtain ⟨h2, h⟩ := ba h
      obtain ⟨h3, h⟩ := ba h
      obtain ⟨h4, h5⟩ := ba h
      have e1 := of_decide_eq_true h1
      have e2 := beq_iff_eq.mp h2
      obtain ⟨nm, bs, mro, ns, qn, hd, sn, sub, ab, col, del⟩ := cd
      dsimp only at hm h3 h4
      have h4 : del = false := by simpa using h4
      subst e1 e2 hm h4 h3
      have hsl : sl = #[k0, k1, k2, k3, some (.builtin "ValueError.__new__"), k5] := by
        obtain ⟨l⟩ := sl
        simp only at hs
        rw [hs]
      subst hsl
      exact ⟨nm, qn, ns, bs, bm, sn, sub, ab, col, dd, k0, k1, k2, k3, k5, ho, h5⟩
    · cases h
  · cases h
def lowB (K : PySem.W.Frag) (C fI : Addr) : Bool := clsB K C && (eqO (PySem.W.findIn K (.ref C) "__setattr__") (some (some (.builtin "object.__setattr__"))) && (eqO (PySem.W.findIn K (.ref C) "__getattribute__") (some (some (.builtin "BaseException.__getattribute__"))) &&
  (eqO (PySem.W.findIn K (.ref C) "__getattr__") (some none) && (eqO (PySem.W.findIn K (.ref C) "value") (some none) && (eqO (PySem.W.findIn K (.ref C) "__init__") (some (some (.ref fI))) && (decide (PySem.W.typeIn K (.ref fI) = some (.type "function")) &&
  (PySem.W.keepIn K (.ref C) && (decide (PySem.W.subIn K (.ref C) (.type "BaseException") = some true) && (decide (PySem.W.typeIn K (.ref C) = some (.type "type")) && (PySem.W.hasDictIn K C && decide (PySem.W.exmOne K (.ref C) (.ref C) = some true)))))))))))
/-- what an error class has, but for its __init__'s text -/
theorem lowB_ok {K : PySem.W.Frag} {mg : Str → Option Value} {cn : Str} {C fI : Addr} {fd : FuncData} {p1 p2 q1 q2 q3 q4 : Pos} (h : lowB K C fI = true) (hm : mg cn = some (.ref C))
    (F : FunD K "__init__" "PressError.__init__" (PySem.LowX.iA p1 p2) (PySem.LowX.iB q1 q2 q3 q4) PySem.LowX.iS [] [] fI fd) : PySem.LowX.LowTxt K mg cn C fI := by
  obtain ⟨h1, h⟩ := ba h
  obtain ⟨h2, h⟩ := ba h
  obtain ⟨h3, h⟩ := ba h
  obtain ⟨h4, h⟩ := ba h
  obtain ⟨h5, h⟩ := ba h
  obtain ⟨h6, h⟩ := ba h
  obtain ⟨h7, h⟩ := ba h
  obtain ⟨h8, h⟩ := ba h
  obtain ⟨h9, h⟩ := ba h
  obtain ⟨h10, h⟩ := ba h
  obtain ⟨h11, h12⟩ := ba h
  obtain ⟨oc, od, dV, kV, doc, pm, an, cdv, ct, osl, rfl, lk, hcd, hD, _⟩ := F.ex
  have e : dV = .none := by
    rcases hD with ⟨_, e⟩ | ⟨e, _⟩
    · exact e
    · exact absurd rfl e
  subst e
  exact ⟨hm, clsB_ok h1, eqO_ok h2, eqO_ok h3, eqO_ok h4, eqO_ok h5, eqO_ok h6, of_decide_eq_true h7, h8, of_decide_eq_true h9, of_decide_eq_true h10, h11, of_decide_eq_true h12, ⟨oc, od, kV, doc, pm, an, cdv, ct, osl, p1, p2, q1, q2, q3, q4, lk, hcd⟩⟩
/-- what isinstance asks of a class -/
structure IsiC (K : PySem.W.Frag) (C : Addr) : Prop where
  ha : PySem.W.findIn K (.ref C) "__class__" = some (some (.builtin "object.__class__"))
  hn : PySem.W.specialIn K (.builtin "object.__class__") "__get__" = some (some (.builtin "getset_descriptor.__get__"))
  htk : PySem.W.takesIn K (.builtin "object.__class__") = some true
  hm : PySem.W.mroIn K C (.type "object") = some true
def isiB (K : PySem.W.Frag) (C : Addr) : Bool := eqO (PySem.W.findIn K (.ref C) "__class__") (some (some (.builtin "object.__class__"))) && (eqO (PySem.W.specialIn K (.builtin "object.__class__") "__get__") (some (some (.builtin "getset_descriptor.__get__"))) &&
  (decide (PySem.W.takesIn K (.builtin "object.__class__") = some true) && decide (PySem.W.mroIn K C (.type "object") = some true)))
theorem isiB_ok {K : PySem.W.Frag} {C : Addr} (h : isiB K C = true) : IsiC K C := by
  obtain ⟨h1, h⟩ := ba h
  obtain ⟨h2, h⟩ := ba h
  obtain ⟨h3, h4⟩ := ba h
  exact ⟨eqO_ok h1, eqO_ok h2, of_decide_eq_true h3, of_decide_eq_true h4⟩
/-- != comes from object -/
def NeC (K : PySem.W.Frag) (C : Addr) : Prop := PySem.W.findIn K (.ref C) "__ne__" = some (some (.builtin "object.__ne__"))
def neB (K : PySem.W.Frag) (C : Addr) : Bool := eqO (PySem.W.findIn K (.ref C) "__ne__") (some (some (.builtin "object.__ne__")))
/-- a class of one's own, as isinstance takes it for values of other kinds -/
structure OthC (K : PySem.W.Frag) (C : Addr) : Prop where
  ty : ((PySem.W.clsIn K C).isSome && PySem.W.typeIn K (.ref C) == some (.type "type")) = true
def othB (K : PySem.W.Frag) (C : Addr) : Bool := (PySem.W.clsIn K C).isSome && PySem.W.typeIn K (.ref C) == some (.type "type")
/-- no subclass -/
def NoSub (K : PySem.W.Frag) (D C : Addr) : Prop := D ≠ C ∧ PySem.W.subIn K (.ref D) (.ref C) = some false
structure PrD where
  cls : Str
  f : Str
  qual : Str
  params : Arguments
  body : List Stmt
  scope : Scope
  oths : List Str
def PrD.val (d : PrD) : He.FnW := some (d.f, d.qual, d.params, .stmts d.body, d.scope, mainGlobals, [], builtinsNs)
abbrev AlV : Type := He.AlD × (List He.FnW × Bool)
def exB (gs : List PrD) (es : List Str) (K : PySem.W.Frag) : Bool := ((gs.all fun d => (propB K (ga K d.cls) d.f && okA K (pA K (ga K d.cls) d.f) d.qual) && (isiB K (ga K d.cls) && (neB K (ga K d.cls) && (othB K (ga K d.cls) && d.oths.all fun x => decide (ga K d.cls ≠ ga K x ∧ PySem.W.subIn K (.ref (ga K d.cls)) (.ref (ga K x)) = some false))))) && es.all fun x => (lowB K (ga K x) (ma K (ga K "PressError") "__init__") && isiB K (ga K x))) &&
  es.all fun x => es.all fun y => decide (PySem.W.exmOne K (.ref (ga K x)) (.ref (ga K y)) = some (x == y || y == ("PressError" : Str)))
def obsV (fa : List Fa) (fn : List DefD) (gs : List PrD) (es : List Str) (K : PySem.W.Frag) : AlV := (obsD fa fn K, (gs.map fun d => fnA K (pA K (ga K d.cls) d.f), exB gs es K))
def valV (fn : List DefD) (gs : List PrD) : AlV := (valD fn, (gs.map PrD.val, true))
def SaysV (fa : List Fa) (fn : List DefD) (gs : List PrD) (es : List Str) (K : PySem.W.Frag) : Prop := obsV fa fn gs es K = valV fn gs
def obsVG (n : Nat) (fa : List Fa) (fn : List DefD) (gs : List PrD) (es : List Str) (g : Addr → Option Obj) : AlV := obsV fa fn gs es (frG g (asD g n))
def hookV (n : Nat) (fa : List Fa) (fn : List DefD) (gs : List PrD) (es : List Str) : PySem.W.Hook where
  α := AlV
  obs := fun s => obsVG n fa fn gs es s.heap.get?
  val := fun _ => valV fn gs
  says := fun _ h => ∃ K : PySem.W.Frag, K.In h ∧ SaysV fa fn gs es K
  of := fun _ _ e => ⟨_, frG_in, e⟩
  keeps := fun _ _ _ ⟨K, hK, c⟩ k => ⟨K, PySem.W.Frag.In.keeps hK k, c⟩
theorem obsVG_eq {n : Nat} {fa : List Fa} {fn : List DefD} {gs : List PrD} {es : List Str} {g : Addr → Option Obj} {s : Shared} (h : ∀ a, g a = s.heap.get? a) : obsVG n fa fn gs es g = (hookV n fa fn gs es).obs s := by
  have e : g = s.heap.get? := funext h
  rw [e] <;> rfl
section
variable {fa : List Fa} {fn : List DefD} {gs : List PrD} {es : List Str} {K : PySem.W.Frag}
theorem SaysV.d (c : SaysV fa fn gs es K) : SaysD fa fn K := congrArg (fun z : AlV => z.1) c
theorem SaysV.ex (c : SaysV fa fn gs es K) : exB gs es K = true := congrArg (fun z : AlV => z.2.2) c
theorem SaysV.low (c : SaysV fa fn gs es K) (i : Nat) {x : Str} (h : es[i]? = some x := by rfl) : lowB K (ga K x) (ma K (ga K "PressError") "__init__") = true :=
  (ba (List.all_eq_true.mp (ba (ba c.ex).1).2 x (List.mem_of_getElem? h))).1
theorem SaysV.prop (c : SaysV fa fn gs es K) (i : Nat) {d : PrD} (h : gs[i]? = some d := by rfl) : PropOf K (ga K d.cls) d.f (ma K (ga K d.cls) d.f) (pA K (ga K d.cls) d.f) ∧ ∃ fd, FunD K d.f d.qual d.params d.body d.scope [] [] (pA K (ga K d.cls) d.f) fd := by
  obtain ⟨h1, h2⟩ := ba (ba (List.all_eq_true.mp (ba (ba c.ex).1).1 d (List.mem_of_getElem? h))).1
  have e : (gs.map fun d => fnA K (pA K (ga K d.cls) d.f)) = gs.map PrD.val := congrArg (fun z : AlV => z.2.1) c
  have e2 : (gs.map fun d => fnA K (pA K (ga K d.cls) d.f))[i]? = (gs.map PrD.val)[i]? := by rw [e]
  rw [List.getElem?_map, List.getElem?_map, h] at e2
  exact ⟨propB_ok h1, funA (Option.some.inj e2) h2⟩
theorem SaysV.isi (c : SaysV fa fn gs es K) (i : Nat) {d : PrD} (h : gs[i]? = some d := by rfl) : IsiC K (ga K d.cls) :=
  isiB_ok (ba (ba (List.all_eq_true.mp (ba (ba c.ex).1).1 d (List.mem_of_getElem? h))).2).1
theorem SaysV.nec (c : SaysV fa fn gs es K) (i : Nat) {d : PrD} (h : gs[i]? = some d := by rfl) : NeC K (ga K d.cls) :=
  eqO_ok (ba (ba (ba (List.all_eq_true.mp (ba (ba c.ex).1).1 d (List.mem_of_getElem? h))).2).2).1
theorem SaysV.oth (c : SaysV fa fn gs es K) (i : Nat) {d : PrD} (h : gs[i]? = some d := by rfl) : OthC K (ga K d.cls) :=
  ⟨(ba (ba (ba (ba (List.all_eq_true.mp (ba (ba c.ex).1).1 d (List.mem_of_getElem? h))).2).2).2).1⟩
theorem SaysV.sub (c : SaysV fa fn gs es K) (i j : Nat) {d : PrD} {x : Str} (h : gs[i]? = some d := by rfl) (hx : d.oths[j]? = some x := by rfl) : NoSub K (ga K d.cls) (ga K x) := by
  have h2 := List.all_eq_true.mp (ba (ba (ba (ba (List.all_eq_true.mp (ba (ba c.ex).1).1 d (List.mem_of_getElem? h))).2).2).2).2 x (List.mem_of_getElem? hx)
  unfold NoSub
  exact of_decide_eq_true h2
end
end Vh
namespace Vc
open PySem PySem.Spec PyProof.Rows L2 Sx
section
variable {S : SrcRep} {K : PySem.W.Frag} {W : WX} {pn : Nat → Bool} {s s' : Option Addr} {ρ ρ' : List Ot} {σ σ' : L2.St} {B B' H H' : Hp} {Fr fp fp' g : Fp} {n n' N N' : Nat} {b b1 b2 b3 : Bool} {c c1 c2 c3 : Nat} {te ta tb tc : TE} {tl : TA} {i : Nat} {o : Ot} {C : Addr} {f : Str}
def vListC (wa : LW) : EW := fun ρ Φ Ψ => wa ρ (fun xs ρ1 => ∃ es, (xs = [.lst es] ∨ xs = [.tup es]) ∧ Φ (.ow (.lst (es.map .fz))) ρ1) Ψ
theorem v_listC {wa : LW} (ha : VL S K W b c tl wa) : VE S K W b c (tCB (fun xs H Q => ∃ p ys, xs = [.ref p] ∧ (SqL K H p ys ∨ SqT K H p ys) ∧ ∀ l, H l = none → Q (.ref l) (upd H l (.lst ys))) tl) (vListC wa) := by
  intro s ρ Φ Ψ Fr B σ H fp n m Q hw st hn hm k kx
  refine ha hw st hn hm (fun x ρ' v B' H' fp' g n' q l ln r0 st' hq => ?_) kx
  obtain ⟨r, rfl⟩ := r0
  obtain ⟨es, e, q⟩ := q
  have key : ∃ a ys, v = [.ref a] ∧ (SqL K H' a ys ∨ SqT K H' a ys) ∧ RpA K B' ys es := by
    rcases e with rfl | rfl
    · cases r with
      | cons r rt =>
        cases rt
        cases r with
        | lst hb ha => exact ⟨_, _, rfl, .inl (SqL.of (st'.same _ _ hb)), ha⟩
    · cases r with
      | cons r rt =>
        cases rt
        cases r with
        | tup hb ha => exact ⟨_, _, rfl, .inr (SqT.of (st'.same _ _ hb)), ha⟩
  obtain ⟨a, ys, rfl, h1, h2⟩ := key
  exact ⟨a, ys, rfl, h1, fun p hp => k _ ρ' _ B' _ fp' _ n' q l ln (.lst (rpa_ow h2)) (Sr.new (g := []) (Fr := Fr) st' hp _) hq⟩
def vTupC (wa : LW) : EW := fun ρ Φ Ψ => wa ρ (fun xs ρ1 => ∃ es, xs = [.lst es] ∧ Φ (.ow (.tup (es.map .fz))) ρ1) Ψ
theorem v_tupC {wa : LW} (ha : VL S K W b c tl wa) : VE S K W b c (tCB (fun xs H Q => ∃ p ys, xs = [.ref p] ∧ ((SqL K H p ys ∧ ∀ l, H l = none → Q (.ref l) (upd H l (.tup ys))) ∨ (SqT K H p ys ∧ Q (.ref p) H))) tl) (vTupC wa) := by
  intro s ρ Φ Ψ Fr B σ H fp n m Q hw st hn hm k kx
  refine ha hw st hn hm (fun x ρ' v B' H' fp' g n' q l ln r0 st' hq => ?_) kx
  obtain ⟨r, rfl⟩ := r0
  obtain ⟨es, rfl, q⟩ := q
  cases r with
  | cons r rt =>
    cases rt
    cases r with
    | lst hb ha => exact ⟨_, _, rfl, .inl ⟨SqL.of (st'.same _ _ hb), fun p hp => k _ ρ' _ B' _ fp' _ n' q l ln (.tup (rpa_ow ha)) (Sr.new (g := []) (Fr := Fr) st' hp _) hq⟩⟩
theorem k_sfld {X : Cx} {o value : Expr} {pos pos' : Pos} {to tv : TE} (ho : PE X o to) (hv : PE X value tv) (hK : X.K = K := by rfl) (hs : swapsWith value (some (.Attribute o f pos')) pos.line X.env = pure false := by rfl) : PS X (.Assign [.Attribute o f pos'] value pos) (sFld K to tv f) := by
  subst hK
  exact ps_fld ho hv hs
end
section
variable {ρ : List Ot} {nx bk ct : List Ot → Prop} {rt : Ot → List Ot → Prop} {xc Ψ : XW} {i : Nat} {Φ : Dt → List Ot → Prop} {Φv : Vl → List Ot → Prop} {C : Addr} {f : Str} {P : Dt → Prop}
theorem g_dg {wa wb : DW} (h : wa ρ (fun x ρ1 => wb ρ1 (fun y ρ2 => ∃ d, DGd x y (some d) ∧ Φ d ρ2) Ψ) Ψ) : dDg wa wb ρ Φ Ψ := h
theorem e_dgS {kvs : List (Key × Dt)} {k : Str} {d : Dt} (h : valG kvs (.inr k) = some d) (q : P d) : ∃ d, DGd (.dic kvs) (.str k) (some d) ∧ P d := ⟨d, .inl ⟨kvs, .inr k, rfl, rfl, h.symm⟩, q⟩
theorem g_dn (h : Φv (.ow (.dic [] [])) ρ) : vDn ρ Φv Ψ := h
theorem h_setD {u : EW} {w : DW} (h : u ρ (fun y ρ0 => oneO y ρ0 fun o ρ1 => isD i ρ1 ∧ w ρ1 (fun d ρ2 => ∃ ks os key, ρ2[i]? = some (.dic ks os) ∧ keyD d = some key ∧ key ∉ ks ∧ ks.length < 1000000 ∧ stN i (.dic (ks ++ [key]) (os ++ [o])) ρ2 nx) xc) xc) : sSetD i u w ρ ⟨nx, rt, xc, bk, ct⟩ := h
theorem e_isD {Q : Prop} (e : isD i ρ) (h : Q) : isD i ρ ∧ Q := ⟨e, h⟩
theorem e_setDS {ks : List Key} {os : List Ot} {k : Str} {M : List Key → List Ot → Key → Prop} (e : ρ[i]? = some (.dic ks os)) (h1 : (Sum.inr k : Key) ∉ ks) (h2 : ks.length < 1000000) (q : M ks os (.inr k)) : ∃ ks os key, ρ[i]? = some (.dic ks os) ∧ keyD (.str k) = some key ∧ key ∉ ks ∧ ks.length < 1000000 ∧ M ks os key := ⟨ks, os, _, e, rfl, h1, h2, q⟩
theorem h_oneO {o : Ot} {N : Ot → List Ot → Prop} (h : N o ρ) : oneO (.ow o) ρ N := h
theorem g_fld {w : DW} (h : w ρ (fun x ρ1 => ∃ fs d, x = .ins C fs ∧ fs.lookup f = some d ∧ Φ d ρ1) Ψ) : dFld C f w ρ Φ Ψ := h
theorem e_fld {fs : List (Str × Dt)} (h : ∃ d, fs.lookup f = some d ∧ P d) : ∃ fs' d, Dt.ins C fs = .ins C fs' ∧ fs'.lookup f = some d ∧ P d := by
  obtain ⟨d, h, q⟩ := h
  exact ⟨fs, d, rfl, h, q⟩
theorem g_fldO (h : ∃ ks os, ρ[i]? = some (.ins C ks os) ∧ ∃ d, (ks.zip os).lookup f = some (.fz d) ∧ Φ d ρ) : dFldO i C f ρ Φ Ψ := by
  obtain ⟨ks, os, e, d, h, q⟩ := h
  exact ⟨ks, os, d, e, h, q⟩
theorem h_setF {u : EW} (h : u ρ (fun y ρ0 => oneO y ρ0 fun o ρ1 => ∃ ks os, ρ1[i]? = some (.ins C ks os) ∧ f ∉ ks ∧ ks.length < 1000 ∧ stN i (.ins C (ks ++ [f]) (os ++ [o])) ρ1 nx) xc) : sSetF i C f u ρ ⟨nx, rt, xc, bk, ct⟩ := h
theorem e_setF {M : List Str → List Ot → Prop} (q : ∃ ks os, ρ[i]? = some (.ins C ks os) ∧ f ∉ ks ∧ ks.length < 1000 ∧ M ks os) : ∃ ks os, ρ[i]? = some (.ins C ks os) ∧ f ∉ ks ∧ ks.length < 1000 ∧ M ks os := q
theorem h_make {F : FnW} {wa : AW} (h : wa ρ (fun xs ρ1 => ∃ os, asO xs = some os ∧ F (.ins C [] [] :: os) (fun r os' => r = .fz .non ∧ ∃ o rest, os' = o :: rest ∧ Φv (.ow o) ρ1) noX) Ψ) : vMake C F wa ρ Φv Ψ := h
theorem g_prop {F : FnW} {w : DW} (h : w ρ (fun x ρ1 => ∃ fs, x = .ins C fs ∧ F [.fz x] (fun o _ => Φv (.ow o) ρ1) noX) Ψ) : vProp C F w ρ Φv Ψ := h
theorem e_prop {fs : List (Str × Dt)} {Q : Dt → Prop} (h : Q (.ins C fs)) : ∃ fs', Dt.ins C fs = .ins C fs' ∧ Q (.ins C fs) := ⟨fs, rfl, h⟩
theorem g_raise {w : DW} (h : w ρ (fun d ρ1 => xc C d ρ1) xc) : sRaise C w ρ ⟨nx, rt, xc, bk, ct⟩ := h
theorem g_callF {F : FnW} {wa : AW} (h : wa ρ (fun xs ρ1 => ∃ ds, datO ρ1 xs = some ds ∧ ndA ρ1 = true ∧ F (ds.map .fz) (fun o _ => o.sc = true ∧ Φv (.ow o) ρ1) noX) Ψ) : vCallF F wa ρ Φv Ψ := h
theorem g_listC {wa : LW} (h : wa ρ (fun xs ρ1 => ∃ es, (xs = [.lst es] ∨ xs = [.tup es]) ∧ Φv (.ow (.lst (es.map .fz))) ρ1) Ψ) : vListC wa ρ Φv Ψ := h
theorem e_listL {ds : List Dt} {Q : List Dt → Prop} (q : Q ds) : ∃ es, ([Dt.lst ds] = [.lst es] ∨ [Dt.lst ds] = [.tup es]) ∧ Q es := ⟨ds, .inl rfl, q⟩
theorem g_tupC {wa : LW} (h : wa ρ (fun xs ρ1 => ∃ es, xs = [.lst es] ∧ Φv (.ow (.tup (es.map .fz))) ρ1) Ψ) : vTupC wa ρ Φv Ψ := h
theorem g_inSg {neg : Bool} {c : Nat} {z : Str} (q : P (.bl (if neg then !decide (c ∈ z.cps.toList) else decide (c ∈ z.cps.toList)))) : fInSg neg (.str (sgn c)) (.str z) P := ⟨c, z, rfl, rfl, q⟩
theorem g_sortD {kvs : List (Key × Dt)} (ks : List Str) (h : kvs.map (·.1) = ks.map Sum.inr) (hl : ks.length < 64) (q : ∀ ys : List Str, ys.Perm ks → sortedS ys = true → P (.lst (ys.map .str))) : gSortD [.dic kvs] P := ⟨kvs, ks, rfl, h, hl, q⟩
end
end Vc
namespace Vc
open PySem PySem.Spec PyProof.Rows L2 Sx
theorem cutG_take {α : Type} (l : List α) (i : Nat) : cutG l none (some (i : Int)) = l.take i := by
  unfold cutG
  rw [HT.sIx_nat]
  show (l.drop 0).take (min i l.length - 0) = _
  rw [List.drop_zero, Nat.sub_zero, List.take_eq_take_iff]
  omega
theorem look0 {α : Type} {f : Str} {d : α} {r : List (Str × α)} : ((f, d) :: r).lookup f = some d := by simp [List.lookup]
theorem look1 {α : Type} {f g : Str} {x d : α} {r : List (Str × α)} (h : (f == g) = false) : ((g, x) :: (f, d) :: r).lookup f = some d := by simp [List.lookup, h]
theorem look2 {α : Type} {f g g2 : Str} {x x2 d : α} {r : List (Str × α)} (h : (f == g) = false) (h2 : (f == g2) = false) : ((g, x) :: (g2, x2) :: (f, d) :: r).lookup f = some d := by simp [List.lookup, h, h2]
section
variable {S : SrcRep} {K : PySem.W.Frag} {W : WX} {b : Bool} {c : Nat} {te : TE} {ρ : List Ot} {Φ : Dt → List Ot → Prop} {Φv : Vl → List Ot → Prop} {Ψ : XW} {i : Nat}
/-- a new value is data from here on; the slots stay -/
def dFq (w : EW) : DW := fun ρ Φ Ψ => w ρ (fun x ρ1 => ∃ o d, x = .ow o ∧ toD o = some d ∧ Φ d ρ1) Ψ
theorem d_fq {w : EW} (h : VE S K W b c te w) : VD S K W b c te (dFq w) := by
  intro s ρ Φ Ψ Fr B σ H fp n m Q hw st hn hm k kx
  refine h hw st hn hm (fun x ρ' v B' H' fp' g n' q l ln r st' hb => ?_) kx
  obtain ⟨o, d, rfl, e, q⟩ := q
  obtain ⟨B2, l2, r2, st2⟩ := st'.fzVal r e
  exact k d ρ' v B2 H' fp' [] n' q (l.trans l2) ln ⟨r2, rfl⟩ st2 hb
theorem g_fq {w : EW} (h : w ρ (fun x ρ1 => ∃ o d, x = .ow o ∧ toD o = some d ∧ Φ d ρ1) Ψ) : dFq w ρ Φ Ψ := h
theorem g_vdc (h : ∃ ks os, ρ[i]? = some (.dic ks os) ∧ Φv (.rf i) ρ) : vVar i ρ Φv Ψ := by
  obtain ⟨ks, os, e, q⟩ := h
  exact ⟨_, e, q⟩
theorem g_vins (h : ∃ C ks os, ρ[i]? = some (.ins C ks os) ∧ Φv (.rf i) ρ) : vVar i ρ Φv Ψ := by
  obtain ⟨C, ks, os, e, q⟩ := h
  exact ⟨_, e, q⟩
end
section
variable {ρ : List Ot} {Φv : Vl → List Ot → Prop} {Ψ : XW} {i : Nat} {C : Addr} {f : Str}
theorem h_appF {w : EW} (h : ∃ k1 k2 o1 es o2, ρ[i]? = some (.ins C (k1 ++ f :: k2) (o1 ++ .lst es :: o2)) ∧ f ∉ k1 ∧ k1.length = o1.length ∧ es.length < 1000000 ∧
  w ρ (fun x ρ1 => ∃ o, x = .ow o ∧ stN i (.ins C (k1 ++ f :: k2) (o1 ++ .lst (es ++ [o]) :: o2)) ρ1 (fun ρ' => Φv (.ow (.fz .non)) ρ')) Ψ) : vAppF i C f w ρ Φv Ψ := h
theorem nd_fz : ∀ ds : List Dt, ndA (ds.map .fz) = true
  | [] => rfl
  | d :: ds => by
    rw [List.map_cons]
    unfold ndA
    rw [nd_fz ds]
    rfl
end
section
variable {ρ : List Ot} {Φ : Dt → List Ot → Prop} {Ψ : XW}
theorem g_dinP {wa wb : DW} (h : wa ρ (fun y ρ1 => wb ρ1 (fun x ρ2 => ∃ o, DGd x y o ∧ Φ (.bl o.isSome) ρ2) Ψ) Ψ) : dDin false wa wb ρ Φ Ψ := h
theorem g_dinN {wa wb : DW} (h : wa ρ (fun y ρ1 => wb ρ1 (fun x ρ2 => ∃ o, DGd x y o ∧ Φ (.bl (!o.isSome)) ρ2) Ψ) Ψ) : dDin true wa wb ρ Φ Ψ := h
theorem e_din {kvs : List (Key × Dt)} {k : Str} {Q : Option Dt → Prop} (q : Q (valG kvs (.inr k))) : ∃ o, DGd (.dic kvs) (.str k) o ∧ Q o := ⟨_, .inl ⟨kvs, .inr k, rfl, rfl, rfl⟩, q⟩
end
end Vc
namespace Vc
open PySem PySem.Spec PyProof.Rows L2 Sx
def cs (x : Str) : List Nat := x.cps.toList
theorem cs_len (x : Str) : (cs x).length = x.length := Array.length_toList
theorem cs_app (x y : Str) : cs (x ++ y) = cs x ++ cs y := by
  show (x.cps ++ y.cps).toList = _
  rw [Array.toList_append]; rfl
theorem cs_sgn (c : Nat) : cs (sgn c) = [c] := rfl
theorem cs_mul (c : Nat) (n : Nat) : cs (Txt.mul (sgn c) (n : Int)) = List.replicate n c := by
  have key : ∀ (n : Nat) (a : Array Nat), ((List.replicate n (sgn c).cps).foldl (· ++ ·) a).toList = a.toList ++ List.replicate n c := by
    intro n
    induction n with
    | zero => intro a; simp
    | succ n ih =>
      intro a
      rw [List.replicate_succ, List.foldl_cons, ih, Array.toList_append]
      show a.toList ++ [c] ++ _ = _
      rw [List.append_assoc]
      rfl
  unfold Txt.mul
  by_cases h1 : (n : Int) < 1
  · rw [if_pos h1]
    have : n = 0 := by omega
    subst this
    rfl
  · rw [if_neg h1]
    by_cases h2 : ((n : Int) == 1 || (sgn c).length == 0) = true
    · rw [if_pos h2]
      have : n = 1 := by
        have e : (sgn c).length = 1 := rfl
        rw [e] at h2
        simp at h2
        omega
      subst this
      rfl
    · rw [if_neg h2]
      show ((List.replicate n (sgn c).cps).foldl (· ++ ·) #[]).toList = _
      rw [key n #[]]
      rfl
section
variable {ρ : List Ot} {Φ : Dt → List Ot → Prop} {Ψ : XW} {i : Nat}
theorem h_dfdic {ks : List Key} {os : List Ot} {d : Dt} (e : ρ[i]? = some (.dic ks os)) (hd : toD (.dic ks os) = some d) (q : stN i (.fz d) ρ (fun ρ' => Φ d ρ')) : dF (vVar i) ρ Φ Ψ := ⟨_, e, ⟨_, d, e, hd, q⟩⟩
end
end Vc
namespace Vc
open PySem PySem.Spec PyProof.Rows L2 Sx
section
variable {S : SrcRep} {K : PySem.W.Frag} {W : WX} {b : Bool} {c : Nat} {te : TE} {ρ : List Ot} {Φ : Dt → List Ot → Prop} {Ψ : XW} {i : Nat} {P : Dt → Prop}
def dRevL (w : DW) : DW := fun ρ Φ Ψ => w ρ (fun x ρ1 => ∃ ds, x = .lst ds ∧ Φ (.lst ds.reverse) ρ1) Ψ
theorem d_revL {w : DW} (h : VD S K W b c te w) : VD S K W b c (tRevL K te) (dRevL w) := by
  intro s ρ Φ Ψ Fr B σ H fp n m Q hw st hn hm k kx
  refine h hw st hn hm (fun x ρ' v B' H' fp' g n' q l ln r0 st' hq => ?_) kx
  obtain ⟨r, rfl⟩ := r0
  obtain ⟨ds, rfl, q⟩ := q
  cases r with
  | @lst a xs _ hb ha =>
    refine ⟨a, xs, rfl, SqL.of (st'.same _ _ hb), fun p hp => ?_⟩
    obtain ⟨B2, e2, l2, st2⟩ := Sr.fix (Fr := Fr) st' hp (.lst xs.reverse)
    exact k _ ρ' _ B2 _ fp' [] n' q (l.trans l2) ln ⟨.lst e2 ((rpa_rev ha).mono l2), rfl⟩ st2 hq
theorem k_revL {X : Cx} {e : Expr} {k : Nat} {p1 p2 p3 pos : Pos} (K : PySem.W.Frag) (he : PE X e te) (hK : X.K = K := by rfl) : PE X (.Subscript e (.Slice none none (some (.UnaryOp .USub (.Constant (.int 1) k p1) p2)) p3) pos) (tRevL K te) := by
  subst hK
  exact pe_revL he
theorem g_revL {w : DW} (h : w ρ (fun x ρ1 => ∃ ds, x = .lst ds ∧ Φ (.lst ds.reverse) ρ1) Ψ) : dRevL w ρ Φ Ψ := h
end
end Vc
namespace Vc
open PySem PySem.Spec PyProof.Rows L2 Sx
section
variable {S : SrcRep} {K : PySem.W.Frag} {W : WX} {pn : Nat → Bool} {s s' : Option Addr} {ρ ρ' : List Ot} {σ σ' : L2.St} {B B' H H' : Hp} {Fr fp fp' g : Fp} {n n' N N' : Nat} {b b1 b2 g1 g2 : Bool} {c c1 c2 c3 : Nat} {te ta tb : TE} {aa ak : TA} {i : Nat} {C : Addr} {f : Str}
def vCallX (F : FnW) (wa : AW) : EW := fun ρ Φ Ψ => wa ρ (fun xs ρ1 => ∃ os, asO xs = some os ∧ F os (fun o _ => Φ (.ow o) ρ1) (fun C d _ => Ψ C d ρ1)) Ψ
def vMeth (C : Addr) (mt : Str) (F : FnW) (w : DW) (wa : AW) : EW := fun ρ Φ Ψ => w ρ (fun x ρ1 => ∃ fs, x = .ins C fs ∧ fs.lookup mt = none ∧ wa ρ1 (fun xs ρ2 => ∃ os, asO xs = some os ∧ F (.fz x :: os) (fun o _ => Φ (.ow o) ρ2) noX) Ψ) Ψ
def vMethX (C : Addr) (mt : Str) (F : FnW) (w : DW) (wa : AW) : EW := fun ρ Φ Ψ => w ρ (fun x ρ1 => ∃ fs, x = .ins C fs ∧ fs.lookup mt = none ∧ wa ρ1 (fun xs ρ2 => ∃ os, asO xs = some os ∧ F (.fz x :: os) (fun o _ => Φ (.ow o) ρ2) (fun C d _ => Ψ C d ρ2)) Ψ) Ψ
def sTry (K : PySem.W.Frag) (c : Addr) (wb ws : SW) : SW := fun ρ E => wb ρ { E with xc := fun C d ρ' => ∃ b, PySem.W.exmOne K (.ref C) (.ref c) = some b ∧ (b = true → ws ρ' E) ∧ (b = false → E.xc C d ρ') }
end
end Vc
namespace Vc
open PySem PySem.Spec PyProof.Rows L2 Sx
section
variable {S : SrcRep} {K : PySem.W.Frag} {W : WX} {pn : Nat → Bool} {s s' : Option Addr} {ρ ρ' ρ1 : List Ot} {σ σ' : L2.St} {B B' B1 H H' H1 : Hp} {Fr fp fp' fp1 g : Fp} {n n' n1 N N' : Nat} {b b1 b2 g1 g2 : Bool} {c c1 c2 c3 : Nat} {te ta tb : TE} {t : TS} {i : Nat} {E : EdV} {D : Ends} {d : Addr}
mutual
theorem Ow.monoV (l : Lv B B') : ∀ {o : Ot} {v : V} {f : Fp}, Ow K B s o v f → Ow K B' s o v f
  | _, _, _, .src e => .src e
  | _, _, _, .fz h => .fz (Rp.monoV l h)
  | _, _, _, .lst h => .lst (OwA.monoV l h)
  | _, _, _, .tup h => .tup (OwA.monoV l h)
  | _, _, _, .dic e h => .dic e (OwA.monoV l h)
  | _, _, _, .dit e h => .dit e (OwA.monoV l h)
  | _, _, _, .ins e h => .ins e (OwA.monoV l h)
  | _, _, _, .hp h => .hp h
  | _, _, _, .dx k e d h => .dx (RpA.monoV l k) e d (OwA.monoV l h)
  | _, _, _, .av h => .av (Ow.monoV l h)
theorem OwA.monoV (l : Lv B B') : ∀ {os : List Ot} {vs : List V} {f : Fp}, OwA K B s os vs f → OwA K B' s os vs f
  | _, _, _, .nil => .nil
  | _, _, _, .cons h t => .cons (Ow.monoV l h) (OwA.monoV l t)
end
theorem En.monoV (l : Lv B B') : ∀ {ρ : List Ot} {σ : L2.St} {f : Fp}, En K B s ρ σ f → En K B' s ρ σ f
  | _, _, _, .nil => .nil
  | _, _, _, .no h => .no (En.monoV l h)
  | _, _, _, .cons h t => .cons (h.monoV l) (En.monoV l t)
def keyDt : Key → Dt
  | .inl i => .int i
  | .inr x => .str x
def iKeyW (i : Nat) : LW := fun ρ Φ _ => ∃ kvs, ρ[i]? = some (.fz (.dic kvs)) ∧ Φ (kvs.map fun p => keyDt p.1) ρ
/-- a walk over the keys of a dict: no exception leaves it -/
def sForK (pn : Nat → Bool) (tg : Tg) (c : Nat) (i : Nat) (w : SW) : SW := fun ρ E => sFor pn tg c (iKeyW i) w ρ ⟨E.nx, E.rt, noX, E.bk, E.ct⟩
end
section
variable {ρ : List Ot} {nx bk ct : List Ot → Prop} {rt : Ot → List Ot → Prop} {xc : XW} {pn : Nat → Bool} {i c : Nat}
theorem g_forK {tg : Tg} {w : SW} (h : sFor pn tg c (iKeyW i) w ρ ⟨nx, rt, noX, bk, ct⟩) : sForK pn tg c i w ρ ⟨nx, rt, xc, bk, ct⟩ := h
end
end Vc
namespace Vc
open PySem PySem.Spec PyProof.Rows L2 Sx
section
variable {S : SrcRep} {K : PySem.W.Frag} {W : WX} {pn : Nat → Bool} {s s' : Option Addr} {ρ ρ' ρ1 : List Ot} {σ σ' : L2.St} {B B' B1 H H' H1 : Hp} {Fr fp fp' fp1 g : Fp} {n n' n1 N N' : Nat} {b b1 b2 g1 g2 : Bool} {c c1 c2 c3 c4 : Nat} {te ta tb tk tv : TE} {tt : TT} {t : TS} {i : Nat} {d : Addr}
def dcD (tg : Tg) (wt : TW) (wk wv : DW) (ρb : List Ot) : List Dt → List (Key × Dt) → (List (Key × Dt) → Prop) → Prop
  | [], acc, Φ => Φ acc
  | d :: ds, acc, Φ => tg.put (fun _ => false) d ρb fun ρ2 => wt ρ2 (fun x _ => if x = true then wk ρ2 (fun y _ => wv ρ2 (fun z _ => ∃ k, keyD y = some k ∧ k ∉ acc.map (·.1) ∧ dcD tg wt wk wv ρb ds (acc ++ [(k, z)]) Φ) noX) noX else dcD tg wt wk wv ρb ds acc Φ) noX
def dDcK (i : Nat) (vs : List Nat) (ce : Nat) (tg : Tg) (wt : TW) (wk wv : DW) : DW := fun ρ Φ _ => ∃ kvs, ρ[i]? = some (.fz (.dic kvs)) ∧ kvs.length ≤ LCN ∧ (ce = 0 ∨ kvs.length ≤ FORN) ∧ (tg.inn vs && frees ρ vs && tg.fre (wipeO ρ vs)) = true ∧
  dcD tg wt wk wv (wipeO ρ vs) (kvs.map fun p => keyDt p.1) [] fun acc => Φ (.dic acc) ρ
end
end Vc
namespace Vc
open PySem PySem.Spec PyProof.Rows L2 Sx
section
variable {ρ : List Ot} {Φ : Vl → List Ot → Prop} {Φd : Dt → List Ot → Prop} {Ψ : XW} {i : Nat} {C : Addr} {mt : Str} {F : FnW}
theorem g_meth {w : DW} {wa : AW} (h : w ρ (fun x ρ1 => ∃ fs, x = .ins C fs ∧ fs.lookup mt = none ∧ wa ρ1 (fun xs ρ2 => ∃ os, asO xs = some os ∧ F (.fz x :: os) (fun o _ => Φ (.ow o) ρ2) noX) Ψ) Ψ) : vMeth C mt F w wa ρ Φ Ψ := h
theorem g_methX {w : DW} {wa : AW} (h : w ρ (fun x ρ1 => ∃ fs, x = .ins C fs ∧ fs.lookup mt = none ∧ wa ρ1 (fun xs ρ2 => ∃ os, asO xs = some os ∧ F (.fz x :: os) (fun o _ => Φ (.ow o) ρ2) (fun C d _ => Ψ C d ρ2)) Ψ) Ψ) : vMethX C mt F w wa ρ Φ Ψ := h
theorem e_meth {fs : List (Str × Dt)} {M : List (Str × Dt) → Prop} (h : fs.lookup mt = none ∧ M fs) : ∃ gs, Dt.ins C fs = .ins C gs ∧ gs.lookup mt = none ∧ M gs := ⟨fs, rfl, h⟩
theorem g_try {K : PySem.W.Frag} {a : Addr} {wb ws : SW} {nx bk ct : List Ot → Prop} {rt : Ot → List Ot → Prop} {xc : XW} (h : wb ρ ⟨nx, rt, fun C d ρ' => ∃ b, PySem.W.exmOne K (.ref C) (.ref a) = some b ∧ (b = true → ws ρ' ⟨nx, rt, xc, bk, ct⟩) ∧ (b = false → xc C d ρ'), bk, ct⟩) : sTry K a wb ws ρ ⟨nx, rt, xc, bk, ct⟩ := h
theorem g_keyW {Φl : List Dt → List Ot → Prop} (h : ∃ kvs, ρ[i]? = some (.fz (.dic kvs)) ∧ Φl (kvs.map fun p => keyDt p.1) ρ) : iKeyW i ρ Φl Ψ := h
theorem g_dcK {vs : List Nat} {ce : Nat} {tg : Tg} {wt : TW} {wk wv : DW} (h : ∃ kvs, ρ[i]? = some (.fz (.dic kvs)) ∧ kvs.length ≤ LCN ∧ (ce = 0 ∨ kvs.length ≤ FORN) ∧ (tg.inn vs && frees ρ vs && tg.fre (wipeO ρ vs)) = true ∧
  dcD tg wt wk wv (wipeO ρ vs) (kvs.map fun p => keyDt p.1) [] fun acc => Φd (.dic acc) ρ) : dDcK i vs ce tg wt wk wv ρ Φd Ψ := h
theorem g_callX {wa : AW} (h : wa ρ (fun xs ρ1 => ∃ os, asO xs = some os ∧ F os (fun o _ => Φ (.ow o) ρ1) (fun C d _ => Ψ C d ρ1)) Ψ) : vCallX F wa ρ Φ Ψ := h
end
end Vc
namespace Vc
open PySem PySem.Spec PyProof.Rows L2 Sx
theorem take_split {α : Type} {xs : List α} {i : Nat} {x : α} (h : xs[i]? = some x) : xs = xs.take i ++ x :: xs.drop (i + 1) ∧ xs.take (i + 1) = xs.take i ++ [x] := by
  refine ⟨?_, by rw [List.take_add_one, h]; rfl⟩
  have h2 := List.drop_eq_getElem_cons (List.getElem?_eq_some_iff.mp h).1
  rw [(List.getElem?_eq_some_iff.mp h).2] at h2
  rw [← h2, List.take_append_drop]
section
variable {α β : Type} {pn : Nat → Bool} {tg : Tg} {w : SW} {E : EdV} {ds : List Dt} {ρ : List Ot}
theorem for_x (xs : List α) (enc : α → Dt) (md : List Nat) (I : List α → List (Nat × Ot) → Prop) (he : ds = xs.map enc)
    (h0 : ∃ u, Has ρ u ∧ I [] u) (hu : ∀ a u, I a u → (u.all fun p => md.contains p.1) = true)
    (hs : ∀ a x b u, xs = a ++ x :: b → I a u → upE md u ρ fun ρ1 => ∀ N : List Ot → Prop, (∀ u' ρ', Eqx md 0 ρ1 ρ' → Has ρ' u' → I (a ++ [x]) u' → N ρ') → tg.put pn (enc x) ρ1 fun ρ2 => w ρ2 { nx := N, ct := N, bk := E.nx, rt := E.rt, xc := E.xc })
    (hd : ∀ u, I xs u → upE md u ρ E.nx) : Fgt (forP pn tg w E ds) ρ := by
  subst he
  refine for_e md (fun i u => I (xs.take i) u) h0 (fun i u h => hu _ u h) (fun i d u hdi hI => ?_) (fun u hI => hd u ?_)
  · rw [List.getElem?_map] at hdi
    cases hx : xs[i]? with
    | none => rw [hx] at hdi; cases hdi
    | some x =>
      rw [hx] at hdi
      cases hdi
      obtain ⟨sp, tk⟩ := take_split hx
      have := hs (xs.take i) x (xs.drop (i + 1)) u sp hI
      rw [← tk] at this
      exact this
  · rw [List.length_map, List.take_length] at hI
    exact hI
/-- .. for range -/
theorem for_r {lo : Int} {n : Nat} (md : List Nat) (I : Nat → List (Nat × Ot) → Prop) (he : ds = rngD lo n) (h0 : ∃ u, Has ρ u ∧ I 0 u)
    (hu : ∀ i u, I i u → (u.all fun p => md.contains p.1) = true)
    (hs : ∀ i u, i < n → I i u → upE md u ρ fun ρ1 => ∀ N : List Ot → Prop, (∀ u' ρ', Eqx md 0 ρ1 ρ' → Has ρ' u' → I (i + 1) u' → N ρ') → tg.put pn (.int (lo + (i : Int))) ρ1 fun ρ2 => w ρ2 { nx := N, ct := N, bk := E.nx, rt := E.rt, xc := E.xc })
    (hd : ∀ u, I n u → upE md u ρ E.nx) : Fgt (forP pn tg w E ds) ρ := by
  subst he
  refine for_e md I h0 hu (fun i d u hdi hI => ?_) (fun u hI => hd u ?_)
  · obtain ⟨hi, rfl⟩ := rngD_at hdi
    exact hs i u hi hI
  · rw [rngD_len] at hI
    exact hI
variable {wt : TW} {we : DW} {ρb : List Ot}
variable {we' : EW} {vs : List Nat}
end
section
variable {ρ : List Ot} {nx bk ct : List Ot → Prop} {rt : Ot → List Ot → Prop} {xc Ψ : XW}
theorem g_ifB {w : DW} {a b : SW} (h : tBl w ρ (fun x ρ1 => if x = true then a ρ1 ⟨nx, rt, xc, bk, ct⟩ else b ρ1 ⟨nx, rt, xc, bk, ct⟩) xc) : sIf (tBl w) a b ρ ⟨nx, rt, xc, bk, ct⟩ := h
theorem g_ifN {w : TW} {a b : SW} (h : tNotW w ρ (fun x ρ1 => if x = true then a ρ1 ⟨nx, rt, xc, bk, ct⟩ else b ρ1 ⟨nx, rt, xc, bk, ct⟩) xc) : sIf (tNotW w) a b ρ ⟨nx, rt, xc, bk, ct⟩ := h
/-- Q what is known where it holds, R where not; the test changes no slot -/
theorem if_m {t : TW} {a b : SW} (Q R : Prop) (h : ∀ N : Bool → List Ot → Prop, (Q → N true ρ) → (R → N false ρ) → t ρ N xc) (ha : Q → a ρ ⟨nx, rt, xc, bk, ct⟩) (hb : R → b ρ ⟨nx, rt, xc, bk, ct⟩) : sIf t a b ρ ⟨nx, rt, xc, bk, ct⟩ :=
  h (fun x ρ1 => if x = true then a ρ1 ⟨nx, rt, xc, bk, ct⟩ else b ρ1 ⟨nx, rt, xc, bk, ct⟩) (fun q => (if_pos rfl).mpr (ha q)) (fun r => (if_neg (fun z => by cases z)).mpr (hb r))
end
class Enc (α : Type) where
  d : α → Dt
  p : α → PyData
  ok : ∀ a, toP (d a) = some (p a)
  dep : Nat
  le : ∀ a, (p a).depth ≤ dep
  eq : ∀ a b, PyData.eqv (p a) (p b) = true ↔ a = b
instance : Enc Str := ⟨.str, .str, fun _ => rfl, 0, fun _ => Nat.zero_le _, fun a b => by rw [PyData.eqv]; exact beq_iff_eq⟩
instance : Enc Int := ⟨.int, .int, fun _ => rfl, 0, fun _ => Nat.zero_le _, fun a b => by rw [PyData.eqv]; exact beq_iff_eq⟩
instance : Enc Bool := ⟨.bl, .bool, fun _ => rfl, 0, fun _ => Nat.zero_le _, fun a b => by rw [PyData.eqv]; exact beq_iff_eq⟩
theorem toPs_enc {α : Type} [Enc α] : ∀ xs : List α, toPs (xs.map Enc.d) = some (xs.map Enc.p)
  | [] => rfl
  | x :: xs => by rw [List.map_cons, toPs, Enc.ok, toPs_enc xs]; rfl
theorem dep_enc {α : Type} [Enc α] : ∀ xs : List α, PyData.depthAll (xs.map Enc.p) ≤ Enc.dep α
  | [] => Nat.zero_le _
  | x :: xs => by rw [List.map_cons, PyData.depthAll]; exact Nat.max_le.mpr ⟨Enc.le x, dep_enc xs⟩
theorem eqv_enc {α : Type} [Enc α] : ∀ xs ys : List α, PyData.eqvAll (xs.map Enc.p) (ys.map Enc.p) = true ↔ xs = ys
  | [], [] => by simp [PyData.eqvAll]
  | [], _ :: _ => by simp [PyData.eqvAll]
  | _ :: _, [] => by simp [PyData.eqvAll]
  | x :: xs, y :: ys => by
    rw [List.map_cons, List.map_cons, PyData.eqvAll, Bool.and_eq_true, Enc.eq, eqv_enc xs ys, List.cons.injEq]
instance {α : Type} [Enc α] : Enc (List α) := ⟨fun xs => .lst (xs.map Enc.d), fun xs => .list (xs.map Enc.p), fun xs => by rw [toP, toPs_enc]; rfl, Enc.dep α + 1,
  fun xs => by rw [PyData.depth]; have := dep_enc xs; omega, fun xs ys => by rw [PyData.eqv]; exact eqv_enc xs ys⟩
/-- pairs as tuples -/
instance {α β : Type} [Enc α] [Enc β] : Enc (α × β) := ⟨fun x => .tup [Enc.d x.1, Enc.d x.2], fun x => .tuple [Enc.p x.1, Enc.p x.2], fun x => by rw [toP, toPs, toPs, Enc.ok, Enc.ok]; rfl, max (Enc.dep α) (Enc.dep β) + 1,
  fun x => by
    rw [PyData.depth, PyData.depthAll, PyData.depthAll, PyData.depthAll]
    have h1 := Enc.le x.1
    have h2 := Enc.le x.2
    omega,
  fun x y => by
    rw [PyData.eqv, PyData.eqvAll, PyData.eqvAll, PyData.eqvAll, Bool.and_true, Bool.and_eq_true, Enc.eq, Enc.eq]
    exact ⟨fun ⟨a, b⟩ => Prod.ext a b, fun e => by rw [e]; exact ⟨rfl, rfl⟩⟩⟩
section
variable {P : Dt → Prop} {α : Type} [Enc α] [DecidableEq α]
theorem enc_dec (a b : α) : PyData.eqv (Enc.p a) (Enc.p b) = decide (a = b) := by
  cases h : PyData.eqv (Enc.p a) (Enc.p b) with
  | true => exact (decide_eq_true ((Enc.eq a b).mp h)).symm
  | false => exact (decide_eq_false fun e => by rw [(Enc.eq a b).mpr e] at h; cases h).symm
theorem g_eqE (a b : α) (h : Enc.dep α ≤ 150) (q : P (.bl (decide (a = b)))) : fEqP (Enc.d a) (Enc.d b) P := ⟨_, _, Enc.ok a, Enc.ok b, Nat.le_trans (Enc.le a) h, by rw [enc_dec]; exact q⟩
theorem g_neE (a b : α) (h : Enc.dep α ≤ 150) (q : P (.bl (!decide (a = b)))) : fNeP (Enc.d a) (Enc.d b) P := ⟨_, _, Enc.ok a, Enc.ok b, Nat.le_trans (Enc.le a) h, by rw [enc_dec]; exact q⟩
end
end Vc
namespace L2
open PySem PySem.Spec PyProof.Rows
end L2
namespace Vc
open PySem PySem.Spec PyProof.Rows L2 Sx
section
variable {S : SrcRep} {K : PySem.W.Frag} {W : WX} {pn : Nat → Bool} {s s' : Option Addr} {ρ ρ' ρ1 : List Ot} {σ σ' : L2.St} {B B' B1 H H' H1 : Hp} {Fr fp fp' fp1 g : Fp} {n n' n1 N N' : Nat} {b b1 b2 g1 g2 : Bool} {c c1 c2 c3 : Nat} {te ta tb : TE} {aa ak : TA} {i : Nat} {C : Addr} {f : Str}
def sSetW (i : Nat) (w : DW) : SW := fun ρ E => w ρ (fun d ρ1 => ∃ ds os, d = .lst ds ∧ ρ1[i]? = some (.lst os) ∧ os.length + ds.length ≤ 1000000 ∧ E.nx (ρ1.set i (.lst (ds.map .fz)))) E.xc
mutual
theorem Ow.nx : ∀ {o : Ot} {v : V} {f : Fp}, Ow K B s o v f → ∀ p ∈ f, ∀ fs, p.2 ≠ HO.xd fs
  | _, _, _, .src _, p, hp => by cases hp
  | _, _, _, .fz r, p, hp => by cases hp
  | _, _, _, .lst w, p, hp => by
    rcases List.mem_cons.mp hp with rfl | hp
    · exact fun _ z => by cases z
    · exact OwA.nx w p hp
  | _, _, _, .tup w, p, hp => by
    rcases List.mem_cons.mp hp with rfl | hp
    · exact fun _ z => by cases z
    · exact OwA.nx w p hp
  | _, _, _, .hp h0, p, hp => (h0 p hp).1
  | _, _, _, .dx _ _ _ w, p, hp => by
    rcases List.mem_cons.mp hp with rfl | hp
    · exact fun _ z => nomatch (show HO.ext _ = HO.xd _ from z)
    · exact OwA.nx w p hp
  | _, _, _, .av w, p, hp => Ow.nx w p hp
  | _, _, _, .ins _ w, p, hp => by
    rcases List.mem_cons.mp hp with rfl | hp
    · exact fun _ z => by cases z
    · exact OwA.nx w p hp
  | _, _, _, .dic _ w, p, hp => by
    rcases List.mem_cons.mp hp with rfl | hp
    · exact fun _ z => by cases z
    · exact OwA.nx w p hp
  | _, _, _, .dit _ w, p, hp => by
    rcases List.mem_cons.mp hp with rfl | hp
    · exact fun _ z => by cases z
    · exact OwA.nx w p hp
theorem OwA.nx : ∀ {os : List Ot} {vs : List V} {f : Fp}, OwA K B s os vs f → ∀ p ∈ f, ∀ fs, p.2 ≠ HO.xd fs
  | _, _, _, .nil, p, hp => by cases hp
  | _, _, _, .cons a t, p, hp => by
    rcases List.mem_append.mp hp with hp | hp
    · exact a.nx p hp
    · exact OwA.nx t p hp
end
theorem En.nx : ∀ {ρ : List Ot} {σ : L2.St} {f : Fp}, En K B s ρ σ f → ∀ p ∈ f, ∀ fs, p.2 ≠ HO.xd fs
  | _, _, _, .nil, p, hp => by cases hp
  | _, _, _, .no t, p, hp => En.nx t p hp
  | _, _, _, .cons a t, p, hp => by
    rcases List.mem_append.mp hp with hp | hp
    · exact a.nx p hp
    · exact En.nx t p hp
/-- numbers, texts and the like -/
def scD : Dt → Bool
  | .int _ => true
  | .str _ => true
  | .bl _ => true
  | .non => true
  | _ => false
/-- an expression that sees the slot i fixed -/
def vBor (i : Nat) (w : EW) : EW := fun ρ Φ _ => ∃ o d, ρ[i]? = some o ∧ o.nd = true ∧ toD o = some d ∧ w (ρ.set i (.fz d)) (fun x _ => ∃ o', x = .ow o' ∧ o'.sc = true ∧ Φ (.ow o') ρ) noX
def dBor (i : Nat) (w : DW) : DW := fun ρ Φ _ => ∃ o d, ρ[i]? = some o ∧ o.nd = true ∧ toD o = some d ∧ w (ρ.set i (.fz d)) (fun x _ => scD x = true ∧ Φ x ρ) noX
def datS (ρ : List Ot) : List Vl → Option (List Ot)
  | [] => some []
  | .ow .src :: xs => (datS ρ xs).map (.src :: ·)
  | .ow (.fz d) :: xs => (datS ρ xs).map (.fz d :: ·)
  | .rf i :: xs => match ρ[i]? with
    | some o => (toD o).bind fun d => (datS ρ xs).map (.fz d :: ·)
    | none => none
  | _ => none
def vCallB (F : FnW) (wa : AW) : EW := fun ρ Φ Ψ => wa ρ (fun xs ρ1 => ∃ os, datS ρ1 xs = some os ∧ ndA ρ1 = true ∧ F os (fun o _ => o.sc = true ∧ Φ (.ow o) ρ1) (fun C d _ => scD d = true ∧ Ψ C d ρ1)) Ψ
def vCallB0 (F : FnW) (wa : AW) : EW := fun ρ Φ Ψ => wa ρ (fun xs ρ1 => ∃ os, datS ρ1 xs = some os ∧ ndA ρ1 = true ∧ F os (fun o _ => o.sc = true ∧ Φ (.ow o) ρ1) noX) Ψ
def vMethB (C : Addr) (mt : Str) (F : FnW) (w : DW) (wa : AW) : EW := fun ρ Φ Ψ => w ρ (fun x ρ1 => ∃ fs, x = .ins C fs ∧ fs.lookup mt = none ∧ wa ρ1 (fun xs ρ2 => ∃ os, datS ρ2 xs = some os ∧ ndA ρ2 = true ∧ F (.fz x :: os) (fun o _ => o.sc = true ∧ Φ (.ow o) ρ2) (fun C d _ => scD d = true ∧ Ψ C d ρ2)) Ψ) Ψ
end
section
variable {ρ : List Ot} {nx bk ct : List Ot → Prop} {rt : Ot → List Ot → Prop} {xc Ψ : XW} {i : Nat} {Φ : Dt → List Ot → Prop} {Φv : Vl → List Ot → Prop} {C : Addr} {mt : Str} {F : FnW}
theorem h_setW {w : DW} (h : w ρ (fun d ρ1 => ∃ ds os, d = .lst ds ∧ ρ1[i]? = some (.lst os) ∧ os.length + ds.length ≤ 1000000 ∧ stN i (.lst (ds.map .fz)) ρ1 nx) xc) : sSetW i w ρ ⟨nx, rt, xc, bk, ct⟩ := h
/-- the slot i holds a list of data -/
theorem h_dborL {w : DW} {os : List Ot} {ds : List Dt} (e : ρ[i]? = some (.lst os)) (f : FzL os ds) (q : stN i (.fz (.lst ds)) ρ fun ρ' => w ρ' (fun x _ => scD x = true ∧ Φ x ρ) noX) : dBor i w ρ Φ Ψ := by
  have f := f.eq
  subst f
  refine ⟨_, .lst ds, e, ?_, by simp [toD, toDs_fz], q⟩
  show ndA (ds.map .fz) = true
  exact nd_fz ds
theorem h_vborL {w : EW} {os : List Ot} {ds : List Dt} (e : ρ[i]? = some (.lst os)) (f : FzL os ds) (q : stN i (.fz (.lst ds)) ρ fun ρ' => w ρ' (fun x _ => ∃ o', x = .ow o' ∧ o'.sc = true ∧ Φv (.ow o') ρ) noX) : vBor i w ρ Φv Ψ := by
  have f := f.eq
  subst f
  refine ⟨_, .lst ds, e, ?_, by simp [toD, toDs_fz], q⟩
  show ndA (ds.map .fz) = true
  exact nd_fz ds
theorem g_callB {wa : AW} (h : wa ρ (fun xs ρ1 => ∃ os, datS ρ1 xs = some os ∧ ndA ρ1 = true ∧ F os (fun o _ => o.sc = true ∧ Φv (.ow o) ρ1) (fun C d _ => scD d = true ∧ Ψ C d ρ1)) Ψ) : vCallB F wa ρ Φv Ψ := h
theorem g_callB0 {wa : AW} (h : wa ρ (fun xs ρ1 => ∃ os, datS ρ1 xs = some os ∧ ndA ρ1 = true ∧ F os (fun o _ => o.sc = true ∧ Φv (.ow o) ρ1) noX) Ψ) : vCallB0 F wa ρ Φv Ψ := h
theorem g_methB {w : DW} {wa : AW} (h : w ρ (fun x ρ1 => ∃ fs, x = .ins C fs ∧ fs.lookup mt = none ∧ wa ρ1 (fun xs ρ2 => ∃ os, datS ρ2 xs = some os ∧ ndA ρ2 = true ∧ F (.fz x :: os) (fun o _ => o.sc = true ∧ Φv (.ow o) ρ2) (fun C d _ => scD d = true ∧ Ψ C d ρ2)) Ψ) Ψ) : vMethB C mt F w wa ρ Φv Ψ := h
/-- the arguments lent, read off -/
inductive DatE (ρ : List Ot) : List Vl → List Ot → Prop
  | nil : DatE ρ [] []
  | src {xs : List Vl} {os : List Ot} : DatE ρ xs os → DatE ρ (.ow .src :: xs) (.src :: os)
  | fz {d : Dt} {xs : List Vl} {os : List Ot} : DatE ρ xs os → DatE ρ (.ow (.fz d) :: xs) (.fz d :: os)
  | lst {j : Nat} {us : List Ot} {ds : List Dt} {xs : List Vl} {os : List Ot} : ρ[j]? = some (.lst us) → FzL us ds → DatE ρ xs os → DatE ρ (.rf j :: xs) (.fz (.lst ds) :: os)
  | rf {j : Nat} {o : Ot} {d : Dt} {xs : List Vl} {os : List Ot} : ρ[j]? = some o → toD o = some d → DatE ρ xs os → DatE ρ (.rf j :: xs) (.fz d :: os)
theorem DatE.eq : ∀ {xs : List Vl} {os : List Ot}, DatE ρ xs os → datS ρ xs = some os
  | _, _, .nil => rfl
  | _, _, .src h => by unfold datS; rw [h.eq]; rfl
  | _, _, .fz h => by unfold datS; rw [h.eq]; rfl
  | _, _, .lst e f h => by
    have f := f.eq
    subst f
    unfold datS
    rw [e, h.eq]
    simp [toD, toDs_fz]
  | _, _, .rf e f h => by
    unfold datS
    rw [e, h.eq]
    simp [f]
/-- no dict that may change, read off -/
inductive NdE : List Ot → Prop
  | nil : NdE []
  | no {l : List Ot} : NdE l → NdE (.no :: l)
  | src {l : List Ot} : NdE l → NdE (.src :: l)
  | fz {d : Dt} {l : List Ot} : NdE l → NdE (.fz d :: l)
  | lst {os : List Ot} {ds : List Dt} {l : List Ot} : FzL os ds → NdE l → NdE (.lst os :: l)
  | tup {os : List Ot} {ds : List Dt} {l : List Ot} : FzL os ds → NdE l → NdE (.tup os :: l)
theorem NdE.eq : ∀ {l : List Ot}, NdE l → ndA l = true
  | _, .nil => rfl
  | _, .no h => by unfold ndA; rw [h.eq]; rfl
  | _, .src h => by unfold ndA; rw [h.eq]; rfl
  | _, .fz h => by unfold ndA; rw [h.eq]; rfl
  | _, .lst f h => by
    have f := f.eq
    subst f
    unfold ndA
    rw [h.eq, Ot.nd, nd_fz]
    rfl
  | _, .tup f h => by
    have f := f.eq
    subst f
    unfold ndA
    rw [h.eq, Ot.nd, nd_fz]
    rfl
theorem e_dat {xs : List Vl} {os : List Ot} {M : List Ot → Prop} (e : DatE ρ xs os) (nd : NdE ρ) (h : M os) : ∃ os, datS ρ xs = some os ∧ ndA ρ = true ∧ M os := ⟨os, e.eq, nd.eq, h⟩
end
end Vc
namespace Vc
open PySem PySem.Spec PyProof.Rows L2 Sx
def kpm {α : Type} : List Nat → List α → List α
  | [], _ => []
  | i :: is, xs => match xs[i]? with
    | some x => x :: kpm is xs
    | none => kpm is xs
theorem vals_at : ∀ {vs : List V} {us : List Value}, Vals vs us → ∀ i : Nat, (vs[i]? = none ∧ us[i]? = none) ∨ ∃ v u, vs[i]? = some v ∧ us[i]? = some u ∧ RelV v u
  | _, _, .nil, i => .inl ⟨by simp, by simp⟩
  | _, _, .cons r t, 0 => .inr ⟨_, _, rfl, rfl, r⟩
  | _, _, .cons r t, i + 1 => by
    rcases vals_at t i with ⟨h1, h2⟩ | ⟨v, u, h1, h2, h3⟩
    · exact .inl ⟨by simpa using h1, by simpa using h2⟩
    · exact .inr ⟨v, u, by simpa using h1, by simpa using h2, h3⟩
theorem vals_kpm {vs : List V} {us : List Value} (h : Vals vs us) : ∀ is : List Nat, Vals (kpm is vs) (kpm is us)
  | [] => .nil
  | i :: is => by
    unfold kpm
    rcases vals_at h i with ⟨h1, h2⟩ | ⟨v, u, h1, h2, h3⟩
    · rw [h1, h2]; exact vals_kpm h is
    · rw [h1, h2]; exact .cons h3 (vals_kpm h is)
section
variable {S : SrcRep} {K : PySem.W.Frag} {W : WX} {s s' : Option Addr} {ρ ρ' ρ1 : List Ot} {σ σ' : L2.St} {B B' B1 H H' H1 : Hp} {Fr fp fp' fp1 g : Fp} {n n' n1 N N' nk : Nat} {b b1 b2 : Bool} {c c1 c2 c3 : Nat} {te ta tb : TE} {ak : TA} {C : Addr} {mt : Str} {is : List Nat}
/-- permuted, where nobody owns anything -/
theorem owa_at0 : ∀ {os : List Ot} {vs : List V} {f : Fp}, OwA K B s os vs f → f = [] → ∀ i : Nat, (os[i]? = none ∧ vs[i]? = none) ∨ ∃ o v, os[i]? = some o ∧ vs[i]? = some v ∧ Ow K B s o v []
  | _, _, _, .nil, _, i => .inl ⟨by simp, by simp⟩
  | _, _, _, .cons (f := f1) (g := g1) r t, hf, i => by
    obtain ⟨e1, e2⟩ := List.append_eq_nil_iff.mp hf
    cases i with
    | zero =>
      rw [e1] at r
      exact .inr ⟨_, _, rfl, rfl, r⟩
    | succ i =>
      rcases owa_at0 t e2 i with ⟨h1, h2⟩ | ⟨v, u, h1, h2, h3⟩
      · exact .inl ⟨by simpa using h1, by simpa using h2⟩
      · exact .inr ⟨v, u, by simpa using h1, by simpa using h2, h3⟩
theorem owa_at {os : List Ot} {vs : List V} (h : OwA K B s os vs []) (i : Nat) : (os[i]? = none ∧ vs[i]? = none) ∨ ∃ o v, os[i]? = some o ∧ vs[i]? = some v ∧ Ow K B s o v [] := owa_at0 h rfl i
theorem owa_kpm {os : List Ot} {vs : List V} (h : OwA K B s os vs []) : ∀ is : List Nat, OwA K B s (kpm is os) (kpm is vs) []
  | [] => .nil
  | i :: is => by
    unfold kpm
    rcases owa_at h i with ⟨h1, h2⟩ | ⟨v, u, h1, h2, h3⟩
    · rw [h1, h2]; exact owa_kpm h is
    · rw [h1, h2]; exact .cons (f := []) (g := []) h3 (owa_kpm h is)
/-- arguments that are data or lent; what comes back is new -/
def vKwB (is : List Nat) (nk : Nat) (F : FnW) (wk : AW) : EW := fun ρ Φ Ψ => wk ρ (fun ys ρ2 => ∃ os, datS ρ2 ys = some os ∧ ndA ρ2 = true ∧ ys.length = nk ∧ F (kpm is os) (fun o _ => o.sc = true ∧ Φ (.ow o) ρ2) (fun C d _ => scD d = true ∧ Ψ C d ρ2)) Ψ
/-- .. or data alone -/
def vKwX (is : List Nat) (nk : Nat) (F : FnW) (wk : AW) : EW := fun ρ Φ Ψ => wk ρ (fun ys ρ2 => ∃ os, datS [] ys = some os ∧ ys.length = nk ∧ F (kpm is os) (fun o _ => Φ (.ow o) ρ2) (fun C d _ => Ψ C d ρ2)) Ψ
def vMethKwB (C : Addr) (mt : Str) (is : List Nat) (nk : Nat) (F : FnW) (w : DW) (wk : AW) : EW := fun ρ Φ Ψ => w ρ (fun x ρ1 => ∃ fs, x = .ins C fs ∧ fs.lookup mt = none ∧ wk ρ1 (fun ys ρ2 => ∃ os, datS ρ2 ys = some os ∧ ndA ρ2 = true ∧ ys.length = nk ∧
  F (kpm is (.fz x :: os)) (fun o _ => o.sc = true ∧ Φ (.ow o) ρ2) (fun C d _ => scD d = true ∧ Ψ C d ρ2)) Ψ) Ψ
def vMethKwX (C : Addr) (mt : Str) (is : List Nat) (nk : Nat) (F : FnW) (w : DW) (wk : AW) : EW := fun ρ Φ Ψ => w ρ (fun x ρ1 => ∃ fs, x = .ins C fs ∧ fs.lookup mt = none ∧ wk ρ1 (fun ys ρ2 => ∃ os, datS [] ys = some os ∧ ys.length = nk ∧
  F (kpm is (.fz x :: os)) (fun o _ => Φ (.ow o) ρ2) (fun C d _ => Ψ C d ρ2)) Ψ) Ψ
def vKwQ (is : List Nat) (nk : Nat) (F : FnW) (wk : AW) : EW := fun ρ Φ Ψ => wk ρ (fun ys ρ2 => ∃ os, datS [] ys = some os ∧ ys.length = nk ∧ F (kpm is os) (fun o _ => Φ (.ow o) ρ2) noX) Ψ
def vMethKwQ (C : Addr) (mt : Str) (is : List Nat) (nk : Nat) (F : FnW) (w : DW) (wk : AW) : EW := fun ρ Φ Ψ => w ρ (fun x ρ1 => ∃ fs, x = .ins C fs ∧ fs.lookup mt = none ∧ wk ρ1 (fun ys ρ2 => ∃ os, datS [] ys = some os ∧ ys.length = nk ∧
  F (kpm is (.fz x :: os)) (fun o _ => Φ (.ow o) ρ2) noX) Ψ) Ψ
def vKwB0 (is : List Nat) (nk : Nat) (F : FnW) (wk : AW) : EW := fun ρ Φ Ψ => wk ρ (fun ys ρ2 => ∃ os, datS ρ2 ys = some os ∧ ndA ρ2 = true ∧ ys.length = nk ∧ F (kpm is os) (fun o _ => o.sc = true ∧ Φ (.ow o) ρ2) noX) Ψ
def vMethKwB0 (C : Addr) (mt : Str) (is : List Nat) (nk : Nat) (F : FnW) (w : DW) (wk : AW) : EW := fun ρ Φ Ψ => w ρ (fun x ρ1 => ∃ fs, x = .ins C fs ∧ fs.lookup mt = none ∧ wk ρ1 (fun ys ρ2 => ∃ os, datS ρ2 ys = some os ∧ ndA ρ2 = true ∧ ys.length = nk ∧
  F (kpm is (.fz x :: os)) (fun o _ => o.sc = true ∧ Φ (.ow o) ρ2) noX) Ψ) Ψ
def vMethB0 (C : Addr) (mt : Str) (F : FnW) (w : DW) (wa : AW) : EW := fun ρ Φ Ψ => w ρ (fun x ρ1 => ∃ fs, x = .ins C fs ∧ fs.lookup mt = none ∧ wa ρ1 (fun xs ρ2 => ∃ os, datS ρ2 xs = some os ∧ ndA ρ2 = true ∧ F (.fz x :: os) (fun o _ => o.sc = true ∧ Φ (.ow o) ρ2) noX) Ψ) Ψ
end
section
variable {ρ : List Ot} {Ψ : XW} {Φv : Vl → List Ot → Prop} {C : Addr} {mt : Str} {F : FnW} {is : List Nat} {nk : Nat} {w : DW} {wk : AW}
theorem g_kwB (h : wk ρ (fun ys ρ2 => ∃ os, datS ρ2 ys = some os ∧ ndA ρ2 = true ∧ ys.length = nk ∧ F (kpm is os) (fun o _ => o.sc = true ∧ Φv (.ow o) ρ2) (fun C d _ => scD d = true ∧ Ψ C d ρ2)) Ψ) : vKwB is nk F wk ρ Φv Ψ := h
theorem g_kwX (h : wk ρ (fun ys ρ2 => ∃ os, datS [] ys = some os ∧ ys.length = nk ∧ F (kpm is os) (fun o _ => Φv (.ow o) ρ2) (fun C d _ => Ψ C d ρ2)) Ψ) : vKwX is nk F wk ρ Φv Ψ := h
theorem g_methKwB (h : w ρ (fun x ρ1 => ∃ fs, x = .ins C fs ∧ fs.lookup mt = none ∧ wk ρ1 (fun ys ρ2 => ∃ os, datS ρ2 ys = some os ∧ ndA ρ2 = true ∧ ys.length = nk ∧ F (kpm is (.fz x :: os)) (fun o _ => o.sc = true ∧ Φv (.ow o) ρ2) (fun C d _ => scD d = true ∧ Ψ C d ρ2)) Ψ) Ψ) : vMethKwB C mt is nk F w wk ρ Φv Ψ := h
theorem g_methKwX (h : w ρ (fun x ρ1 => ∃ fs, x = .ins C fs ∧ fs.lookup mt = none ∧ wk ρ1 (fun ys ρ2 => ∃ os, datS [] ys = some os ∧ ys.length = nk ∧ F (kpm is (.fz x :: os)) (fun o _ => Φv (.ow o) ρ2) (fun C d _ => Ψ C d ρ2)) Ψ) Ψ) : vMethKwX C mt is nk F w wk ρ Φv Ψ := h
theorem g_kwQ (h : wk ρ (fun ys ρ2 => ∃ os, datS [] ys = some os ∧ ys.length = nk ∧ F (kpm is os) (fun o _ => Φv (.ow o) ρ2) noX) Ψ) : vKwQ is nk F wk ρ Φv Ψ := h
theorem g_methKwQ (h : w ρ (fun x ρ1 => ∃ fs, x = .ins C fs ∧ fs.lookup mt = none ∧ wk ρ1 (fun ys ρ2 => ∃ os, datS [] ys = some os ∧ ys.length = nk ∧ F (kpm is (.fz x :: os)) (fun o _ => Φv (.ow o) ρ2) noX) Ψ) Ψ) : vMethKwQ C mt is nk F w wk ρ Φv Ψ := h
theorem g_kwB0 (h : wk ρ (fun ys ρ2 => ∃ os, datS ρ2 ys = some os ∧ ndA ρ2 = true ∧ ys.length = nk ∧ F (kpm is os) (fun o _ => o.sc = true ∧ Φv (.ow o) ρ2) noX) Ψ) : vKwB0 is nk F wk ρ Φv Ψ := h
theorem g_methKwB0 (h : w ρ (fun x ρ1 => ∃ fs, x = .ins C fs ∧ fs.lookup mt = none ∧ wk ρ1 (fun ys ρ2 => ∃ os, datS ρ2 ys = some os ∧ ndA ρ2 = true ∧ ys.length = nk ∧ F (kpm is (.fz x :: os)) (fun o _ => o.sc = true ∧ Φv (.ow o) ρ2) noX) Ψ) Ψ) : vMethKwB0 C mt is nk F w wk ρ Φv Ψ := h
theorem g_methB0 {wa : AW} (h : w ρ (fun x ρ1 => ∃ fs, x = .ins C fs ∧ fs.lookup mt = none ∧ wa ρ1 (fun xs ρ2 => ∃ os, datS ρ2 xs = some os ∧ ndA ρ2 = true ∧ F (.fz x :: os) (fun o _ => o.sc = true ∧ Φv (.ow o) ρ2) noX) Ψ) Ψ) : vMethB0 C mt F w wa ρ Φv Ψ := h
theorem e_datL {xs : List Vl} {os : List Ot} {A : Prop} {M : List Ot → Prop} (e : DatE ρ xs os) (nd : NdE ρ) (hl : A) (h : M os) : ∃ os, datS ρ xs = some os ∧ ndA ρ = true ∧ A ∧ M os := ⟨os, e.eq, nd.eq, hl, h⟩
theorem e_datQ {xs : List Vl} {os : List Ot} {A : Prop} {M : List Ot → Prop} (e : DatE [] xs os) (hl : A) (h : M os) : ∃ os, datS [] xs = some os ∧ A ∧ M os := ⟨os, e.eq, hl, h⟩
end
section
variable {A : Prop} {b : Bool} {i : Int} {x : Str}
theorem sc_bl (h : A) : scD (.bl b) = true ∧ A := ⟨rfl, h⟩
theorem sc_int (h : A) : scD (.int i) = true ∧ A := ⟨rfl, h⟩
theorem sc_str (h : A) : scD (.str x) = true ∧ A := ⟨rfl, h⟩
theorem sc_non (h : A) : scD .non = true ∧ A := ⟨rfl, h⟩
theorem so_bl (h : A) : (Ot.fz (.bl b)).sc = true ∧ A := ⟨rfl, h⟩
theorem so_int (h : A) : (Ot.fz (.int i)).sc = true ∧ A := ⟨rfl, h⟩
theorem so_str (h : A) : (Ot.fz (.str x)).sc = true ∧ A := ⟨rfl, h⟩
theorem so_non (h : A) : (Ot.fz .non).sc = true ∧ A := ⟨rfl, h⟩
end
end Vc
namespace Vc
open PySem PySem.Spec PyProof.Rows L2 Sx
theorem cutG_drop {α : Type} (l : List α) (i : Nat) : cutG l (some (i : Int)) none = l.drop i := by
  unfold cutG
  rw [HT.sIx_nat]
  show (l.drop (min i l.length)).take (l.length - min i l.length) = _
  rw [List.take_of_length_le (by rw [List.length_drop]; omega)]
  by_cases h : i ≤ l.length
  · rw [Nat.min_eq_left h]
  · rw [Nat.min_eq_right (by omega), List.drop_of_length_le (Nat.le_refl _), List.drop_of_length_le (by omega)]
theorem cutG_perm {α : Type} (l : List α) {n : Int} (h : 0 ≤ n) : (cutG l (some n) none ++ cutG l none (some n)).Perm l := by
  obtain ⟨i, rfl⟩ := Int.eq_ofNat_of_zero_le h
  rw [cutG_drop, cutG_take]
  exact List.perm_append_comm.trans (by rw [List.take_append_drop])
end Vc
namespace Vc
open PySem PySem.Spec PyProof.Rows L2 Sx
section
variable {S : SrcRep} {K : PySem.W.Frag} {W : WX} {s s' : Option Addr} {ρ : List Ot} {σ : L2.St} {B : Hp} {b b1 b2 : Bool} {c c1 c2 : Nat} {ta tb : TE}
theorem rpa_rg (a : Int) : ∀ l : List Nat, RpA K B (l.map fun k : Nat => V.int (a + (k : Int))) (l.map fun k : Nat => Dt.int (a + (k : Int)))
  | [] => .nil
  | k :: l => .cons (.int _) (rpa_rg a l)
theorem rg_ok {a z : Int} (h : -(2 ^ 62) ≤ a ∧ a < 2 ^ 62 ∧ -(2 ^ 62) ≤ z ∧ z < 2 ^ 62) (hn : (z - a).toNat ≤ 1000000) : RgOk a z := ⟨h.1, h.2.1, h.2.2.1, h.2.2.2, Nat.le_trans hn (by decide)⟩
abbrev rgB (i j : Int) : Prop := (-(2 ^ 62) ≤ i ∧ i < 2 ^ 62 ∧ -(2 ^ 62) ≤ j ∧ j < 2 ^ 62) ∧ (j - i).toNat ≤ 1000000
def dLrg2 (wa wb : DW) : DW := fun ρ Φ Ψ => wa ρ (fun x ρ1 => wb ρ1 (fun y ρ2 => ∃ i j, x = .int i ∧ y = .int j ∧ rgB i j ∧ Φ (.lst (rngD i (j - i).toNat)) ρ2) Ψ) Ψ
def vLrg2 (wa wb : DW) : EW := fun ρ Φ Ψ => wa ρ (fun x ρ1 => wb ρ1 (fun y ρ2 => ∃ i j, x = .int i ∧ y = .int j ∧ rgB i j ∧ Φ (.ow (.lst ((rngD i (j - i).toNat).map .fz))) ρ2) Ψ) Ψ
def dLrg1 (wa : DW) : DW := fun ρ Φ Ψ => wa ρ (fun x ρ1 => ∃ j, x = .int j ∧ rgB 0 j ∧ Φ (.lst (rngD 0 j.toNat)) ρ1) Ψ
def vLrg1 (wa : DW) : EW := fun ρ Φ Ψ => wa ρ (fun x ρ1 => ∃ j, x = .int j ∧ rgB 0 j ∧ Φ (.ow (.lst ((rngD 0 j.toNat).map .fz))) ρ1) Ψ
theorem v_lrg1 {wa : DW} (ha : VD S K W b1 c1 ta wa) : VE S K W b1 c1 (tLstRg (tRg1 ta)) (vLrg1 wa) := by
  intro s ρ Φ Ψ Fr B σ H fp n m Q hw st hn hm k kx
  refine ha hw st (by omega) hm (fun x ρ1 v B1 H1 fp1 g n1 q l ln r st1 e1 => ?_) kx
  obtain ⟨r, rfl⟩ := r
  obtain ⟨j, rfl, ok, q⟩ := q
  cases r
  refine ⟨j, rfl, rg_ok ok.1 ok.2, fun p hp => ?_⟩
  have st3 := Sr.new (g := []) (Fr := Fr) st1 hp (.lst (rgV 0 j))
  refine k _ ρ1 _ B1 _ fp1 [(p, .lst (rgV 0 j))] n1 q l (by omega) (.lst (f := []) (rpa_ow ?_)) st3 e1
  have := rpa_rg (K := K) (B := B1) 0 (List.range (j - 0).toNat)
  rw [Int.sub_zero] at this
  unfold rgV
  rw [Int.sub_zero]
  exact this
end
section
variable {ρ : List Ot} {Ψ : XW} {Φ : Dt → List Ot → Prop} {Φv : Vl → List Ot → Prop} {wa wb : DW}
theorem g_lrg2 (h : wa ρ (fun x ρ1 => wb ρ1 (fun y ρ2 => ∃ i j, x = .int i ∧ y = .int j ∧ rgB i j ∧ Φ (.lst (rngD i (j - i).toNat)) ρ2) Ψ) Ψ) : dLrg2 wa wb ρ Φ Ψ := h
theorem g_vlrg2 (h : wa ρ (fun x ρ1 => wb ρ1 (fun y ρ2 => ∃ i j, x = .int i ∧ y = .int j ∧ rgB i j ∧ Φv (.ow (.lst ((rngD i (j - i).toNat).map .fz))) ρ2) Ψ) Ψ) : vLrg2 wa wb ρ Φv Ψ := h
theorem g_lrg1 (h : wa ρ (fun x ρ1 => ∃ j, x = .int j ∧ rgB 0 j ∧ Φ (.lst (rngD 0 j.toNat)) ρ1) Ψ) : dLrg1 wa ρ Φ Ψ := h
theorem g_vlrg1 (h : wa ρ (fun x ρ1 => ∃ j, x = .int j ∧ rgB 0 j ∧ Φv (.ow (.lst ((rngD 0 j.toNat).map .fz))) ρ1) Ψ) : vLrg1 wa ρ Φv Ψ := h
theorem e_lrg2 {x y : Int} {M : Int → Int → Prop} (h : rgB x y) (q : M x y) : ∃ i j, Dt.int x = .int i ∧ Dt.int y = .int j ∧ rgB i j ∧ M i j := ⟨x, y, rfl, rfl, h, q⟩
theorem e_lrg1 {x : Int} {M : Int → Prop} (h : rgB 0 x) (q : M x) : ∃ j, Dt.int x = .int j ∧ rgB 0 j ∧ M j := ⟨x, rfl, h, q⟩
end
theorem e_setW {ρ : List Ot} {i : Nat} {es : List Dt} {M : List Dt → List Ot → Prop} (h : ∃ os, ρ[i]? = some (.lst os) ∧ M es os) : ∃ ds os, Dt.lst es = .lst ds ∧ ρ[i]? = some (.lst os) ∧ M ds os := by
  obtain ⟨os, h1, h2⟩ := h
  exact ⟨es, os, rfl, h1, h2⟩
section
variable {K : PySem.W.Frag} {P : Dt → Prop}
def fNeB : Fd := fun x y Φ => ∃ i j : Bool, x = .bl i ∧ y = .bl j ∧ Φ (.bl (!decide (i = j)))
theorem g_neB {i j : Bool} (q : P (.bl (!decide (i = j)))) : fNeB (.bl i) (.bl j) P := ⟨i, j, rfl, rfl, q⟩
end
end Vc
namespace L2
open PySem PySem.Spec PyProof.Rows
end L2
namespace Vc
open PySem PySem.Spec PyProof.Rows L2 Sx
section
variable {S : SrcRep} {K : PySem.W.Frag} {W : WX} {pn : Nat → Bool} {s s' : Option Addr} {ρ ρ' : List Ot} {σ σ' : L2.St} {B B' H H' : Hp} {Fr fp fp' : Fp} {n n' N N' : Nat} {b b1 g1 g2 : Bool} {c c1 c2 : Nat} {te : TE} {i : Nat} {E : EdV} {D : Ends}
/-- the caught exception's value -/
def dXv (a : Addr) (cls : Value) (d : Option Addr) (L : List Addr) (w : DW) : DW := fun ρ Φ Ψ => w ρ (fun x ρ1 => ∃ C dd d0, x = .exn a C dd d0 ∧ cls = .ref C ∧ d = some dd ∧ C ∈ L ∧ Φ d0 ρ1) Ψ
structure ClV where
  c : Addr
  nm : Option Nat
  w : Addr → Value → Option Addr → SW
def EdV.gone (i : Nat) (E : EdV) : EdV := { nx := fun ρ => E.nx (ρ.set i .no), rt := E.rt, xc := fun _ _ _ => False, bk := fun ρ => E.bk (ρ.set i .no), ct := fun ρ => E.ct (ρ.set i .no) }
def tryN (K : PySem.W.Frag) (pn : Nat → Bool) (E : EdV) : List ClV → XW
  | [], C, d, ρ' => E.xc C d ρ'
  | cl :: r, C, d, ρ' => ∃ b, PySem.W.exmOne K (.ref C) (.ref cl.c) = some b ∧ (b = true → ∀ a dd, match cl.nm with
    | none => cl.w a (.ref C) (some dd) ρ' { E with xc := fun _ _ _ => False }
    | some i => pn i = false ∧ i < ρ'.length ∧ cl.w a (.ref C) (some dd) (ρ'.set i (.fz (.exn a C dd d))) (E.gone i)) ∧ (b = false → tryN K pn E r C d ρ')
def sTryN (K : PySem.W.Frag) (pn : Nat → Bool) (cl : List ClV) (wb : SW) : SW := fun ρ E => wb ρ { E with xc := tryN K pn E cl }
end
section
variable {K : PySem.W.Frag} {pn : Nat → Bool} {ρ : List Ot} {nx bk ct : List Ot → Prop} {rt : Ot → List Ot → Prop} {xc Ψ : XW} {Φ : Dt → List Ot → Prop} {i : Nat} {a : Addr} {cls : Value} {d : Option Addr} {L : List Addr}
theorem g_tryN {cl : List ClV} {wb : SW} (h : wb ρ ⟨nx, rt, tryN K pn ⟨nx, rt, xc, bk, ct⟩ cl, bk, ct⟩) : sTryN K pn cl wb ρ ⟨nx, rt, xc, bk, ct⟩ := h
theorem g_xv {w : DW} (h : w ρ (fun x ρ1 => ∃ C dd d0, x = .exn a C dd d0 ∧ cls = .ref C ∧ d = some dd ∧ C ∈ L ∧ Φ d0 ρ1) Ψ) : dXv a cls d L w ρ Φ Ψ := h
theorem e_xv {C dd : Addr} {d0 : Dt} {M : Dt → Prop} (hC : C ∈ L) (h : M d0) : ∃ C' dd' d0', Dt.exn a C dd d0 = .exn a C' dd' d0' ∧ Value.ref C = .ref C' ∧ some dd = some dd' ∧ C' ∈ L ∧ M d0' := ⟨C, dd, d0, rfl, rfl, rfl, hC, h⟩
end
end Vc
namespace Vc
open PySem PySem.Spec PyProof.Rows L2 Sx
section
variable {S : SrcRep} {K : PySem.W.Frag} {W : WX} {pn : Nat → Bool} {s s' : Option Addr} {ρ ρ' : List Ot} {σ σ' : L2.St} {B B' H H' : Hp} {Fr fp fp' g : Fp} {n n' : Nat} {b b1 g1 : Bool} {c c1 : Nat} {te : TE} {i : Nat} {E : EdV} {D : Ends}
def vMv (i : Nat) : EW := fun ρ Φ _ => ∃ o, ρ[i]? = some o ∧ o.isNo = false ∧ Φ (.ow o) (ρ.set i .no)
theorem v_mv {i : Nat} : VE S K W false 0 (tVar i) (vMv i) := by
  intro s ρ Φ Ψ Fr B σ H fp n m Q hw st hn hm k kx
  obtain ⟨o, e, hno, q⟩ := hw
  obtain ⟨v, g, r1, r2, h1, h2, h3, h4, h5⟩ := st.en.at_ e hno
  obtain ⟨kk, fp', ow, st2⟩ := Sr.take st e hno h1
  exact ⟨v, h1, k _ _ v B H fp' kk n q (Le.refl B) (by omega) ow st2 fun z => by cases z⟩
def putO (pn : Nat → Bool) : List Nat → List Ot → List Ot → (List Ot → Prop) → Prop
  | [], [], ρ, N => N ρ
  | i :: is, o :: os, ρ, N => pn i = false ∧ i < ρ.length ∧ putO pn is os (ρ.set i o) N
  | _, _, _, _ => False
def sAsgU (pn : Nat → Bool) (is : List Nat) (w : EW) : SW := fun ρ E => w ρ (fun x ρ1 => ∃ os, x = .ow (.tup os) ∧ putO pn is os ρ1 E.nx) E.xc
end
section
variable {ρ : List Ot} {nx bk ct : List Ot → Prop} {rt : Ot → List Ot → Prop} {xc Ψ : XW} {i : Nat} {Φv : Vl → List Ot → Prop} {pn : Nat → Bool}
theorem h_mv {o : Ot} (e : ρ[i]? = some o) (hn : o.isNo = false) (h : stN i .no ρ fun ρ' => Φv (.ow o) ρ') : vMv i ρ Φv Ψ := ⟨o, e, hn, h⟩
def putE (pn : Nat → Bool) : List Nat → List Ot → List Ot → (List Ot → Prop) → Prop
  | [], [], ρ, N => N ρ
  | i :: is, o :: os, ρ, N => pn i = false ∧ stE i o ρ fun ρ' => putE pn is os ρ' N
  | _, _, _, _ => False
theorem putE_ok : ∀ {is : List Nat} {os ρ : List Ot} {N : List Ot → Prop}, putE pn is os ρ N → putO pn is os ρ N
  | [], [], _, _, h => h
  | _ :: is, _ :: os, _, _, h => ⟨h.1, h.2.1, putE_ok h.2.2⟩
  | [], _ :: _, _, _, h => h.elim
  | _ :: _, [], _, _, h => h.elim
theorem h_asgU {is : List Nat} {w : EW} (h : w ρ (fun x ρ1 => ∃ os, x = .ow (.tup os) ∧ putO pn is os ρ1 nx) xc) : sAsgU pn is w ρ ⟨nx, rt, xc, bk, ct⟩ := h
theorem e_asgU {is : List Nat} {os : List Ot} {N : List Ot → Prop} (h : putE pn is os ρ N) : ∃ os', Vl.ow (.tup os) = .ow (.tup os') ∧ putO pn is os' ρ N := ⟨os, rfl, putE_ok h⟩
theorem e_puc {i : Nat} {is : List Nat} {o : Ot} {os : List Ot} {N : List Ot → Prop} (hp : pn i = false) (h : stE i o ρ fun ρ' => putE pn is os ρ' N) : putE pn (i :: is) (o :: os) ρ N := ⟨hp, h⟩
theorem e_pun {N : List Ot → Prop} (h : N ρ) : putE pn [] [] ρ N := h
end
end Vc
namespace Vc
open PySem PySem.Spec PyProof.Rows L2 Sx
section
variable {S : SrcRep} {K : PySem.W.Frag} {W : WX} {b : Bool} {c : Nat} {te : TE} {ρ : List Ot} {Φ : Dt → List Ot → Prop} {Ψ : XW} {P : Dt → Prop}
def fDivW : Fd := fun x y Φ => ∃ i j, x = .int i ∧ y = .int j ∧ 0 < j ∧ j ≤ 1000000000000000000000000000000000000000000000000000000000000000000000000000000000000000000 ∧ Φ (.int (i / j))
theorem divW_ok {i j : Int} (h0 : 0 < j) (h1 : j ≤ 1000000000000000000000000000000000000000000000000000000000000000000000000000000000000000000) : CDivW i j := by
  refine ⟨h0, Nat.lt_of_lt_of_le ((Nat.log2_lt (by omega)).mpr (show j.natAbs < 2 ^ 300 from ?_)) (by decide)⟩
  have : j.natAbs ≤ 1000000000000000000000000000000000000000000000000000000000000000000000000000000000000000000 := by omega
  exact Nat.lt_of_le_of_lt this (by decide)
theorem lf_divW : Lf K (rI CDivW fun i j => .int (i / j)) fDivW := fun x y Φ ⟨i, j, e1, e2, h, h2, q⟩ => by subst e1 e2; exact r_CI (divW_ok h h2) ⟨_, rfl, rfl, q⟩
theorem g_divW {x y : Int} (h : 0 < y) (h2 : y ≤ 1000000000000000000000000000000000000000000000000000000000000000000000000000000000000000000) (q : P (.int (x / y))) : fDivW (.int x) (.int y) P := ⟨x, y, rfl, rfl, h, h2, q⟩
def dUpper (w : DW) : DW := fun ρ Φ Ψ => w ρ (fun d ρ1 => ∃ z : Str, d = .str z ∧ z.length ≤ 1000000 ∧ Φ (.str (Txt.upper z)) ρ1) Ψ
theorem g_upper {w : DW} (h : w ρ (fun d ρ1 => ∃ z : Str, d = .str z ∧ z.length ≤ 1000000 ∧ Φ (.str (Txt.upper z)) ρ1) Ψ) : dUpper w ρ Φ Ψ := h
theorem e_upper {x : Str} {M : Str → Prop} (hx : x.length ≤ 1000000) (h : M x) : ∃ z : Str, Dt.str x = .str z ∧ z.length ≤ 1000000 ∧ M z := ⟨x, rfl, hx, h⟩
def dRevT (w : DW) : DW := fun ρ Φ Ψ => w ρ (fun d ρ1 => ∃ z : Str, d = .str z ∧ z.length ≤ 1000000 ∧ ∀ y : Str, y.length ≤ z.length → Φ (.str y) ρ1) Ψ
theorem g_revT {w : DW} (h : w ρ (fun d ρ1 => ∃ z : Str, d = .str z ∧ z.length ≤ 1000000 ∧ ∀ y : Str, y.length ≤ z.length → Φ (.str y) ρ1) Ψ) : dRevT w ρ Φ Ψ := h
theorem e_revT {x : Str} {M : Str → Str → Prop} (hx : x.length ≤ 1000000) (h : ∀ y : Str, y.length ≤ x.length → M x y) : ∃ z : Str, Dt.str x = .str z ∧ z.length ≤ 1000000 ∧ ∀ y : Str, y.length ≤ z.length → M z y := ⟨x, rfl, hx, h⟩
end
section
variable {S : SrcRep} {K : PySem.W.Frag} {W : WX} {pn : Nat → Bool} {g : Bool} {c : Nat} {t : TS} {i : Nat}
def sFrz (i : Nat) (w : SW) : SW := fun ρ E => ∃ o d, ρ[i]? = some o ∧ toD o = some d ∧ w (ρ.set i (.fz d)) E
theorem s_frz {w : SW} (h : VS S K W pn g c t w) : VS S K W pn g c t (sFrz i w) := by
  intro s ρ E Fr B σ H fp n D hq st hn e
  obtain ⟨o, d, e1, e2, hq⟩ := hq
  obtain ⟨v, g0, r1, r2, h1, h2, h3, _⟩ := st.en.at_ e1 (toD_no e2)
  obtain ⟨B', fp', l, rp, st'⟩ := st.fzSlot e1 e2 h1
  exact h hq st' hn (e.from (g1 := g) (g2 := g) (N' := n) ⟨l, Nat.le_refl _, fun _ => rfl, fun _ _ => rfl, st'⟩ (Nat.le_refl _) (fun z => ⟨z, z⟩) (Nat.le_add_right _ _))
variable {ρ : List Ot} {E : EdV}
theorem g_frz {w : SW} {os : List Ot} {ds : List Dt} (e : ρ[i]? = some (.lst os)) (f : FzL os ds) (h : stN i (.fz (.lst ds)) ρ fun ρ' => w ρ' E) : sFrz i w ρ E := by
  have f := f.eq
  subst f
  exact ⟨_, _, e, by simp [toD, toDs_fz], h⟩
end
end Vc
namespace Vc
open PySem PySem.Spec PyProof.Rows L2 Sx
mutual
inductive Pl : Nat → V → Fp → Prop
  | non {n : Nat} : Pl n .non []
  | bl {n : Nat} (b : Bool) : Pl n (.bl b) []
  | int {n : Nat} (i : Int) : Pl n (.int i) []
  | str {n : Nat} (x : Str) : Pl n (.str x) []
  | lst {n : Nat} {a : Addr} {vs : List V} {f : Fp} : PlA n vs f → Pl (n + 1) (.ref a) ((a, .lst vs) :: f)
  | tup {n : Nat} {a : Addr} {vs : List V} {f : Fp} : PlA n vs f → Pl (n + 1) (.ref a) ((a, .tup vs) :: f)
inductive PlA : Nat → List V → Fp → Prop
  | nil {n : Nat} : PlA n [] []
  | cons {n : Nat} {v : V} {vs : List V} {f g : Fp} : Pl n v f → PlA n vs g → PlA n (v :: vs) (f ++ g)
end
def plD : Dt → Bool
  | .non => true
  | .bl _ => true
  | .int _ => true
  | .str _ => true
  | _ => false
mutual
inductive PlO : Nat → Ot → Prop
  | fz {n : Nat} {d : Dt} : plD d = true → PlO n (.fz d)
  | lst {n : Nat} {os : List Ot} : PlOA n os → PlO (n + 1) (.lst os)
  | tup {n : Nat} {os : List Ot} : PlOA n os → PlO (n + 1) (.tup os)
inductive PlOA : Nat → List Ot → Prop
  | nil {n : Nat} : PlOA n []
  | cons {n : Nat} {o : Ot} {os : List Ot} : PlO n o → PlOA n os → PlOA n (o :: os)
end
theorem PlOA.of {n : Nat} : ∀ {os : List Ot}, (∀ o ∈ os, PlO n o) → PlOA n os
  | [], _ => .nil
  | _ :: _, h => .cons (h _ List.mem_cons_self) (PlOA.of fun o ho => h o (List.mem_cons_of_mem _ ho))
section
variable {S : SrcRep} {K : PySem.W.Frag} {W : WX} {pn : Nat → Bool} {s s' : Option Addr} {ρ ρ' : List Ot} {σ σ' : L2.St} {B B' H H' : Hp} {Fr fp fp' g : Fp} {n n' N N' : Nat} {b b1 b2 b3 g1 : Bool} {c c1 c2 c3 : Nat} {te ta tb tc : TE} {t : TS} {i j : Nat} {o : Ot}
mutual
theorem Ow.pl : ∀ {n : Nat} {o : Ot} {v : V} {f : Fp}, Ow K B s o v f → PlO n o → Pl n v f
  | _, _, _, _, .fz (d := d) r, h => by
    cases h with
    | fz h =>
      cases d with
      | non => cases r; exact .non
      | bl b => cases r; exact .bl b
      | int b => cases r; exact .int b
      | str b => cases r; exact .str b
      | _ => cases h
  | _, _, _, _, .lst w, .lst h => .lst (OwA.pl w h)
  | _, _, _, _, .tup w, .tup h => .tup (OwA.pl w h)
theorem OwA.pl : ∀ {n : Nat} {os : List Ot} {vs : List V} {f : Fp}, OwA K B s os vs f → PlOA n os → PlA n vs f
  | _, _, _, _, .nil, _ => .nil
  | _, _, _, _, .cons a t, .cons h1 h2 => .cons (Ow.pl a h1) (OwA.pl t h2)
end
mutual
theorem Pl.ok : ∀ {n : Nat} {v : V} {f : Fp}, Pl n v f → hpOk true f
  | _, _, _, .non => fun _ h => by cases h
  | _, _, _, .bl _ => fun _ h => by cases h
  | _, _, _, .int _ => fun _ h => by cases h
  | _, _, _, .str _ => fun _ h => by cases h
  | _, _, _, .lst w => fun p h => by
    rcases List.mem_cons.mp h with rfl | h
    · exact ⟨fun _ z => (nomatch z), fun _ z => z⟩
    · exact PlA.ok w p h
  | _, _, _, .tup w => fun p h => by
    rcases List.mem_cons.mp h with rfl | h
    · exact ⟨fun _ z => (nomatch z), fun _ z => z⟩
    · exact PlA.ok w p h
theorem PlA.ok : ∀ {n : Nat} {vs : List V} {f : Fp}, PlA n vs f → hpOk true f
  | _, _, _, .nil => fun _ h => by cases h
  | _, _, _, .cons a t => fun p h => by
    rcases List.mem_append.mp h with h | h
    · exact Pl.ok a p h
    · exact PlA.ok t p h
end
mutual
theorem Pl.dp : ∀ {n : Nat} {v : V} {f : Fp}, Pl n v f → (∀ p ∈ f, H p.1 = some p.2) → ∃ d : PyData, Dp K H v d ∧ PyData.plain d = true ∧ d.depth ≤ n
  | _, _, _, .non, _ => ⟨_, .non, rfl, Nat.zero_le _⟩
  | _, _, _, .bl b, _ => ⟨_, .bl b, rfl, Nat.zero_le _⟩
  | _, _, _, .int b, _ => ⟨_, .int b, rfl, Nat.zero_le _⟩
  | _, _, _, .str b, _ => ⟨_, .str b, rfl, Nat.zero_le _⟩
  | _, _, _, .lst w, h => by
    obtain ⟨ps, h1, h2, h3⟩ := PlA.dp w fun p hp => h p (List.mem_cons_of_mem _ hp)
    exact ⟨.list ps, .lst (SqL.of (h _ List.mem_cons_self)) h1, by rw [PyData.plain]; exact h2, by rw [PyData.depth]; omega⟩
  | _, _, _, .tup w, h => by
    obtain ⟨ps, h1, h2, h3⟩ := PlA.dp w fun p hp => h p (List.mem_cons_of_mem _ hp)
    exact ⟨.tuple ps, .tup (SqT.of (h _ List.mem_cons_self)) h1, by rw [PyData.plain]; exact h2, by rw [PyData.depth]; omega⟩
theorem PlA.dp : ∀ {n : Nat} {vs : List V} {f : Fp}, PlA n vs f → (∀ p ∈ f, H p.1 = some p.2) → ∃ ds : List PyData, DpAll K H vs ds ∧ PyData.plainAll ds = true ∧ PyData.depthAll ds ≤ n
  | _, _, _, .nil, _ => ⟨[], .nil, rfl, Nat.zero_le _⟩
  | _, _, _, .cons a t, h => by
    obtain ⟨d, h1, h2, h3⟩ := Pl.dp a fun p hp => h p (List.mem_append_left _ hp)
    obtain ⟨ds, g1, g2, g3⟩ := PlA.dp t fun p hp => h p (List.mem_append_right _ hp)
    exact ⟨d :: ds, .cons h1 g1, by rw [PyData.plainAll, h2, g2]; rfl, by rw [PyData.depthAll]; exact Nat.max_le.mpr ⟨h3, g3⟩⟩
end
/-- the type's name of a value among the objects -/
inductive Twk (f : Fp) : V → String → Prop
  | non : Twk f .non "NoneType"
  | bl (b : Bool) : Twk f (.bl b) "bool"
  | int (i : Int) : Twk f (.int i) "int"
  | str (x : Str) : Twk f (.str x) "str"
  | lst {a : Addr} {vs : List V} : (a, HO.lst vs) ∈ f → Twk f (.ref a) "list"
  | tup {a : Addr} {vs : List V} : (a, HO.tup vs) ∈ f → Twk f (.ref a) "tuple"
theorem Twk.ty {f : Fp} (h : ∀ p ∈ f, H p.1 = some p.2) : ∀ {v : V} {x : String}, Twk f v x → TyX K H v (.type x)
  | _, _, .non => .base .non
  | _, _, .bl b => .base (.bl b)
  | _, _, .int i => .base (.int i)
  | _, _, .str i => .base (.str i)
  | _, _, .lst m => .base (.lst (h _ m))
  | _, _, .tup m => .base (.tup (h _ m))
end
end Vc
namespace L2
open PySem PySem.Spec PyProof.Rows
section
variable {X : Cx} {pos : Pos}
/-- len(x) by an own __len__ -/
def rLenI (C : Addr) (sp : Sp) (E : XK) : List V → Hp → VK → Prop := fun xs H Q => ∃ a dx fs, xs = [.ref a] ∧ H a = some (.ins C dx fs) ∧ sp [.ref a] H (fun v H' => ∃ n : Int, v = .int n ∧ 0 ≤ n ∧ n < 2 ^ 63 ∧ Q (.int n) H') E
theorem call_lenI {CX : CXT} {k : Nat} {C g : Addr} {fd : FuncData} {ps : List Str} {sp : Sp} {E : XK} (m : Meth X.K C "__len__" g) (F : FnOk X.prog X.w X.K X.mg X.base CX k g fd ps sp) (hr : Room (k + 1) X.A) (hb : Binds X.K fd ps []) (hx : Passes CX X E) : CallR X (.builtin "len") (rLenI C sp E) := by
  intro pins s σ H vs us Q I r h
  obtain ⟨a, dx, fs, rfl, ea, h⟩ := h
  cases r with
  | cons r0 r1 =>
  cases r1
  cases (show _ = Value.ref a from r0)
  obtain ⟨mA, O, _, _, _, _⟩ := ins_get I.hok ea
  obtain ⟨od, J, _⟩ := O.look
  obtain ⟨m0, hF⟩ := I.fr
  refine PySem.W.len_K hF I.ok.mod.kin J m.at_ m.fn ?_
  have hl : ([Value.ref a] ++ []).length = ps.length := by
    rw [← F.len _ _ _ _ h]
    rfl
  refine wpAny_call (codeAny_mono (F.run X.A.in1 X.stack s H ⟨[.ref a], []⟩ [.ref a] [.ref a] _ E hr.in1 I.env0.in1 (by have := hb s [.ref a] I.kIn hl; simpa using this) (.cons rfl .nil) h) fun r s' hq => ?_)
  cases r with
  | error er => exact hx pins σ H s er s' I hq
  | ok fl =>
    cases fl with
    | ret u =>
      obtain ⟨v, H', I3, rv, n, rfl, h0, h1, q3⟩ := I.after hq
      obtain ⟨t, rfl⟩ := (show ∃ t, u = .int n t from rv)
      exact ⟨⟨h0, h1⟩, .int n, H', I3.tok _, ⟨_, rfl⟩, q3⟩
    | next => exact False.elim hq
    | brk => exact False.elim hq
    | cont => exact False.elim hq
end
end L2
namespace Vc
open PySem PySem.Spec PyProof.Rows L2 Sx
section
variable {S : SrcRep} {P : Program} {w : World} {mg : Str → Option Value} {base : Heap} {K : PySem.W.Frag} {W : WX} {pn : Nat → Bool} {s s' : Option Addr} {ρ ρ' : List Ot} {σ σ' : L2.St} {B B' H H' : Hp} {Fr fp fp' g G1 G2 : Fp} {n n' N N' : Nat} {b b1 b2 b3 : Bool} {c c1 c2 c3 k j : Nat} {te ta tb tc : TE} {tt : TT} {wi : TI} {aa : TA} {i : Nat} {o : Ot} {C : Addr} {X : Cx} {x : Str} {e : Expr} {es : List Expr} {p pos : Pos} {t : TA} {ps : List Str} {F : FnW}
theorem k_lenI (G : KvR S P w K mg base j c (fun g => Meth K C "__len__" g) ps F) (hr : Room k X.A) (hj : j + 1 ≤ k) (hg : Gl X "len") (hm : X.mg "len" = none) (ha : PA X (e :: es) t)
    (he : starEach (e :: es) X.env = (false, eval e X.env) :: starEach es X.env := by rfl) (hpl : (backTo pos (starEach es X.env)).any (·.1) = false := by rfl)
    (hP : X.prog = P := by rfl) (hw : X.w = w := by rfl) (hK : X.K = K := by rfl) (hm2 : X.mg = mg := by rfl) (hb : X.base = base := by rfl) : PE X (.Call (.Name "len" p) (e :: es) [] pos) (tCB (rLenI C (SpV S K c F) E0) t) := by
  subst hP hw hK hm2 hb
  obtain ⟨g, fd, M, hk, hb, F1⟩ := G
  exact pe_callB (call_lenI M F1 (hr.mono hj) hb passL) hg hm (by decide +kernel) ha (he := he) (hpl := hpl)
def vLenI (C : Addr) (F : FnW) (w : DW) : EW := fun ρ Φ Ψ => w ρ (fun x ρ1 => ∃ fs, x = .ins C fs ∧ F [.fz x] (fun o _ => ∃ n : Int, o = .fz (.int n) ∧ 0 ≤ n ∧ n < 2 ^ 63 ∧ Φ (.ow (.fz (.int n))) ρ1) noX) Ψ
theorem v_lenI {F : FnW} {w : DW} (ha : VD S K W b c1 te w) : VE S K W b (c1 + c2) (tCB (rLenI C (SpV S K c2 F) E0) (tCons te tNil)) (vLenI C F w) := by
  intro s ρ Φ Ψ Fr B σ H fp n m Q hw st hn hm k kx
  refine ha hw st (by omega) hm (fun x ρ1 v B1 H1 fp1 g n1 q l ln r st1 hb => ?_) kx
  obtain ⟨rx, rfl⟩ := r
  obtain ⟨fs, rfl, hF⟩ := q
  have rx' := rx
  cases rx with
  | @ins a _ dx us _ hb1 e1 e2 =>
  have same := st1.same
  obtain ⟨en, sf, asf, hd⟩ := st1
  refine ⟨a, dx, us, rfl, same _ _ hb1, s, B1, fp1 ++ Fr, [], sf, _, n1, _, _, (show OwA K B1 s _ _ ([] ++ []) from .cons (.fz rx') .nil), hF, asf, hd.perm (pmc fun c k ca cc _ c0 => by simp only [ca, c0]; omega), by omega, fun o os' v B' H' kk fps' sf' n' q l2 ln2 w' w2 asf' hd' => ?_, fun _ _ _ _ _ _ _ _ _ _ _ z => z.elim⟩
  obtain ⟨n2, rfl, h0, h1, q⟩ := q
  cases w' with
  | fz rr =>
  cases rr
  refine ⟨n2, rfl, h0, h1, k _ ρ1 (.int n2) B' H' fp1 [] n' q (l.trans l2) (by omega) (.fz (.int n2)) ⟨en.mono l2, sf', asf', Hd.sub (hd'.perm (ch' := fps' ++ (fp1 ++ (sf' ++ ([] ++ Fr)))) (pmc fun c k ca cc _ c0 => by simp only [ca, c0]; omega)) (List.sublist_append_right fps' _)⟩ hb⟩
def decIn {κ : Type} [DecidableEq κ] (k : κ) (ks : List κ) : Decidable (k ∈ ks) := inferInstance
instance (k : List Key) (ks : List (List Key)) : Decidable (k ∈ ks) := decIn k ks
def keyT (y : Dt) (key : List Key) : Prop := ∃ ds, y = .tup ds ∧ keysD ds = some key
def dDinT (neg : Bool) (i : Nat) (w : DW) : DW := fun ρ Φ Ψ => w ρ (fun y ρ1 => ∃ (ks : List (List Key)) (os : List Ot) (key : List Key), ρ1[i]? = some (.dit ks os) ∧ keyT y key ∧ Φ (.bl (if neg then !decide (key ∈ ks) else decide (key ∈ ks))) ρ1) Ψ
/-- {k: v} -/
def vDisp1 (wa wb : DW) : EW := fun ρ Φ Ψ => wa ρ (fun x ρ1 => wb ρ1 (fun y ρ2 => ∃ key, keyT x key ∧ Φ (.ow (.dit [key] [.fz y])) ρ2) Ψ) Ψ
/-- d[k] = v, k is new in it -/
def isT (i : Nat) (ρ : List Ot) : Prop := ∃ ks os, ρ[i]? = some (.dit ks os)
def sSetT (i : Nat) (u : EW) (w : DW) : SW := fun ρ E => u ρ (fun y ρ0 => oneO y ρ0 fun o ρ1 => isT i ρ1 ∧ w ρ1 (fun d ρ2 => ∃ ks os key, ρ2[i]? = some (.dit ks os) ∧ keyT d key ∧ key ∉ ks ∧ ks.length < 1000000 ∧ E.nx (ρ2.set i (.dit (ks ++ [key]) (os ++ [o])))) E.xc) E.xc
end
section
variable {ρ : List Ot} {nx bk ct : List Ot → Prop} {rt : Ot → List Ot → Prop} {xc Ψ : XW} {i : Nat} {Φ : Dt → List Ot → Prop} {Φv : Vl → List Ot → Prop} {C : Addr} {F : FnW} {P : Dt → Prop}
theorem g_lenI {w : DW} (h : w ρ (fun x ρ1 => ∃ fs, x = .ins C fs ∧ F [.fz x] (fun o _ => ∃ n : Int, o = .fz (.int n) ∧ 0 ≤ n ∧ n < 2 ^ 63 ∧ Φv (.ow (.fz (.int n))) ρ1) noX) Ψ) : vLenI C F w ρ Φv Ψ := h
theorem g_dinT {w : DW} (h : w ρ (fun y ρ1 => ∃ (ks : List (List Key)) (os : List Ot) (key : List Key), ρ1[i]? = some (.dit ks os) ∧ keyT y key ∧ Φ (.bl (decide (key ∈ ks))) ρ1) Ψ) : dDinT false i w ρ Φ Ψ := h
theorem g_dninT {w : DW} (h : w ρ (fun y ρ1 => ∃ (ks : List (List Key)) (os : List Ot) (key : List Key), ρ1[i]? = some (.dit ks os) ∧ keyT y key ∧ Φ (.bl (!decide (key ∈ ks))) ρ1) Ψ) : dDinT true i w ρ Φ Ψ := h
theorem g_disp1 {wa wb : DW} (h : wa ρ (fun x ρ1 => wb ρ1 (fun y ρ2 => ∃ key, keyT x key ∧ Φv (.ow (.dit [key] [.fz y])) ρ2) Ψ) Ψ) : vDisp1 wa wb ρ Φv Ψ := h
theorem h_setT {u : EW} {w : DW} (h : u ρ (fun y ρ0 => oneO y ρ0 fun o ρ1 => isT i ρ1 ∧ w ρ1 (fun d ρ2 => ∃ ks os key, ρ2[i]? = some (.dit ks os) ∧ keyT d key ∧ key ∉ ks ∧ ks.length < 1000000 ∧ stN i (.dit (ks ++ [key]) (os ++ [o])) ρ2 nx) xc) xc) : sSetT i u w ρ ⟨nx, rt, xc, bk, ct⟩ := h
theorem e_isT {Q : Prop} (e : isT i ρ) (h : Q) : isT i ρ ∧ Q := ⟨e, h⟩
theorem g_vdit (h : ∃ ks os, ρ[i]? = some (.dit ks os) ∧ Φv (.rf i) ρ) : vVar i ρ Φv Ψ := by
  obtain ⟨ks, os, e, q⟩ := h
  exact ⟨_, e, q⟩
end
end Vc
namespace Sx
open PySem PySem.Spec PyProof.Rows L2
end Sx
namespace Vc
open PySem PySem.Spec PyProof.Rows L2 Sx
section
variable {S : SrcRep} {K : PySem.W.Frag} {W : WX} {b b1 b2 : Bool} {c c1 c2 : Nat} {te ta tb : TE} {ρ : List Ot} {Φ : Dt → List Ot → Prop} {Ψ : XW} {P : Dt → Prop}
def dIdx (wa wb : DW) : DW := fun ρ Φ Ψ => wa ρ (fun x ρ1 => ∃ zs : List Str, x = .lst (zs.map .str) ∧ wb ρ1 (fun y ρ2 => ∃ z : Str, y = .str z ∧ z ∈ zs ∧ Φ (.int (zs.idxOf z : Nat)) ρ2) Ψ) Ψ
theorem g_idx {wa wb : DW} (h : wa ρ (fun x ρ1 => ∃ zs : List Str, x = .lst (zs.map .str) ∧ wb ρ1 (fun y ρ2 => ∃ z : Str, y = .str z ∧ z ∈ zs ∧ Φ (.int (zs.idxOf z : Nat)) ρ2) Ψ) Ψ) : dIdx wa wb ρ Φ Ψ := h
end
section
variable {S : SrcRep} {K : PySem.W.Frag} {W : WX} {ρ : List Ot} {i : Nat} {Φ : Dt → List Ot → Prop} {Ψ : XW}
def nonO : Ot → Option Bool
  | .fz d => some (isNonD (.dt d))
  | .lst _ => some false
  | .tup _ => some false
  | _ => none
def dIsNO (neg : Bool) (i : Nat) : DW := fun ρ Φ _ => ∃ o b, ρ[i]? = some o ∧ nonO o = some b ∧ Φ (.bl (if neg then !b else b)) ρ
theorem g_isNOf (h : ∃ o b, ρ[i]? = some o ∧ nonO o = some b ∧ Φ (.bl b) ρ) : dIsNO false i ρ Φ Ψ := h
theorem g_isNOt (h : ∃ o b, ρ[i]? = some o ∧ nonO o = some b ∧ Φ (.bl (!b)) ρ) : dIsNO true i ρ Φ Ψ := h
theorem e_isNO {o : Ot} {b : Bool} {M : Bool → Prop} (h : ρ[i]? = some o) (hb : nonO o = some b) (q : M b) : ∃ o b, ρ[i]? = some o ∧ nonO o = some b ∧ M b := ⟨o, b, h, hb, q⟩
end
end Vc
namespace Vc
open PySem PySem.Spec PyProof.Rows L2 Sx
section
variable {ρ : List Ot} {Φv : Vl → List Ot → Prop} {Ψ : XW}
theorem g_vcat {wa wb : DW} (h : wa ρ (fun x ρ1 => wb ρ1 (fun y ρ2 => ∃ ds es, x = .lst ds ∧ y = .lst es ∧ ds.length + es.length ≤ 1000000 ∧ Φv (.ow (.lst ((ds ++ es).map .fz))) ρ2) Ψ) Ψ) : vCat wa wb ρ Φv Ψ := h
end
end Vc
namespace Vc
open PySem PySem.Spec PyProof.Rows L2 Sx
section
variable {tg : Tg} {wt : TW} {we : DW} {ρb : List Ot} {Φ : List Ot → Prop}
/-- a new list of data -/
theorem lcP_eq : ∀ (ds acc : List Dt), lcP tg wt (vD we) ρb ds (acc.map .fz) Φ = lcD tg wt we ρb ds acc (fun l => Φ (l.map .fz))
  | [], acc => rfl
  | d :: ds, acc => by
    unfold lcP lcD
    have e1 : ∀ y : Dt, (∃ o, Vl.ow (.fz y) = .ow o ∧ lcP tg wt (vD we) ρb ds (acc.map .fz ++ [o]) Φ) = lcD tg wt we ρb ds (acc ++ [y]) (fun l => Φ (l.map .fz)) := fun y => by
      rw [← lcP_eq ds (acc ++ [y]), List.map_append]
      refine propext ⟨fun ⟨o, h1, h2⟩ => ?_, fun h => ⟨_, rfl, h⟩⟩
      cases h1
      exact h2
    have e2 : ∀ ρ2, vD we ρ2 (fun y _ => ∃ o, y = .ow o ∧ lcP tg wt (vD we) ρb ds (acc.map .fz ++ [o]) Φ) noX = we ρ2 (fun y _ => lcD tg wt we ρb ds (acc ++ [y]) (fun l => Φ (l.map .fz))) noX := fun ρ2 => by
      show we ρ2 (fun d _ => ∃ o, Vl.ow (.fz d) = .ow o ∧ lcP tg wt (vD we) ρb ds (acc.map .fz ++ [o]) Φ) noX = _
      congr 1
      funext y _
      exact e1 y
    simp only [e2, lcP_eq ds acc]
theorem h_vlc {ρ : List Ot} {Φv : Vl → List Ot → Prop} {Ψ : XW} {vs : List Nat} {ce : Nat} {wi : LW} (h : wi ρ (fun ds ρ1 => ds.length ≤ LCN ∧ (ce = 0 ∨ ds.length ≤ FORN) ∧ (tg.inn vs && frees ρ1 vs && tg.fre (wipeO ρ1 vs)) = true ∧ wpE vs ρ1 fun ρb => lcD tg wt we ρb ds [] fun os => Φv (.ow (.lst (os.map .fz))) ρ1) Ψ) : vLc vs ce tg wi wt (vD we) ρ Φv Ψ := by
  unfold vLc
  have e : ∀ (ds : List Dt) (ρ1 : List Ot), lcP tg wt (vD we) (wipeO ρ1 vs) ds [] (fun os => Φv (.ow (.lst os)) ρ1) = lcD tg wt we (wipeO ρ1 vs) ds [] (fun os => Φv (.ow (.lst (os.map .fz))) ρ1) := fun ds ρ1 => lcP_eq ds []
  simp only [e]
  exact h
end
end Vc
namespace Vc
open PySem PySem.Spec PyProof.Rows L2 Sx
section
variable {K : PySem.W.Frag} {P : Dt → Prop} {ρ : List Ot} {Φv : Vl → List Ot → Prop} {Ψ : XW}
def partT (n : Nat) (lo hi : Option Int) : Bool := !(decide (HT.sIx n 0 lo = 0) && decide (HT.sIx n n hi = n))
def sTup : Fs := fun x lo hi Φ => ∃ ds, x = .tup ds ∧ partT ds.length lo hi = true ∧ Φ (.tup (cutG ds lo hi))
theorem g_slT {ds : List Dt} {lo hi : Option Int} (h : partT ds.length lo hi = true) (q : P (.tup (cutG ds lo hi))) : sTup (.tup ds) lo hi P := ⟨ds, rfl, h, q⟩
theorem g_dnT (h : Φv (.ow (.dit [] [])) ρ) : vDnT ρ Φv Ψ := h
end
end Vc
namespace Vc
open PySem PySem.Spec PyProof.Rows L2 Sx
end Vc
namespace Sx
open PySem PySem.Spec PyProof.Rows L2
end Sx
namespace Vc
open PySem PySem.Spec PyProof.Rows L2 Sx
section
variable {S : SrcRep} {K : PySem.W.Frag} {W : WX} {s : Option Addr} {ρ : List Ot} {σ : L2.St} {B H : Hp} {Fr fp : Fp} {n m : Nat} {c c1 c2 : Nat} {b : Bool} {ta tk : TE} {i : Nat} {Φ : Vl → List Ot → Prop} {Ψ : XW} {Q : V → Hp → Prop}
def vSdA (i : Nat) (wk : DW) (w : EW) : EW := fun ρ Φ Ψ => isT i ρ ∧ wk ρ (fun d ρ1 => ∃ ks os key, ρ1[i]? = some (.dit ks os) ∧ keyT d key ∧ ks.length < 1000000 ∧
  ((∃ k1 k2 o1 es o2, ks = k1 ++ key :: k2 ∧ os = o1 ++ .lst es :: o2 ∧ key ∉ k1 ∧ k1.length = o1.length ∧ es.length < 1000000 ∧ w ρ1 (fun x ρ2 => ∃ o, x = .ow o ∧ Φ (.ow (.fz .non)) (ρ2.set i (.dit (k1 ++ key :: k2) (o1 ++ .lst (es ++ [o]) :: o2)))) Ψ) ∨
   (key ∉ ks ∧ w (ρ1.set i (.dit (ks ++ [key]) (os ++ [.lst []]))) (fun x ρ2 => ∃ o, x = .ow o ∧ Φ (.ow (.fz .non)) (ρ2.set i (.dit (ks ++ key :: []) (os ++ .lst ([] ++ [o]) :: [])))) Ψ))) Ψ
def lcP2 (vs1 : List Nat) (tg tg1 : Tg) (wi1 : LW) (we : EW) (ρb : List Ot) : List Dt → List Ot → (List Ot → Prop) → Prop
  | [], acc, Φ => Φ acc
  | d :: ds, acc, Φ => tg.put (fun _ => false) d ρb fun ρ2 => wi1 ρ2 (fun es ρ3 => acc.length + es.length ≤ LCN ∧ (tg1.inn vs1 && frees ρ3 vs1 && tg1.fre (wipeO ρ3 vs1)) = true ∧ lcP tg1 tYesW we (wipeO ρ3 vs1) es acc fun acc' => lcP2 vs1 tg tg1 wi1 we ρb ds acc' Φ) noX
def vLc2 (vs vs1 : List Nat) (tg tg1 : Tg) (wi wi1 : LW) (we : EW) : EW := fun ρ Φ Ψ => wi ρ (fun ds ρ1 => (tg.inn vs && frees ρ1 vs && tg.fre (wipeO ρ1 vs)) = true ∧ lcP2 vs1 tg tg1 wi1 we (wipeO ρ1 vs) ds [] fun os => Φ (.ow (.lst os)) ρ1) Ψ
theorem g_lc2 {Φv : Vl → List Ot → Prop} {vs vs1 : List Nat} {tg tg1 : Tg} {wi wi1 : LW} {we : EW} (h : wi ρ (fun ds ρ1 => (tg.inn vs && frees ρ1 vs && tg.fre (wipeO ρ1 vs)) = true ∧ wpE vs ρ1 fun ρb => lcP2 vs1 tg tg1 wi1 we ρb ds [] fun os => Φv (.ow (.lst os)) ρ1) Ψ) : vLc2 vs vs1 tg tg1 wi wi1 we ρ Φv Ψ := h
def isDd (x : Dt) : Prop := (∃ kvs, x = .dic kvs) ∨ ∃ kvs, x = .dit kvs
def dDg2 (wa wb wf : DW) : DW := fun ρ Φ Ψ => wa ρ (fun x ρ1 => isDd x ∧ wb ρ1 (fun y ρ2 => wf ρ2 (fun z ρ3 => ∃ o, DGd x y o ∧ Φ (o.getD z) ρ3) Ψ) Ψ) Ψ
theorem g_dg2 {Φ : Dt → List Ot → Prop} {wa wb wf : DW} (h : wa ρ (fun x ρ1 => isDd x ∧ wb ρ1 (fun y ρ2 => wf ρ2 (fun z ρ3 => ∃ o, DGd x y o ∧ Φ (o.getD z) ρ3) Ψ) Ψ) Ψ) : dDg2 wa wb wf ρ Φ Ψ := h
theorem g_sdA {Φv : Vl → List Ot → Prop} {wk : DW} {w : EW} (h0 : isT i ρ) (h : wk ρ (fun d ρ1 => ∃ ks os key, ρ1[i]? = some (.dit ks os) ∧ keyT d key ∧ ks.length < 1000000 ∧
  ((∃ k1 k2 o1 es o2, ks = k1 ++ key :: k2 ∧ os = o1 ++ .lst es :: o2 ∧ key ∉ k1 ∧ k1.length = o1.length ∧ es.length < 1000000 ∧ w ρ1 (fun x ρ2 => ∃ o, x = .ow o ∧ stN i (.dit (k1 ++ key :: k2) (o1 ++ .lst (es ++ [o]) :: o2)) ρ2 (fun ρ3 => Φv (.ow (.fz .non)) ρ3)) Ψ) ∨
   (key ∉ ks ∧ stN i (.dit (ks ++ [key]) (os ++ [.lst []])) ρ1 fun ρ2 => w ρ2 (fun x ρ3 => ∃ o, x = .ow o ∧ stN i (.dit (ks ++ key :: []) (os ++ .lst ([] ++ [o]) :: [])) ρ3 (fun ρ4 => Φv (.ow (.fz .non)) ρ4)) Ψ))) Ψ) : vSdA i wk w ρ Φv Ψ := ⟨h0, h⟩
end
end Vc
namespace Vc
open PySem PySem.Spec PyProof.Rows L2 Sx
end Vc
namespace Sx
open PySem PySem.Spec PyProof.Rows L2
end Sx
namespace Vc
open PySem PySem.Spec PyProof.Rows L2 Sx
end Vc
namespace Sx
open PySem PySem.Spec PyProof.Rows L2
end Sx
namespace Vc
open PySem PySem.Spec PyProof.Rows L2 Sx
section
variable {S : SrcRep} {K : PySem.W.Frag} {W : WX} {pn : Nat → Bool} {s s' : Option Addr} {ρ ρ' : List Ot} {σ σ' : L2.St} {B B' H H' : Hp} {Fr fp fp' g : Fp} {n n' N N' : Nat} {b b1 b2 b3 : Bool} {c c1 c2 c3 : Nat} {te ta tb : TE} {aa : TA} {i : Nat} {o : Ot}
def vMakeX (C : Addr) (F : FnW) (wa : AW) : EW := fun ρ Φ Ψ => wa ρ (fun xs ρ1 => ∃ os, asO xs = some os ∧ F (.ins C [] [] :: os) (fun r os' => r = .fz .non ∧ ∃ o rest, os' = o :: rest ∧ Φ (.ow o) ρ1) (fun C d _ => Ψ C d ρ1)) Ψ
theorem h_makeX {ρ : List Ot} {Φv : Vl → List Ot → Prop} {Ψ : XW} {C : Addr} {F : FnW} {wa : AW} (h : wa ρ (fun xs ρ1 => ∃ os, asO xs = some os ∧ F (.ins C [] [] :: os) (fun r os' => r = .fz .non ∧ ∃ o rest, os' = o :: rest ∧ Φv (.ow o) ρ1) (fun C d _ => Ψ C d ρ1)) Ψ) : vMakeX C F wa ρ Φv Ψ := h
mutual
def Ot.nt : Ot → Bool
  | .tup _ => false
  | .hp _ _ _ => false
  | .av _ _ => false
  | .lst os => ntA os
  | .dic _ os => ntA os
  | .dit _ os => ntA os
  | .dx _ _ _ => false
  | .ins _ _ os => ntA os
  | _ => true
def ntA : List Ot → Bool
  | [] => true
  | o :: os => o.nt && ntA os
end
mutual
theorem Ow.nt : ∀ {o : Ot} {v : V} {f : Fp}, Ow K B s o v f → o.nt = true → ∀ p ∈ f, ∀ xs, p.2 ≠ .tup xs
  | _, _, _, .src _, _, p, hp => by cases hp
  | _, _, _, .fz r, h, p, hp => by cases hp
  | _, _, _, .lst w, h, p, hp => by
    rcases List.mem_cons.mp hp with rfl | hp
    · exact fun _ z => by cases z
    · exact OwA.nt w (by unfold Ot.nt at h; exact h) p hp
  | _, _, _, .tup w, h, p, hp => by unfold Ot.nt at h; cases h
  | _, _, _, .ins _ w, h, p, hp => by
    rcases List.mem_cons.mp hp with rfl | hp
    · exact fun _ z => by cases z
    · exact OwA.nt w (by unfold Ot.nt at h; exact h) p hp
  | _, _, _, .hp h0, h, p, hp => by unfold Ot.nt at h; cases h
  | _, _, _, .dx _ _ _ _, h, p, hp => by unfold Ot.nt at h; cases h
  | _, _, _, .av _, h, p, hp => by unfold Ot.nt at h; cases h
  | _, _, _, .dic _ w, h, p, hp => by
    rcases List.mem_cons.mp hp with rfl | hp
    · exact fun _ z => by cases z
    · exact OwA.nt w (by unfold Ot.nt at h; exact h) p hp
  | _, _, _, .dit _ w, h, p, hp => by
    rcases List.mem_cons.mp hp with rfl | hp
    · exact fun _ z => by cases z
    · exact OwA.nt w (by unfold Ot.nt at h; exact h) p hp
theorem OwA.nt : ∀ {os : List Ot} {vs : List V} {f : Fp}, OwA K B s os vs f → ntA os = true → ∀ p ∈ f, ∀ xs, p.2 ≠ .tup xs
  | _, _, _, .nil, _, p, hp => by cases hp
  | _, _, _, .cons a t, h, p, hp => by
    unfold ntA at h
    rw [Bool.and_eq_true] at h
    rcases List.mem_append.mp hp with hp | hp
    · exact a.nt h.1 p hp
    · exact OwA.nt t h.2 p hp
end
theorem En.nt : ∀ {ρ : List Ot} {σ : L2.St} {f : Fp}, En K B s ρ σ f → ntA ρ = true → ∀ p ∈ f, ∀ xs, p.2 ≠ .tup xs
  | _, _, _, .nil, _, p, hp => by cases hp
  | _, _, _, .no t, h, p, hp => by
    unfold ntA at h
    rw [Bool.and_eq_true] at h
    exact En.nt t h.2 p hp
  | _, _, _, .cons a t, h, p, hp => by
    unfold ntA at h
    rw [Bool.and_eq_true] at h
    rcases List.mem_append.mp hp with hp | hp
    · exact a.nt h.1 p hp
    · exact En.nt t h.2 p hp
def scT : Dt → Bool
  | .tup ds => ds.all scD
  | d => scD d
def vCallBT (F : FnW) (wa : AW) : EW := fun ρ Φ Ψ => wa ρ (fun xs ρ1 => ∃ os, datS ρ1 xs = some os ∧ ndA ρ1 = true ∧ ntA ρ1 = true ∧ F os (fun o _ => o.sc = true ∧ Φ (.ow o) ρ1) (fun C d _ => scT d = true ∧ Ψ C d ρ1)) Ψ
theorem h_callBT {ρ : List Ot} {Φv : Vl → List Ot → Prop} {Ψ : XW} {F : FnW} {wa : AW} (h : wa ρ (fun xs ρ1 => ∃ os, datS ρ1 xs = some os ∧ ndA ρ1 = true ∧ ntA ρ1 = true ∧ F os (fun o _ => o.sc = true ∧ Φv (.ow o) ρ1) (fun C d _ => scT d = true ∧ Ψ C d ρ1)) Ψ) : vCallBT F wa ρ Φv Ψ := h
end
end Vc
namespace Sx
open PySem PySem.Spec PyProof.Rows L2
inductive EqR : Nat → Dt → Dt → Bool → Prop
  | pl {n : Nat} {d e : Dt} {a b : PyData} : toP d = some a → toP e = some b → a.depth ≤ n → EqR n d e (PyData.eqv a b)
  | lst {n : Nat} {ds es : List Dt} {f : Nat → Bool} : ds.length = es.length → (∀ j x y, ds[j]? = some x → es[j]? = some y → EqR n x y (f j)) → EqR (n + 1) (.lst ds) (.lst es) ((List.range ds.length).all f)
  | lstN {n : Nat} {ds es : List Dt} : ds.length ≠ es.length → EqR (n + 1) (.lst ds) (.lst es) false
  | tup {n : Nat} {ds es : List Dt} {f : Nat → Bool} : (∀ j x y, ds[j]? = some x → es[j]? = some y → EqR n x y (f j)) → EqR (n + 1) (.tup ds) (.tup es) ((List.range (min ds.length es.length)).all f && ds.length == es.length)
  | dic {n : Nat} {ks ls : List (Key × Dt)} {f : Key → Bool} : (ks.map (·.1)).Nodup → (∀ k x y, (k, x) ∈ ks → valG ls k = some y → EqR n x y (f k)) → EqR (n + 1) (.dic ks) (.dic ls) (ks.length == ls.length && ks.all fun p => (valG ls p.1).isSome && f p.1)
mutual
theorem rp_fun {K : PySem.W.Frag} {B : Hp} : ∀ {d e : Dt} {x : V} {a b : PyData}, toP d = some a → toP e = some b → Rp K B x d → Rp K B x e → d = e
  | .non, e, _, _, _, h1, h2, r1, r2 => by
    cases r1; cases r2 with
    | non => rfl
    | wk => cases h2
  | .bl _, e, _, _, _, h1, h2, r1, r2 => by
    cases r1; cases r2 with
    | bl => rfl
    | wk => cases h2
  | .int _, e, _, _, _, h1, h2, r1, r2 => by
    cases r1; cases r2 with
    | int => rfl
    | wk => cases h2
  | .str _, e, _, _, _, h1, h2, r1, r2 => by
    cases r1; cases r2 with
    | str => rfl
    | wk => cases h2
  | .lst ds, e, _, _, _, h1, h2, r1, r2 => by
    unfold toP at h1
    cases q : toPs ds with
    | none => rw [q] at h1; cases h1
    | some es =>
    cases r1 with
    | lst b1 a1 =>
      cases r2 with
      | lst b2 a2 =>
        rw [b1] at b2; cases b2
        unfold toP at h2
        rename_i ds2
        cases q2 : toPs ds2 with
        | none => rw [q2] at h2; cases h2
        | some es2 => rw [rp_funA q q2 a1 a2]
      | tup b2 => rw [b1] at b2; cases b2
      | dic => cases h2
      | dit => cases h2
      | ins => cases h2
      | scr => cases h2
      | exn => cases h2
      | wk => cases h2
      | dx => cases h2
  | .tup ds, e, _, _, _, h1, h2, r1, r2 => by
    unfold toP at h1
    cases q : toPs ds with
    | none => rw [q] at h1; cases h1
    | some es =>
    cases r1 with
    | tup b1 a1 =>
      cases r2 with
      | tup b2 a2 =>
        rw [b1] at b2; cases b2
        unfold toP at h2
        rename_i ds2
        cases q2 : toPs ds2 with
        | none => rw [q2] at h2; cases h2
        | some es2 => rw [rp_funA q q2 a1 a2]
      | lst b2 => rw [b1] at b2; cases b2
      | dic => cases h2
      | dit => cases h2
      | ins => cases h2
      | scr => cases h2
      | exn => cases h2
      | wk => cases h2
      | dx => cases h2
  | .dic _, _, _, _, _, h1, _, _, _ => by cases h1
  | .dit _, _, _, _, _, h1, _, _, _ => by cases h1
  | .ins _ _, _, _, _, _, h1, _, _, _ => by cases h1
  | .scr _, _, _, _, _, h1, _, _, _ => by cases h1
  | .ty _, _, _, _, _, h1, _, _, _ => by cases h1
  | .exn _ _ _ _, _, _, _, _, h1, _, _, _ => by cases h1
  | .wk _, _, _, _, _, h1, _, _, _ => by cases h1
  | .dx _ _ _, _, _, _, _, h1, _, _, _ => by cases h1
theorem rp_funA {K : PySem.W.Frag} {B : Hp} : ∀ {ds es : List Dt} {xs : List V} {as bs : List PyData}, toPs ds = some as → toPs es = some bs → RpA K B xs ds → RpA K B xs es → ds = es
  | [], _, _, _, _, _, _, .nil, r2 => by cases r2; rfl
  | d :: ds, _, _, _, _, h1, h2, .cons r t, r2 => by
    cases r2 with
    | cons r' t' =>
      rename_i e es
      unfold toPs at h1 h2
      cases q1 : toP d with
      | none => rw [q1] at h1; cases h1
      | some a =>
        cases q2 : toPs ds with
        | none => rw [q1, q2] at h1; cases h1
        | some as =>
          cases q3 : toP e with
          | none => rw [q3] at h2; cases h2
          | some b =>
            cases q4 : toPs es with
            | none => rw [q3, q4] at h2; cases h2
            | some bs => rw [rp_fun q1 q3 r r', rp_funA q2 q4 t t']
end
theorem rpA_at {K : PySem.W.Frag} {B : Hp} {xs : List V} {ds : List Dt} (h : RpA K B xs ds) {j : Nat} {d : Dt} (e : ds[j]? = some d) : ∃ x, xs[j]? = some x ∧ Rp K B x d := by
  obtain ⟨v, e2, r⟩ := pget' h.paired e
  exact ⟨v, e2, r⟩
theorem val_split {α : Type} {ks : List (Key × α)} {k : Key} {y : α} (h : valG ks k = some y) : ∃ j : Nat, ks[j]? = some (k, y) := by
  unfold valG at h
  cases q : ks.find? (fun p => decide (p.1 = k)) with
  | none => rw [q] at h; cases h
  | some p =>
    rw [q] at h
    cases h
    have hm := List.mem_of_find?_eq_some q
    have hk : p.1 = k := of_decide_eq_true (List.find?_some (p := fun p : Key × α => decide (p.1 = k)) q)
    obtain ⟨j, hj⟩ := List.mem_iff_getElem?.mp hm
    refine ⟨j, ?_⟩
    rw [hj, ← hk]
theorem val_is {α : Type} {ks : List (Key × α)} {k : Key} (h : k ∈ ks.map (·.1)) : (valG ks k).isSome = true := by
  obtain ⟨p, hp, rfl⟩ := List.mem_map.mp h
  unfold valG
  cases q : ks.find? (fun x => decide (x.1 = p.1)) with
  | none =>
    rw [List.find?_eq_none] at q
    exact absurd (decide_eq_true rfl) (q p hp)
  | some p => rfl
/-- what is one and the same is equal -/
theorem EqR.self {K : PySem.W.Frag} {B : Hp} {n : Nat} {d e : Dt} {b : Bool} (h : EqR n d e b) : ∀ {x : V}, Rp K B x d → Rp K B x e → b = true := by
  induction h with
  | pl h1 h2 _ =>
    intro x r1 r2
    have := rp_fun h1 h2 r1 r2
    subst this
    rw [h1] at h2
    cases h2
    exact SeqAt.eqv_refl_plain _ (toP_plain h1)
  | @lst n ds es f hl _ ih =>
    intro x r1 r2
    cases r1 with
    | lst b1 a1 =>
      cases r2 with
      | lst b2 a2 =>
        rw [b1] at b2; cases b2
        rw [List.all_eq_true]
        intro j hj
        have hj := List.mem_range.mp hj
        have e1 : ds[j]? = some ds[j] := List.getElem?_eq_getElem _
        have e2 : es[j]? = some (es[j]'(by omega)) := List.getElem?_eq_getElem _
        obtain ⟨v, ev, rv⟩ := rpA_at a1 e1
        obtain ⟨w, ew, rw'⟩ := rpA_at a2 e2
        rw [ev] at ew; cases ew
        exact ih j _ _ e1 e2 rv rw'
  | lstN hl =>
    intro x r1 r2
    cases r1 with
    | lst b1 a1 =>
      cases r2 with
      | lst b2 a2 =>
        rw [b1] at b2; cases b2
        exact absurd (a1.len.symm.trans a2.len) hl
  | @tup n ds es f _ ih =>
    intro x r1 r2
    cases r1 with
    | tup b1 a1 =>
      cases r2 with
      | tup b2 a2 =>
        rw [b1] at b2; cases b2
        have hl : ds.length = es.length := a1.len.symm.trans a2.len
        rw [Bool.and_eq_true]
        refine ⟨List.all_eq_true.mpr fun j hj => ?_, by rw [hl]; simp⟩
        have hj := List.mem_range.mp hj
        have e1 : ds[j]? = some (ds[j]'(by omega)) := List.getElem?_eq_getElem _
        have e2 : es[j]? = some (es[j]'(by omega)) := List.getElem?_eq_getElem _
        obtain ⟨v, ev, rv⟩ := rpA_at a1 e1
        obtain ⟨w, ew, rw'⟩ := rpA_at a2 e2
        rw [ev] at ew; cases ew
        exact ih j _ _ e1 e2 rv rw'
  | @dic n ks ls f nd _ ih =>
    intro x r1 r2
    cases r1 with
    | dic b1 k1 a1 =>
      cases r2 with
      | dic b2 k2 a2 =>
        have eb : ∀ {u u' : HO}, isDict u → isDict u' → ∀ {a : Addr}, Rd B a u → Rd B a u' → u = u' := fun {u u'} h1 h2 {a} e1 e2 => by
          rcases e1 with e1 | ⟨o, e1⟩ <;> rcases e2 with e2 | ⟨o', e2⟩
          · rw [e1] at e2; exact Option.some.inj e2
          · rw [e1] at e2; cases e2; exact absurd h1 isDict_frz
          · rw [e1] at e2; cases e2; exact absurd h2 isDict_frz
          · rw [e1] at e2; cases e2; rfl
        cases eb (u := .dK _) (u' := .dK _) True.intro True.intro b1 b2
        have kk : ks.map (·.1) = ls.map (·.1) := k1.symm.trans k2
        have hl : ks.length = ls.length := by
          have := congrArg List.length kk
          rwa [List.length_map, List.length_map] at this
        rw [Bool.and_eq_true]
        refine ⟨by rw [hl]; simp, List.all_eq_true.mpr fun p hp => ?_⟩
        obtain ⟨k, d⟩ := p
        have hk : k ∈ ls.map (·.1) := by rw [← kk]; exact List.mem_map.mpr ⟨_, hp, rfl⟩
        rw [Bool.and_eq_true]
        refine ⟨val_is hk, ?_⟩
        obtain ⟨y, hy⟩ := Option.isSome_iff_exists.mp (val_is hk)
        obtain ⟨j, hj⟩ := val_split hy
        obtain ⟨i, hi⟩ := List.mem_iff_getElem?.mp hp
        have ij : i = j := by
          have h1 : (ks.map (·.1))[i]? = some k := by rw [List.getElem?_map, hi]; rfl
          have h2 : (ks.map (·.1))[j]? = some k := by rw [kk, List.getElem?_map, hj]; rfl
          obtain ⟨l1, g1⟩ := List.getElem?_eq_some_iff.mp h1
          obtain ⟨l2, g2⟩ := List.getElem?_eq_some_iff.mp h2
          exact (List.getElem_inj nd).mp (g1.trans g2.symm)
        subst ij
        have e1 : (ks.map (·.2))[i]? = some d := by rw [List.getElem?_map, hi]; rfl
        have e2 : (ls.map (·.2))[i]? = some y := by rw [List.getElem?_map, hj]; rfl
        obtain ⟨v, ev, rv⟩ := rpA_at a1 e1
        obtain ⟨w, ew, rw'⟩ := rpA_at a2 e2
        rw [ev] at ew; cases ew
        exact ih k d y hp hy rv rw'
section
variable {X : Cx} {pins : List (Addr × Obj)} {σ : L2.St} {H B : Hp} {s : Shared}
theorem Rd.up {a : Addr} {u : HO} (sm : Same B H) (e : Rd B a u) : Rd H a u := by
  rcases e with e | ⟨ob, e⟩
  · exact .inl (sm _ _ e)
  · exact .inr ⟨ob, sm _ _ e⟩
theorem vals_at {xs : List V} {us : List Value} (r : Vals xs us) {j : Nat} {x : V} (e : xs[j]? = some x) : ∃ u, us[j]? = some u ∧ RelV x u := by
  induction r generalizing j with
  | nil => cases e
  | cons a t ih =>
    cases j with
    | zero => cases e; exact ⟨_, rfl, a⟩
    | succ j => exact ih e
theorem valv_at {α : Type} {kvs : List (Key × V)} {ds : List (Key × α)} {F : V → α → Prop} (hk : kvs.map (·.1) = ds.map (·.1)) (h : Paired F (kvs.map (·.2)) (ds.map (·.2))) (k : Key) : (valV kvs k = none ∧ valG ds k = none) ∨ ∃ v d, valV kvs k = some v ∧ valG ds k = some d ∧ F v d := by
  induction kvs generalizing ds with
  | nil =>
    cases ds with
    | nil => exact .inl ⟨rfl, rfl⟩
    | cons => cases hk
  | cons p kvs ih =>
    cases ds with
    | nil => cases hk
    | cons q ds =>
      rw [List.map_cons, List.map_cons] at hk h
      injection hk with h1 h2
      cases h with
      | cons f t =>
        unfold valV valG
        rw [List.find?_cons, List.find?_cons]
        by_cases e : p.1 = k
        · have e2 : q.1 = k := h1 ▸ e
          rw [decide_eq_true (by exact e), decide_eq_true (by exact e2)]
          exact .inr ⟨p.2, q.2, rfl, rfl, f⟩
        · have e2 : ¬ q.1 = k := fun z => e (h1.trans z)
          rw [decide_eq_false (by exact e), decide_eq_false (by exact e2)]
          exact ih h2 t
theorem EqR.tree (I : Inv X pins σ H s) (sm : Same B H) {n : Nat} {d e : Dt} {b : Bool} (h : EqR n d e b) : ∀ {x y : V} {v u : Value}, Rp X.K B x d → Rp X.K B y e → RelV x v → RelV y u → PySem.W.EqTree X.prog X.w s n v u b := by
  induction h with
  | @pl n d e a b h1 h2 h3 =>
    intro x y v u r1 r2 q1 q2
    obtain ⟨as, g1⟩ := Dp.reads I _ x v (rp_dp sm h1 r1) q1
    obtain ⟨bs, g2⟩ := Dp.reads I _ y u (rp_dp sm h2 r2) q2
    exact .leaf fun A hu => SeqAt.eqAt_plain _ _ A s v u as bs g1 g2 (toP_plain h1) (toP_plain h2) (by have := Nat.min_le_left a.depth b.depth; omega)
  | @lst n ds es f hl h0 ih =>
    intro x y v u r1 r2 q1 q2
    have self := fun (e : x = y) => EqR.self (.lst hl h0) r1 (e ▸ r2)
    cases r1 with
    | @lst a _ _ b1 a1 =>
      cases r2 with
      | @lst a' _ _ b2 a2 =>
        cases (show v = Value.ref a from q1)
        cases (show u = Value.ref a' from q2)
        by_cases e : a = a'
        · rw [self (by rw [e])]; subst e; exact .same
        obtain ⟨us, rr1, p1, _⟩ := I.list (SqL.of (sm _ _ b1))
        obtain ⟨ws, rr2, p2, _⟩ := I.list (SqL.of (sm _ _ b2))
        have l1 : us.length = ds.length := by rw [← rr1.length]; exact a1.len
        have l2 : ws.length = es.length := by rw [← rr2.length]; exact a2.len
        have sz : us.toArray.size = ds.length := by rw [List.size_toArray]; exact l1
        have t := PySem.W.EqTree.lists (prog := X.prog) (w := X.w) (n := n) (e := f) e p1.isList p2.isList (by rw [List.size_toArray, List.size_toArray]; omega) fun j h1 h2 => by
          have j1 : j < us.length := by simpa using h1
          have j2 : j < ws.length := by simpa using h2
          obtain ⟨x1, e1, r1⟩ := rpA_at a1 (List.getElem?_eq_getElem (show j < ds.length by omega))
          obtain ⟨x2, e2, r2⟩ := rpA_at a2 (List.getElem?_eq_getElem (show j < es.length by omega))
          obtain ⟨u1, f1, s1⟩ := vals_at rr1 e1
          obtain ⟨u2, f2, s2⟩ := vals_at rr2 e2
          have g1 : us.toArray[j] = u1 := by
            have := (List.getElem?_eq_some_iff.mp f1).2
            simpa using this
          have g2 : ws.toArray[j] = u2 := by
            have := (List.getElem?_eq_some_iff.mp f2).2
            simpa using this
          rw [g1, g2]
          exact ih j _ _ (List.getElem?_eq_getElem _) (List.getElem?_eq_getElem _) r1 r2 s1 s2
        rw [sz] at t
        exact t
  | @lstN n ds es hl =>
    intro x y v u r1 r2 q1 q2
    cases r1 with
    | @lst a _ _ b1 a1 =>
      cases r2 with
      | @lst a' _ _ b2 a2 =>
        cases (show v = Value.ref a from q1)
        cases (show u = Value.ref a' from q2)
        have e : a ≠ a' := fun e => by
          subst e
          rw [b1] at b2; cases b2
          exact hl (a1.len.symm.trans a2.len)
        obtain ⟨us, rr1, p1, _⟩ := I.list (SqL.of (sm _ _ b1))
        obtain ⟨ws, rr2, p2, _⟩ := I.list (SqL.of (sm _ _ b2))
        have l1 : us.length = ds.length := by rw [← rr1.length]; exact a1.len
        have l2 : ws.length = es.length := by rw [← rr2.length]; exact a2.len
        exact .listsLen e p1.isList p2.isList (by rw [List.size_toArray, List.size_toArray, l1, l2]; simpa using hl)
  | @tup n ds es f h0 ih =>
    intro x y v u r1 r2 q1 q2
    have self := fun (e : x = y) => EqR.self (.tup h0) r1 (e ▸ r2)
    cases r1 with
    | @tup a _ _ b1 a1 =>
      cases r2 with
      | @tup a' _ _ b2 a2 =>
        cases (show v = Value.ref a from q1)
        cases (show u = Value.ref a' from q2)
        by_cases e : a = a'
        · rw [self (by rw [e])]; subst e; exact .same
        obtain ⟨us, rr1, p1, _⟩ := I.tuple (SqT.of (sm _ _ b1))
        obtain ⟨ws, rr2, p2, _⟩ := I.tuple (SqT.of (sm _ _ b2))
        have l1 : us.length = ds.length := by rw [← rr1.length]; exact a1.len
        have l2 : ws.length = es.length := by rw [← rr2.length]; exact a2.len
        have sz : us.toArray.size = ds.length := by rw [List.size_toArray]; exact l1
        have sz2 : ws.toArray.size = es.length := by rw [List.size_toArray]; exact l2
        have t := PySem.W.EqTree.tuples (prog := X.prog) (w := X.w) (n := n) (e := f) e p1 p2 fun j h1 h2 => by
          have j1 : j < us.length := by simpa using h1
          have j2 : j < ws.length := by simpa using h2
          obtain ⟨x1, e1, r1⟩ := rpA_at a1 (List.getElem?_eq_getElem (show j < ds.length by omega))
          obtain ⟨x2, e2, r2⟩ := rpA_at a2 (List.getElem?_eq_getElem (show j < es.length by omega))
          obtain ⟨u1, f1, s1⟩ := vals_at rr1 e1
          obtain ⟨u2, f2, s2⟩ := vals_at rr2 e2
          have g1 : us.toArray[j] = u1 := by
            have := (List.getElem?_eq_some_iff.mp f1).2
            simpa using this
          have g2 : ws.toArray[j] = u2 := by
            have := (List.getElem?_eq_some_iff.mp f2).2
            simpa using this
          rw [g1, g2]
          exact ih j _ _ (List.getElem?_eq_getElem _) (List.getElem?_eq_getElem _) r1 r2 s1 s2
        rw [sz, sz2] at t
        exact t
  | @dic n ks ls f nd h0 ih =>
    intro x y v u r1 r2 q1 q2
    have self := fun (e : x = y) => EqR.self (.dic nd h0) r1 (e ▸ r2)
    cases r1 with
    | @dic a kvs _ b1 k1 a1 =>
      cases r2 with
      | @dic a' lvs _ b2 k2 a2 =>
        cases (show v = Value.ref a from q1)
        cases (show u = Value.ref a' from q2)
        by_cases e : a = a'
        · rw [self (by rw [e])]; subst e; exact .same
        obtain ⟨_, ya, va, ra, da⟩ := dk_rd I.hok (Rd.up sm b1)
        obtain ⟨_, yb, vb, rb, db⟩ := dk_rd I.hok (Rd.up sm b2)
        have kl : ks.length = va.length := by
          rw [← ra.length]
          have := congrArg List.length k1
          rw [List.length_map, List.length_map] at this
          exact this.symm
        have ll : ls.length = vb.length := by
          rw [← rb.length]
          have := congrArg List.length k2
          rw [List.length_map, List.length_map] at this
          exact this.symm
        have some_ : ∀ k, (valueAt vb k).isSome = (valG ls k).isSome := fun k => by
          have h1 := rb.val k
          rcases valv_at k2 a2.paired k with ⟨e1, e2⟩ | ⟨z, d, e1, e2, _⟩
          · rw [e1] at h1
            rw [e2]
            cases q : valueAt vb k with
            | none => rfl
            | some _ => rw [q] at h1; exact h1.elim
          · rw [e1] at h1
            rw [e2]
            cases q : valueAt vb k with
            | none => rw [q] at h1; exact h1.elim
            | some _ => rfl
        have alls : (va.all fun p => (valueAt vb p.1).isSome && f p.1) = ks.all fun p => (valG ls p.1).isSome && f p.1 := by
          have e1 : va.map (·.1) = ks.map (·.1) := ra.keys.symm.trans k1
          have g : ∀ {α : Type} (l : List (Key × α)), (l.all fun p => (valG ls p.1).isSome && f p.1) = (l.map (·.1)).all fun k => (valG ls k).isSome && f k := fun l => by rw [List.all_map]; rfl
          simp only [some_]
          rw [g, g, e1]
        have t := PySem.W.EqTree.dicts (prog := X.prog) (w := X.w) (knd := mixKind X.prog X.w) (n := n) (e := f) e ya yb da db fun k z y hm hy => by
          obtain ⟨i, hi⟩ := List.mem_iff_getElem?.mp hm
          obtain ⟨x1, f1, s1⟩ := ra.at' hi
          have h1 : (ks.map (·.1))[i]? = some k := by rw [← k1, List.getElem?_map, f1]; rfl
          rw [List.getElem?_map] at h1
          cases q : ks[i]? with
          | none => rw [q] at h1; cases h1
          | some p =>
            obtain ⟨k', d⟩ := p
            rw [q] at h1
            have hk : k' = k := Option.some.inj h1
            rw [hk] at q
            have m1 : (ks.map (·.2))[i]? = some d := by rw [List.getElem?_map, q]; rfl
            obtain ⟨x1', f1', r1⟩ := rpA_at a1 m1
            rw [List.getElem?_map, f1] at f1'
            cases f1'
            have hv := rb.val k
            rw [hy] at hv
            rcases valv_at k2 a2.paired k with ⟨e1, e2⟩ | ⟨w, d2, e1, e2, r2⟩
            · rw [e1] at hv; exact hv.elim
            · rw [e1] at hv
              exact ih k d d2 (List.mem_of_getElem? q) e2 r1 r2 s1 hv
        rw [alls, ← kl, ← ll] at t
        exact t
theorem EqR.top {k : Nat} {Q E : Value → Shared → Prop} (hr : Room k X.A) (I : Inv X pins σ H s) (sm : Same B H) {n : Nat} {d e : Dt} {b : Bool} (h : EqR n d e b) (hn : n ≤ 150) (hq : Q (.bool b) s) : ∀ {x y : V} {v u : Value}, Rp X.K B x d → Rp X.K B y e → RelV x v → RelV y u → wpAny (model X.prog X.w) X.A (compareOp .Eq v u) Q E s := by
  have un := hr.un
  cases h with
  | @pl n d e a b h1 h2 h3 =>
    intro x y v u r1 r2 q1 q2
    obtain ⟨as, g1⟩ := Dp.reads I _ x v (rp_dp sm h1 r1) q1
    obtain ⟨bs, g2⟩ := Dp.reads I _ y u (rp_dp sm h2 r2) q2
    exact SeqAt.eq_plain g1 g2 (toP_plain h1) (toP_plain h2) (by have := Nat.min_le_left a.depth b.depth; omega) hq
  | @lst n ds es f hl h0 =>
    intro x y v u r1 r2 q1 q2
    cases r1 with
    | @lst a _ _ b1 a1 =>
      cases r2 with
      | @lst a' _ _ b2 a2 =>
        cases (show v = Value.ref a from q1)
        cases (show u = Value.ref a' from q2)
        obtain ⟨us, rr1, p1, _⟩ := I.list (SqL.of (sm _ _ b1))
        obtain ⟨ws, rr2, p2, _⟩ := I.list (SqL.of (sm _ _ b2))
        have l1 : us.length = ds.length := by rw [← rr1.length]; exact a1.len
        have l2 : ws.length = es.length := by rw [← rr2.length]; exact a2.len
        have sz : us.toArray.size = ds.length := by rw [List.size_toArray]; exact l1
        refine PySem.W.eq_listsT (n := n) (e := f) p1.isList p2.isList (by rw [List.size_toArray, List.size_toArray]; omega) (fun j h1 h2 => by
          have j1 : j < us.length := by simpa using h1
          have j2 : j < ws.length := by simpa using h2
          obtain ⟨x1, e1, r1⟩ := rpA_at a1 (List.getElem?_eq_getElem (show j < ds.length by omega))
          obtain ⟨x2, e2, r2⟩ := rpA_at a2 (List.getElem?_eq_getElem (show j < es.length by omega))
          obtain ⟨u1, f1, s1⟩ := vals_at rr1 e1
          obtain ⟨u2, f2, s2⟩ := vals_at rr2 e2
          have g1 : us.toArray[j] = u1 := by
            have := (List.getElem?_eq_some_iff.mp f1).2
            simpa using this
          have g2 : ws.toArray[j] = u2 := by
            have := (List.getElem?_eq_some_iff.mp f2).2
            simpa using this
          rw [g1, g2]
          exact (h0 j _ _ (List.getElem?_eq_getElem _) (List.getElem?_eq_getElem _)).tree I sm r1 r2 s1 s2) (by omega) (by rw [sz]; exact hq)
  | @lstN n ds es hl =>
    intro x y v u r1 r2 q1 q2
    cases r1 with
    | @lst a _ _ b1 a1 =>
      cases r2 with
      | @lst a' _ _ b2 a2 =>
        cases (show v = Value.ref a from q1)
        cases (show u = Value.ref a' from q2)
        obtain ⟨us, rr1, p1, _⟩ := I.list (SqL.of (sm _ _ b1))
        obtain ⟨ws, rr2, p2, _⟩ := I.list (SqL.of (sm _ _ b2))
        have l1 : us.length = ds.length := by rw [← rr1.length]; exact a1.len
        have l2 : ws.length = es.length := by rw [← rr2.length]; exact a2.len
        exact SeqAt.eq_list_lengthsAt p1.isList p2.isList (by rw [List.size_toArray, List.size_toArray, l1, l2]; simpa using hl) (by omega) hq
  | @tup n ds es f h0 =>
    intro x y v u r1 r2 q1 q2
    cases r1 with
    | @tup a _ _ b1 a1 =>
      cases r2 with
      | @tup a' _ _ b2 a2 =>
        cases (show v = Value.ref a from q1)
        cases (show u = Value.ref a' from q2)
        obtain ⟨us, rr1, p1, _⟩ := I.tuple (SqT.of (sm _ _ b1))
        obtain ⟨ws, rr2, p2, _⟩ := I.tuple (SqT.of (sm _ _ b2))
        have l1 : us.length = ds.length := by rw [← rr1.length]; exact a1.len
        have l2 : ws.length = es.length := by rw [← rr2.length]; exact a2.len
        have sz : us.toArray.size = ds.length := by rw [List.size_toArray]; exact l1
        have sz2 : ws.toArray.size = es.length := by rw [List.size_toArray]; exact l2
        refine PySem.W.eq_tuplesT (n := n) (e := f) p1 p2 (fun j h1 h2 => by
          have j1 : j < us.length := by simpa using h1
          have j2 : j < ws.length := by simpa using h2
          obtain ⟨x1, e1, r1⟩ := rpA_at a1 (List.getElem?_eq_getElem (show j < ds.length by omega))
          obtain ⟨x2, e2, r2⟩ := rpA_at a2 (List.getElem?_eq_getElem (show j < es.length by omega))
          obtain ⟨u1, f1, s1⟩ := vals_at rr1 e1
          obtain ⟨u2, f2, s2⟩ := vals_at rr2 e2
          have g1 : us.toArray[j] = u1 := by
            have := (List.getElem?_eq_some_iff.mp f1).2
            simpa using this
          have g2 : ws.toArray[j] = u2 := by
            have := (List.getElem?_eq_some_iff.mp f2).2
            simpa using this
          rw [g1, g2]
          exact (h0 j _ _ (List.getElem?_eq_getElem _) (List.getElem?_eq_getElem _)).tree I sm r1 r2 s1 s2) (by omega) (by rw [sz, sz2]; exact hq)
  | @dic n ks ls f nd h0 =>
    intro x y v u r1 r2 q1 q2
    cases r1 with
    | @dic a kvs _ b1 k1 a1 =>
      cases r2 with
      | @dic a' lvs _ b2 k2 a2 =>
        cases (show v = Value.ref a from q1)
        cases (show u = Value.ref a' from q2)
        obtain ⟨_, ya, va, ra, da⟩ := dk_rd I.hok (Rd.up sm b1)
        obtain ⟨_, yb, vb, rb, db⟩ := dk_rd I.hok (Rd.up sm b2)
        have kl : ks.length = va.length := by
          rw [← ra.length]
          have := congrArg List.length k1
          rw [List.length_map, List.length_map] at this
          exact this.symm
        have ll : ls.length = vb.length := by
          rw [← rb.length]
          have := congrArg List.length k2
          rw [List.length_map, List.length_map] at this
          exact this.symm
        have some_ : ∀ k, (valueAt vb k).isSome = (valG ls k).isSome := fun k => by
          have h1 := rb.val k
          rcases valv_at k2 a2.paired k with ⟨e1, e2⟩ | ⟨z, d, e1, e2, _⟩
          · rw [e1] at h1
            rw [e2]
            cases q : valueAt vb k with
            | none => rfl
            | some _ => rw [q] at h1; exact h1.elim
          · rw [e1] at h1
            rw [e2]
            cases q : valueAt vb k with
            | none => rw [q] at h1; exact h1.elim
            | some _ => rfl
        have alls : (va.all fun p => (valueAt vb p.1).isSome && f p.1) = ks.all fun p => (valG ls p.1).isSome && f p.1 := by
          have e1 : va.map (·.1) = ks.map (·.1) := ra.keys.symm.trans k1
          have g : ∀ {α : Type} (l : List (Key × α)), (l.all fun p => (valG ls p.1).isSome && f p.1) = (l.map (·.1)).all fun k => (valG ls k).isSome && f k := fun l => by rw [List.all_map]; rfl
          simp only [some_]
          rw [g, g, e1]
        refine PySem.W.eq_dictsT (knd := mixKind X.prog X.w) (n := n) (e := f) ya yb da db (fun k z y hm hy => by
          obtain ⟨i, hi⟩ := List.mem_iff_getElem?.mp hm
          obtain ⟨x1, f1, s1⟩ := ra.at' hi
          have h1 : (ks.map (·.1))[i]? = some k := by rw [← k1, List.getElem?_map, f1]; rfl
          rw [List.getElem?_map] at h1
          cases q : ks[i]? with
          | none => rw [q] at h1; cases h1
          | some p =>
            obtain ⟨k', d⟩ := p
            rw [q] at h1
            have hk : k' = k := Option.some.inj h1
            rw [hk] at q
            have m1 : (ks.map (·.2))[i]? = some d := by rw [List.getElem?_map, q]; rfl
            obtain ⟨x1', f1', r1⟩ := rpA_at a1 m1
            rw [List.getElem?_map, f1] at f1'
            cases f1'
            have hv := rb.val k
            rw [hy] at hv
            rcases valv_at k2 a2.paired k with ⟨e1, e2⟩ | ⟨w, d2, e1, e2, r2⟩
            · rw [e1] at hv; exact hv.elim
            · rw [e1] at hv
              exact (h0 k d d2 (List.mem_of_getElem? q) e2).tree I sm r1 r2 s1 hv) (by omega) (by rw [alls, ← kl, ← ll]; exact hq)
/-- == of data, dicts in it too -/
def rEqR (K : PySem.W.Frag) : R2 := fun x y H Q => ∃ (B : Hp) (d e : Dt) (n : Nat) (b : Bool), Same B H ∧ Rp K B x d ∧ Rp K B y e ∧ EqR n d e b ∧ n ≤ 150 ∧ Q (.bl b) H
theorem k_eqR (K : PySem.W.Frag) {k : Nat} (hr : Room k X.A) (hK : X.K = K := by rfl) : OpR X (compareOp .Eq) (rEqR K) := by
  subst hK
  intro pins s σ H x y v u Q I rx ry h
  obtain ⟨B, d, e, n, b, sm, r1, r2, he, hn, q⟩ := h
  exact he.top hr I sm hn ⟨.bl b, H, I, rfl, q⟩ r1 r2 rx ry
/-- == of two instances of a class by its own __eq__ -/
def rEqI (C : Addr) (sp : Sp) (E : XK) : R2 := fun x y H Q => ∃ a b dx dy fs gs, x = .ref a ∧ y = .ref b ∧ H a = some (.ins C dx fs) ∧ H b = some (.ins C dy gs) ∧ sp [.ref a, .ref b] H (fun v H' => ∃ k, v = .bl k ∧ Q (.bl k) H') E
theorem op_eqI {CX : CXT} {k : Nat} {C f : Addr} {fd : FuncData} {ps : List Str} {sp : Sp} {E : XK} (m : Meth X.K C "__eq__" f) (F : FnOk X.prog X.w X.K X.mg X.base CX k f fd ps sp) (hr : Room k X.A) (hb : Binds X.K fd ps []) (hx : Passes CX X E) :
    OpR X (compareOp .Eq) (rEqI C sp E) := by
  intro pins s σ H x y v u Q I rx ry h
  obtain ⟨a, b, dx, dy, fs, gs, rfl, rfl, ha, hb', hsp⟩ := h
  cases (show v = Value.ref a from rx)
  cases (show u = Value.ref b from ry)
  obtain ⟨mA, J, _⟩ := ins_get I.hok ha
  obtain ⟨mB, J', _⟩ := ins_get I.hok hb'
  obtain ⟨od, J, _⟩ := J.look
  obtain ⟨od', J', _⟩ := J'.look
  obtain ⟨m0, hF⟩ := I.fr
  show wpAny (model X.prog X.w) X.A (richCompare .Eq (.ref a) (.ref b)) (EP X pins σ Q) X.xe s
  refine PySem.W.cmp_K (op := .Eq) (tb := .ref C) hr.units0 hF I.ok.mod.kin J J'.type (by simp [PySem.W.notFirst]) m.at_ m.fn ?_
  have hl := F.len _ _ _ _ hsp
  have r2 : Vals [V.ref a, V.ref b] [Value.ref a, Value.ref b] := .cons rfl (.cons rfl .nil)
  refine wpAny_call (codeAny_mono (F.run X.A X.stack s H ⟨[.ref a, .ref b], []⟩ [.ref a, .ref b] [.ref a, .ref b] _ E hr I.env0 (by
    have := hb s [.ref a, .ref b] I.kIn (by simpa using hl)
    simpa using this) r2 hsp) fun r s' hq => ?_)
  cases r with
  | error e => exact hx pins σ H s e s' I hq
  | ok fl =>
    cases fl with
    | ret w =>
      obtain ⟨z, H', I', rz, k, ez, q⟩ := I.after hq
      subst ez
      cases rz
      exact ⟨.bl k, H', I', rfl, q⟩
    | next => exact False.elim hq
    | brk => exact False.elim hq
    | cont => exact False.elim hq
end
end Sx
namespace Vc
open PySem PySem.Spec PyProof.Rows L2 Sx
section
variable {S : SrcRep} {P : Program} {w : World} {mg : Str → Option Value} {base : Heap} {K : PySem.W.Frag} {W : WX} {b1 b2 : Bool} {c c1 c2 k j : Nat} {ta tb : TE} {C : Addr} {X : Cx} {ps : List Str} {F : FnW}
def fEqR : Fd := fun x y Φ => ∃ n b, EqR n x y b ∧ n ≤ 150 ∧ Φ (.bl b)
theorem lf_eqR : Lf K (rEqR K) fEqR := fun x y Φ ⟨n, b, h, hn, q⟩ => by
  intro Fr B H Q v u hc rx ry k
  exact ⟨B, x, y, n, b, hc.seq, rx, ry, h, hn, k _ [] _ B H ⟨_, rfl, rfl, q⟩ (Le.refl B) hc (.bl _)⟩
theorem k_eqI (G : KvR S P w K mg base j c (fun g => Meth K C "__eq__" g) ps F) (hr : Room k X.A) (hj : j ≤ k)
    (hP : X.prog = P := by rfl) (hw : X.w = w := by rfl) (hK : X.K = K := by rfl) (hm2 : X.mg = mg := by rfl) (hb : X.base = base := by rfl) : OpR X (compareOp .Eq) (rEqI C (SpV S K c F) E0) := by
  subst hP hw hK hm2 hb
  obtain ⟨g, fd, M, hk, hb, F1⟩ := G
  exact op_eqI M F1 (hr.mono hj) hb passL
def dEqI (C : Addr) (F : FnW) (wa wb : DW) : DW := fun ρ Φ Ψ => wa ρ (fun x ρ1 => wb ρ1 (fun y ρ2 => ∃ fs gs, x = .ins C fs ∧ y = .ins C gs ∧ F [.fz x, .fz y] (fun o _ => ∃ r, o = .fz (.bl r) ∧ Φ (.bl r) ρ2) noX) Ψ) Ψ
theorem d_eqI {wa wb : DW} (ha : VD S K W b1 c1 ta wa) (hb : VD S K W b2 c2 tb wb) : VD S K W (b1 && b2) (c1 + (c2 + c)) (tOp (rEqI C (SpV S K c F) E0) ta tb) (dEqI C F wa wb) := by
  refine Vx.bind ha fun x v B0 s σ g r0 ρ Φ Ψ Fr H fp n m Q hw st hn hm k kx => ?_
  obtain ⟨rx, rfl⟩ := r0
  refine hb hw st (by omega) hm (fun y ρ1 u B1 H1 fp1 g n1 q l ln r1 st1 hq => ?_) kx
  obtain ⟨ry, rfl⟩ := r1
  obtain ⟨fs, gs, rfl, rfl, hF⟩ := q
  have rx := Rp.mono l rx
  have rx' := rx
  have ry' := ry
  cases rx with
  | @ins a _ dx us _ hb1 e1 e2 =>
  cases ry with
  | @ins a2 _ dy us2 _ hb2 e3 e4 =>
  have same := st1.same
  obtain ⟨en, sf, asf, hd⟩ := st1
  refine ⟨a, a2, dx, dy, us, us2, rfl, rfl, same _ _ hb1, same _ _ hb2, s, B1, fp1 ++ Fr, [], sf, _, n1, _, _, (show OwA K B1 s _ _ ([] ++ ([] ++ [])) from .cons (.fz rx') (.cons (.fz ry') .nil)), hF, asf, hd.perm (pmc fun c k ca cc _ c0 => by simp only [ca, c0]; omega), by omega, fun o os' v B' H' kk fps' sf' n' q l2 ln2 w' w2 asf' hd' => ?_, fun _ _ _ _ _ _ _ _ _ _ _ z => z.elim⟩
  obtain ⟨r, rfl, q⟩ := q
  cases w' with
  | fz rr =>
  cases rr
  exact ⟨r, rfl, k (.bl r) ρ1 (.bl r) B' H' fp1 [] n' q (l.trans l2) (by omega) ⟨.bl r, rfl⟩ ⟨en.mono l2, sf', asf', Hd.sub (hd'.perm (ch' := fps' ++ (fp1 ++ (sf' ++ ([] ++ Fr)))) (pmc fun c k ca cc _ c0 => by simp only [ca, c0]; omega)) (List.sublist_append_right fps' _)⟩ hq⟩
theorem g_eqR {x y : Dt} {P : Dt → Prop} {n : Nat} {b : Bool} (h : EqR n x y b) (hn : n ≤ 150) (q : P (.bl b)) : fEqR x y P := ⟨n, b, h, hn, q⟩
theorem g_eqOw {wa wb : DW} {ρ : List Ot} {Φ : Dt → List Ot → Prop} {Ψ : XW} (h : wa ρ (fun x ρ1 => wb ρ1 (fun y ρ2 => ∃ fs gs, x = .ins C fs ∧ y = .ins C gs ∧ F [.fz x, .fz y] (fun o _ => ∃ r, o = .fz (.bl r) ∧ Φ (.bl r) ρ2) noX) Ψ) Ψ) : dEqI C F wa wb ρ Φ Ψ := h
end
end Vc
namespace Vc
open PySem PySem.Spec PyProof.Rows L2 Sx
mutual
def noI : Dt → Bool
  | .non => true
  | .bl _ => true
  | .int _ => true
  | .str _ => true
  | .lst ds => noIL ds
  | .tup ds => noIA ds
  | .dic ks => noIK ks
  | .ins _ ks => noIS ks
  | .ty _ => true
  | .dit _ => false
  | .dx _ _ _ => false
  | .scr _ => false
  | .exn _ _ _ _ => false
  | .wk _ => false
def noIL : List Dt → Bool
  | [] => true
  | d :: ds => (match d with | .ins _ _ => false | _ => true) && noI d && noIL ds
def noIA : List Dt → Bool
  | [] => true
  | d :: ds => noI d && noIA ds
def noIK : List (Key × Dt) → Bool
  | [] => true
  | (_, d) :: ds => noI d && noIK ds
def noIS : List (Str × Dt) → Bool
  | [] => true
  | (_, d) :: ds => noI d && noIS ds
end
theorem noIK_A : ∀ {ks : List (Key × Dt)}, noIK ks = true → noIA (ks.map (·.2)) = true
  | [], _ => rfl
  | (_, d) :: ks, h => by
    unfold noIK at h
    rw [Bool.and_eq_true] at h
    rw [List.map_cons]
    unfold noIA
    rw [h.1, noIK_A h.2]; rfl
theorem noIS_A : ∀ {ks : List (Str × Dt)}, noIS ks = true → noIA (ks.map (·.2)) = true
  | [], _ => rfl
  | (_, d) :: ks, h => by
    unfold noIS at h
    rw [Bool.and_eq_true] at h
    rw [List.map_cons]
    unfold noIA
    rw [h.1, noIS_A h.2]; rfl
theorem noIL_A : ∀ {ds : List Dt}, noIL ds = true → noIA ds = true
  | [], _ => rfl
  | d :: ds, h => by
    unfold noIL at h
    rw [Bool.and_eq_true, Bool.and_eq_true] at h
    unfold noIA
    rw [h.1.2, noIL_A h.2]; rfl
section
variable {K : PySem.W.Frag} {B B' H : Hp} {s : Option Addr} {fp : Fp}
/-- each of these is a list whose first entry is an instance -/
def InsF (B : Hp) (fp : Fp) : Prop := ∀ p ∈ fp, ∃ (b : Addr) (xs : List V) (C dx : Addr) (fs : List (Str × V)), p.2 = .lst (.ref b :: xs) ∧ B p.1 = some p.2 ∧ B b = some (.ins C dx fs)
theorem free_at {a : Addr} {u : HO} (hI : InsF B fp) (e : B a = some u) (h : ∀ b xs C dx fs, u = .lst (.ref b :: xs) → B b ≠ some (.ins C dx fs)) : freeB B fp a = some u := by
  unfold freeB
  cases q : fp.lookup a with
  | none => exact e
  | some o =>
    obtain ⟨p, hp, rfl, rfl⟩ : ∃ p ∈ fp, p.1 = a ∧ p.2 = o := by
      clear hI e
      induction fp with
      | nil => cases q
      | cons p fp ih =>
        obtain ⟨b, v⟩ := p
        rw [List.lookup_cons] at q
        by_cases hb : a = b
        · subst hb
          rw [beq_self_eq_true] at q
          cases q
          exact ⟨_, List.mem_cons_self, rfl, rfl⟩
        · rw [beq_eq_false_iff_ne.mpr hb] at q
          obtain ⟨p, hp, h1, h2⟩ := ih q
          exact ⟨p, List.mem_cons_of_mem _ hp, h1, h2⟩
    obtain ⟨b, xs, C, dx, fs, e1, e2, e3⟩ := hI p hp
    rw [e] at e2
    cases e2
    exact absurd e3 (h b xs C dx fs e1)
theorem free_rd {a : Addr} {u : HO} (hI : InsF B fp) (hd : isDict u) (e : Rd B a u) : Rd (freeB B fp) a u := by
  rcases e with e | ⟨o, e⟩
  · exact .inl (free_at hI e fun _ _ _ _ _ z => by subst z; exact hd.elim)
  · exact .inr ⟨o, free_at hI e fun _ _ _ _ _ z => by cases z⟩
mutual
theorem Rp.noI (hI : InsF B fp) : ∀ {v : V} {d : Dt}, Rp K B v d → noI d = true → Rp K (freeB B fp) v d
  | _, _, .non, _ => .non
  | _, _, .bl b, _ => .bl b
  | _, _, .int i, _ => .int i
  | _, _, .str x, _ => .str x
  | _, _, .lst (xs := xs) (ds := ds) e h, z => by
    unfold Vc.noI at z
    refine .lst (free_at hI e fun b ys C dx fs q e2 => ?_) (RpA.noI hI h (noIL_A z))
    injection q with q
    subst q
    cases h with
    | cons r _ =>
      unfold noIL at z
      rw [Bool.and_eq_true, Bool.and_eq_true] at z
      cases r with
      | lst e3 => rw [e2] at e3; cases e3
      | tup e3 => rw [e2] at e3; cases e3
      | dic e3 => rcases e3 with e3 | ⟨_, e3⟩ <;> (rw [e2] at e3; cases e3)
      | dit e3 => rcases e3 with e3 | ⟨_, e3⟩ <;> (rw [e2] at e3; cases e3)
      | ins _ => exact absurd z.1.1 (by simp)
      | scr _ => exact absurd z.1.2 (by simp [Vc.noI])
      | exn => exact absurd z.1.2 (by simp [Vc.noI])
      | wk => exact absurd z.1.2 (by simp [Vc.noI])
      | dx => exact absurd z.1.2 (by simp [Vc.noI])
  | _, _, .tup e h, z => by
    unfold Vc.noI at z
    exact .tup (free_at hI e fun _ _ _ _ _ q => by cases q) (RpA.noI hI h z)
  | _, _, .dic e k h, z => by
    unfold Vc.noI at z
    exact .dic (free_rd hI True.intro e) k (RpA.noI hI h (noIK_A z))
  | _, _, .dit _ _ _, z => by unfold Vc.noI at z; cases z
  | _, _, .ins e k h, z => by
    unfold Vc.noI at z
    exact .ins (free_at hI e fun _ _ _ _ _ q => by cases q) k (RpA.noI hI h (noIS_A z))
  | _, _, .scr _, z => by unfold Vc.noI at z; cases z
  | _, _, .ty n, _ => .ty n
  | _, _, .exn _ _ _, z => by unfold Vc.noI at z; cases z
  | _, _, .wk _, z => by unfold Vc.noI at z; cases z
  | _, _, .dx _ _ _ _ _, z => by unfold Vc.noI at z; cases z
theorem RpA.noI (hI : InsF B fp) : ∀ {vs : List V} {ds : List Dt}, RpA K B vs ds → noIA ds = true → RpA K (freeB B fp) vs ds
  | _, _, .nil, _ => .nil
  | _, _, .cons h t, z => by
    unfold noIA at z
    rw [Bool.and_eq_true] at z
    exact .cons (Rp.noI hI h z.1) (RpA.noI hI t z.2)
end
mutual
def Ot.ni : Ot → Bool
  | .fz d => noI d
  | .lst os => niA os
  | .tup os => niA os
  | _ => false
def niA : List Ot → Bool
  | [] => true
  | o :: os => o.ni && niA os
end
mutual
theorem Ow.ni (hI : InsF B fp) : ∀ {o : Ot} {v : V} {f : Fp}, Ow K B s o v f → o.ni = true → Ow K (freeB B fp) s o v f
  | _, _, _, .src _, z => by unfold Ot.ni at z; cases z
  | _, _, _, .fz h, z => .fz (Rp.noI hI h (by unfold Ot.ni at z; exact z))
  | _, _, _, .lst h, z => .lst (OwA.ni hI h (by unfold Ot.ni at z; exact z))
  | _, _, _, .tup h, z => .tup (OwA.ni hI h (by unfold Ot.ni at z; exact z))
  | _, _, _, .dic _ _, z => by unfold Ot.ni at z; cases z
  | _, _, _, .dit _ _, z => by unfold Ot.ni at z; cases z
  | _, _, _, .ins _ _, z => by unfold Ot.ni at z; cases z
  | _, _, _, .hp _, z => by unfold Ot.ni at z; cases z
  | _, _, _, .dx _ _ _ _, z => by unfold Ot.ni at z; cases z
  | _, _, _, .av _, z => by unfold Ot.ni at z; cases z
theorem OwA.ni (hI : InsF B fp) : ∀ {os : List Ot} {vs : List V} {f : Fp}, OwA K B s os vs f → niA os = true → OwA K (freeB B fp) s os vs f
  | _, _, _, .nil, _ => .nil
  | _, _, _, .cons h t, z => by
    unfold niA at z
    rw [Bool.and_eq_true] at z
    exact .cons (Ow.ni hI h z.1) (OwA.ni hI t z.2)
end
def allFz : List Ot → Bool
  | [] => true
  | .fz _ :: os => allFz os
  | _ :: _ => false
def insO : Ot → Bool
  | .no => true
  | .src => true
  | .fz _ => true
  | .lst (.fz (.ins _ _) :: os) => allFz os
  | _ => false
def insA : List Ot → Bool
  | [] => true
  | o :: os => insO o && insA os
end
section
variable {S : SrcRep} {K : PySem.W.Frag} {W : WX} {s s' : Option Addr} {ρ ρ' : List Ot} {σ σ' : L2.St} {B B' H H' : Hp} {Fr fp fp' g : Fp} {n n' m : Nat} {b b1 b2 : Bool} {c c1 c2 : Nat} {te : TE} {aa : TA}
def vCallBI (F : FnW) (wa : AW) : EW := fun ρ Φ Ψ => wa ρ (fun xs ρ1 => ∃ os, datS ρ1 xs = some os ∧ ndA ρ1 = true ∧ insA ρ1 = true ∧ F os (fun o _ => o.ni = true ∧ Φ (.ow o) ρ1) noX) Ψ
theorem h_callBI {F : FnW} {wa : AW} {Φ : Vl → List Ot → Prop} {Ψ : XW} (h : wa ρ (fun xs ρ1 => ∃ os, datS ρ1 xs = some os ∧ ndA ρ1 = true ∧ insA ρ1 = true ∧ F os (fun o _ => o.ni = true ∧ Φ (.ow o) ρ1) noX) Ψ) : vCallBI F wa ρ Φ Ψ := h
end
section
variable {ρ ρb : List Ot} {Φ : List Ot → Prop} {Φv : Vl → List Ot → Prop} {Ψ : XW} {tg : Tg} {wt : TW} {we : EW}
/-- an own list comprehension, its entries own objects too -/
theorem h_vlcO {vs : List Nat} {ce : Nat} {wi : LW} (h : wi ρ (fun ds ρ1 => ds.length ≤ LCN ∧ (ce = 0 ∨ ds.length ≤ FORN) ∧ (tg.inn vs && frees ρ1 vs && tg.fre (wipeO ρ1 vs)) = true ∧ wpE vs ρ1 fun ρb => lcP tg wt we ρb ds [] fun os => Φv (.ow (.lst os)) ρ1) Ψ) : vLc vs ce tg wi wt we ρ Φv Ψ := h
end
section
variable {S : SrcRep} {K : PySem.W.Frag} {W : WX} {b : Bool} {c : Nat} {te : TE} {C : Addr}
def isiP (K : PySem.W.Frag) (C : Addr) (x : Dt) (r : Bool) : Prop := ∃ fs, x = .ins C fs ∧ r = true
def dIsiC (K : PySem.W.Frag) (C : Addr) (w : DW) : DW := fun ρ Φ Ψ => w ρ (fun x ρ1 => ∃ r, isiP K C x r ∧ Φ (.bl r) ρ1) Ψ
theorem d_isiC {w : DW} (cl : Cls K C) (ic : Vh.IsiC K C) (ha : VD S K W b c te w) : VD S K W b c (tCB (rIsi K) (tCons te (tCons (tC (.ref C)) tNil))) (dIsiC K C w) := by
  intro s ρ Φ Ψ Fr B σ H fp n m Q hw st hn hm k kx
  refine ha hw st hn hm (fun x ρ1 v B1 H1 fp1 g n1 q l ln r st1 hb => ?_) kx
  obtain ⟨rx, rfl⟩ := r
  obtain ⟨r, ⟨fs, rfl, rfl⟩, q⟩ := q
  cases rx with
  | @ins a _ dx us _ hb1 e1 e2 =>
  exact ⟨.ref a, .ref C, .ref C, .ref C, true, rfl, .own C, .base (.ins (st1.same _ _ hb1) cl ic.ha ic.hn ic.htk ic.hm), by simp [PySem.W.kitOne], k (.bl true) ρ1 (.bl true) B1 H1 fp1 [] n1 q l ln ⟨.bl true, rfl⟩ st1 hb⟩
theorem g_isiC {w : DW} {ρ : List Ot} {Φ : Dt → List Ot → Prop} {Ψ : XW} (h : w ρ (fun x ρ1 => ∃ r, isiP K C x r ∧ Φ (.bl r) ρ1) Ψ) : dIsiC K C w ρ Φ Ψ := h
end
end Vc
namespace Vc
open PySem PySem.Spec PyProof.Rows L2 Sx
section
variable {S : SrcRep} {K : PySem.W.Frag} {W : WX} {pn : Nat → Bool} {s : Option Addr} {ρ : List Ot} {σ : L2.St} {B H : Hp} {Fr fp : Fp} {n : Nat} {b b1 : Bool} {c c1 c2 : Nat} {te ta ti : TE} {i : Nat}
def vAppAt (i : Nat) (wi : DW) (w : EW) : EW := fun ρ Φ Ψ => isL i ρ ∧ wi ρ (fun d ρ1 => ∃ x o1 es o2, d = .int x ∧ ρ1[i]? = some (.lst (o1 ++ .lst es :: o2)) ∧ ixN (o1 ++ Ot.lst es :: o2).length x = some o1.length ∧ es.length < 1000000 ∧
  w ρ1 (fun y ρ2 => ∃ o, y = .ow o ∧ Φ (.ow (.fz .non)) (ρ2.set i (.lst (o1 ++ .lst (es ++ [o]) :: o2)))) Ψ) Ψ
variable {Φv : Vl → List Ot → Prop} {Ψ : XW}
theorem g_appAt {wi : DW} {w : EW} (h0 : isL i ρ) (h : wi ρ (fun d ρ1 => ∃ x o1 es o2, d = .int x ∧ ρ1[i]? = some (.lst (o1 ++ .lst es :: o2)) ∧ ixN (o1 ++ Ot.lst es :: o2).length x = some o1.length ∧ es.length < 1000000 ∧
  w ρ1 (fun y ρ2 => ∃ o, y = .ow o ∧ stN i (.lst (o1 ++ .lst (es ++ [o]) :: o2)) ρ2 (fun ρ' => Φv (.ow (.fz .non)) ρ')) Ψ) Ψ) : vAppAt i wi w ρ Φv Ψ := ⟨h0, h⟩
end
end Vc
namespace Vc
open PySem PySem.Spec PyProof.Rows L2 Sx
section
variable {S : SrcRep} {K : PySem.W.Frag} {W : WX} {pn : Nat → Bool} {s s' : Option Addr} {ρ ρ' : List Ot} {σ σ' : L2.St} {B B' H H' : Hp} {Fr fp fp' g : Fp} {n n' m N N' : Nat} {b b1 b2 b3 g1 : Bool} {c c1 c2 c3 : Nat} {te ta tb tc ti : TE} {t : TS} {i j : Nat} {o : Ot}
/-- the slots ρ may be seen as ρ' -/
def Ent (ρ ρ' : List Ot) : Prop := ∀ {K : PySem.W.Frag} {B : Hp} {s : Option Addr} {σ : L2.St} {f : Fp}, En K B s ρ σ f → ∃ f', f'.Perm f ∧ En K B s ρ' σ f'
theorem Ent.refl : Ent ρ ρ := fun {_ _ _ _ f} h => ⟨f, .refl _, h⟩
theorem Ent.trans {ρ1 ρ2 ρ3 : List Ot} (h : Ent ρ1 ρ2) (h2 : Ent ρ2 ρ3) : Ent ρ1 ρ3 := fun {_ _ _ _ _} e => by
  obtain ⟨f1, p1, e1⟩ := h e
  obtain ⟨f2, p2, e2⟩ := h2 e1
  exact ⟨f2, p2.trans p1, e2⟩
def Gh (N : List Ot → Prop) (ρ : List Ot) : Prop := ∃ ρ', Ent ρ ρ' ∧ N ρ'
/-- the dict in the slot i, under its address or not -/
def dcAt (i : Nat) (ρ : List Ot) (wr : Ot → Ot) (ks : List Key) (os : List Ot) : Prop := ρ[i]? = some (wr (.dic ks os)) ∧ (wr = (fun o => o) ∨ ∃ v, wr = Ot.av v)
theorem Sr.dcAt {wr : Ot → Ot} {ks : List Key} {os : List Ot} (st : Sr S K s ρ σ B H (g ++ Fr) fp n) (h : dcAt i ρ wr ks os) : ∃ a vs f, σ[i]? = some (some (.ref a)) ∧ H a = some (.dK (ks.zip vs)) ∧ ks.length = vs.length ∧ OwA K B s os vs f ∧
    ∀ ks' os' vs' f' G' gone, ks'.length = vs'.length → OwA K B s os' vs' f' → (f ++ g).Perm (f' ++ (G' ++ gone)) → ∃ fp', Sr S K s (ρ.set i (wr (.dic ks' os'))) σ B (upd H a (.dK (ks'.zip vs'))) (G' ++ Fr) fp' n := by
  obtain ⟨e, hw⟩ := h
  rcases hw with rfl | ⟨v, rfl⟩
  · obtain ⟨a, ho, f, h1, h2, h3, up⟩ := Sr.objAt st e rfl
    cases h2 with
    | @dic _ _ _ vs _ len w => exact ⟨a, vs, f, h1, h3, len, w, fun ks' os' vs' f' G' gone hl hw hp => up _ _ f' G' gone (.dic hl hw) hp⟩
  · obtain ⟨a, ho, f, h1, h2, h3, up⟩ := Sr.objAt st e rfl
    cases h2 with
    | av h2 =>
    cases h2 with
    | @dic _ _ _ vs _ len w => exact ⟨a, vs, f, h1, h3, len, w, fun ks' os' vs' f' G' gone hl hw hp => up _ _ f' G' gone (.av (.dic hl hw)) hp⟩
def isDc (i : Nat) (ρ : List Ot) : Prop := ∃ wr ks os, dcAt i ρ wr ks os
/-- x[k] = y, k new or not -/
def sPutD (i : Nat) (u : EW) (w : DW) : SW := fun ρ E => u ρ (fun y ρ0 => oneO y ρ0 fun o ρ1 => isDc i ρ1 ∧ w ρ1 (fun d ρ2 => ∃ wr key, keyD d = some key ∧ ((∃ ks os, dcAt i ρ2 wr ks os ∧ key ∉ ks ∧ ks.length < 1000000 ∧ E.nx (ρ2.set i (wr (.dic (ks ++ [key]) (os ++ [o]))))) ∨
  ∃ k1 k2 o1 x o2, dcAt i ρ2 wr (k1 ++ key :: k2) (o1 ++ x :: o2) ∧ key ∉ k1 ∧ key ∉ k2 ∧ k1.length = o1.length ∧ (k1 ++ key :: k2).length < 1000000 ∧ E.nx (ρ2.set i (wr (.dic (k1 ++ key :: k2) (o1 ++ o :: o2)))))) E.xc) E.xc
theorem put_mid {κ : Type} [DecidableEq κ] {k1 k2 : List κ} {v1 v2 : List V} {k : κ} {u v : V} (hl : k1.length = v1.length) (h1 : k ∉ k1) (h2 : k ∉ k2) : putK ((k1 ++ k :: k2).zip (v1 ++ u :: v2)) k v = (k1 ++ k :: k2).zip (v1 ++ v :: v2) := by
  rw [List.zip_append hl, List.zip_append hl]
  have e : ((k1.zip v1 ++ (k :: k2).zip (u :: v2)).any fun kv => decide (kv.1 = k)) = true := by
    rw [List.any_eq_true]
    exact ⟨(k, u), List.mem_append_right _ List.mem_cons_self, decide_eq_true rfl⟩
  have id1 : ∀ (ks : List κ) (vs : List V), k ∉ ks → (ks.zip vs).map (fun kv => if kv.1 = k then (kv.1, v) else kv) = ks.zip vs := fun ks vs hk => by
    refine (List.map_congr_left fun p hp => ?_).trans (List.map_id _)
    have := (List.of_mem_zip (a := p.1) (b := p.2) hp).1
    exact if_neg (fun z : p.1 = k => hk (z ▸ this))
  unfold putK
  rw [if_pos e, List.map_append, id1 _ _ h1]
  show _ ++ (if k = k then (k, v) else (k, u)) :: (k2.zip v2).map _ = _
  rw [if_pos rfl, id1 _ _ h2]
  rfl
theorem s_putD {u : EW} {w : DW} (hu : VE S K W b1 c1 te u) (hw : VD S K W b2 c2 tb w) : VS S K W pn true (c1 + c2) (sDPut (tVar i) tb te) (sPutD i u w) := by
  intro s ρ E Fr B σ H fp n D hq st hn e
  refine hu hq st (m := n + (c1 + c2)) (by omega) hn (fun y ρ0 v B0 H0 fp0 g0 n0 q l0 ln0 r0 st0 hb0 => ?_) e.kx
  obtain ⟨B1, o, kk, ρ1, fp1, l1, ⟨⟨wr0, ks0, os0, hi⟩, q⟩, ow, st1⟩ := st0.oneO r0 q
  obtain ⟨a0, _, _, h0, _⟩ := Sr.dcAt (g := kk) (Fr := Fr) st1 hi
  refine ⟨_, h0, hw q st1 (m := n + (c1 + c2)) (by omega) hn (fun d ρ2 v2 B2 H2 fp2 g2 n2 q l2 ln2 r2 st2 hb2 => ?_) (e.kx.mono (l0.trans l1)).frame⟩
  obtain ⟨wr, key, hk, q⟩ := q
  obtain ⟨r2, rfl⟩ := r2
  rw [keyD_v hk r2]
  rcases q with ⟨ks, os, eo, hn2, hl, q⟩ | ⟨k1, k2, o1, x, o2, eo, hn1, hn2, hk1, hl, q⟩
  · obtain ⟨a, vs, f, h1, h3, len, w, up⟩ := Sr.dcAt (g := kk) (Fr := Fr) st2 eo
    rw [h0] at h1
    cases h1
    have ln3 := w.len
    obtain ⟨fp3, st3⟩ := up (ks ++ [key]) (os ++ [o]) (vs ++ [v]) (f ++ (kk ++ [])) [] [] (by rw [List.length_append, List.length_append, len]; rfl) (w.app (.cons (ow.mono l2) .nil)) (by simp)
    refine ⟨a0, _, rfl, DPut.k h3 (szl (by rw [List.length_zip]; omega)), ?_⟩
    rw [put_new len hn2]
    exact e.nx s _ σ B2 _ fp3 n2 q ⟨(l0.trans l1).trans l2, by omega, fun _ => rfl, fun _ _ => rfl, st3⟩
  · obtain ⟨a, vs, f, h1, h3, len, w, up⟩ := Sr.dcAt (g := kk) (Fr := Fr) st2 eo
    rw [h0] at h1
    cases h1
    have ln3 := w.len
    obtain ⟨v1, vx, v2', f1, fx, f2, rfl, rfl, hl1, w1, wx, w2⟩ := w.splitAt
    have hkv : k1.length = v1.length := hk1.trans hl1.symm
    obtain ⟨fp3, st3⟩ := up (k1 ++ key :: k2) (o1 ++ o :: o2) (v1 ++ v :: v2') (f1 ++ (kk ++ f2)) [] fx (by rw [len, List.length_append, List.length_append]; rfl) (w1.app (.cons (ow.mono l2) w2)) (pmc fun c kq ca cc cp c0 => by simp only [ca, c0]; omega)
    refine ⟨a0, _, rfl, DPut.k h3 (szl (by rw [List.length_zip]; omega)), ?_⟩
    rw [put_mid hkv hn1 hn2]
    exact e.nx s _ σ B2 _ fp3 n2 q ⟨(l0.trans l1).trans l2, by omega, fun _ => rfl, fun _ _ => rfl, st3⟩
theorem rpa_strs : ∀ ys : List Str, RpA K B (ys.map V.str) (ys.map .str)
  | [] => .nil
  | y :: ys => .cons (.str y) (rpa_strs ys)
end
section
variable {ρ : List Ot} {nx bk ct : List Ot → Prop} {rt : Ot → List Ot → Prop} {xc Ψ : XW} {i j ia ib : Nat} {Φ : Dt → List Ot → Prop} {Φv : Vl → List Ot → Prop} {pn : Nat → Bool}
theorem dc_id {ks : List Key} {os : List Ot} (e : ρ[i]? = some (.dic ks os)) : dcAt i ρ (fun o => o) ks os := ⟨e, .inl rfl⟩
theorem g_putD {u : EW} {w : DW} (h : u ρ (fun y ρ0 => oneO y ρ0 fun o ρ1 => isDc i ρ1 ∧ w ρ1 (fun d ρ2 => ∃ wr key, keyD d = some key ∧ ((∃ ks os, dcAt i ρ2 wr ks os ∧ key ∉ ks ∧ ks.length < 1000000 ∧ stN i (wr (.dic (ks ++ [key]) (os ++ [o]))) ρ2 nx) ∨
  ∃ k1 k2 o1 x o2, dcAt i ρ2 wr (k1 ++ key :: k2) (o1 ++ x :: o2) ∧ key ∉ k1 ∧ key ∉ k2 ∧ k1.length = o1.length ∧ (k1 ++ key :: k2).length < 1000000 ∧ stN i (wr (.dic (k1 ++ key :: k2) (o1 ++ o :: o2))) ρ2 nx)) xc) xc) : sPutD i u w ρ ⟨nx, rt, xc, bk, ct⟩ := h
end
end Vc
namespace Sx
open PySem PySem.Spec PyProof.Rows L2
end Sx
namespace Vc
open PySem PySem.Spec PyProof.Rows L2 Sx
end Vc
namespace Sx
open PySem PySem.Spec PyProof.Rows L2
end Sx
namespace Vc
open PySem PySem.Spec PyProof.Rows L2 Sx
end Vc
namespace Vc
open PySem PySem.Spec PyProof.Rows L2 Sx
section
variable {S : SrcRep} {K : PySem.W.Frag} {W : WX} {pn : Nat → Bool} {s s' : Option Addr} {ρ ρ' : List Ot} {σ σ' : L2.St} {B B' H H' : Hp} {Fr fp fp' g : Fp} {n n' m N N' nk : Nat} {b b1 b2 b3 g1 g2 : Bool} {c c1 c2 c3 : Nat} {te ta tb tc ti tk : TE} {aa ak : TA} {t : TS} {i j : Nat} {o : Ot} {C : Addr}
theorem un_mk {C : Addr} : ∀ f g, Mk K C f → Mk K C g → f = g := fun f g h1 h2 => by
  have e := h1.init.symm.trans h2.init
  injection e with e
  injection e with e
  injection e
theorem kpm_self {α : Type} (x : α) (zs : List α) : ∀ is : List Nat, kpm (is.map (· + 1)) (x :: zs) = kpm is zs
  | [] => rfl
  | i :: is => by
    rw [List.map_cons]
    unfold kpm
    rw [List.getElem?_cons_succ, kpm_self x zs is]
end
end Vc
namespace Vc
open PySem PySem.Spec PyProof.Rows L2 Sx
section
variable {S : SrcRep} {K : PySem.W.Frag} {W : WX} {pn : Nat → Bool} {s s' : Option Addr} {ρ ρ' : List Ot} {σ σ' : L2.St} {B B' H H' : Hp} {Fr fp fp' g : Fp} {n n' m N N' nk nn : Nat} {b b1 b2 b3 g1 g2 : Bool} {c c1 c2 c3 : Nat} {te ta tb tc ti tk : TE} {aa ak : TA} {t : TS} {i j : Nat} {o : Ot} {C : Addr}
mutual
/-- scalars, and tuples of such -/
def scP : Dt → Bool
  | .int _ => true
  | .str _ => true
  | .bl _ => true
  | .non => true
  | .tup ds => scPA ds
  | _ => false
def scPA : List Dt → Bool
  | [] => true
  | d :: ds => scP d && scPA ds
end
mutual
theorem scP_rp : ∀ {d : Dt} {v : V}, scP d = true → Rp K B v d → (∀ a xs, B a = some (.tup xs) → B' a = some (.tup xs)) → Rp K B' v d
  | .int i, _, _, r, _ => by cases r; exact .int i
  | .str x, _, _, r, _ => by cases r; exact .str x
  | .bl x, _, _, r, _ => by cases r; exact .bl x
  | .non, _, _, r, _ => by cases r; exact .non
  | .tup ds, _, h, r, hb => by
    cases r with
    | tup h1 h2 => exact .tup (hb _ _ h1) (scPA_rp (by unfold scP at h; exact h) h2 hb)
  | .lst _, _, h, _, _ => by unfold scP at h; cases h
  | .dic _, _, h, _, _ => by unfold scP at h; cases h
  | .dit _, _, h, _, _ => by unfold scP at h; cases h
  | .dx _ _ _, _, h, _, _ => by unfold scP at h; cases h
  | .ins _ _, _, h, _, _ => by unfold scP at h; cases h
  | .scr _, _, h, _, _ => by unfold scP at h; cases h
  | .ty _, _, h, _, _ => by unfold scP at h; cases h
  | .exn _ _ _ _, _, h, _, _ => by unfold scP at h; cases h
  | .wk _, _, h, _, _ => by unfold scP at h; cases h
theorem scPA_rp : ∀ {ds : List Dt} {vs : List V}, scPA ds = true → RpA K B vs ds → (∀ a xs, B a = some (.tup xs) → B' a = some (.tup xs)) → RpA K B' vs ds
  | [], _, _, r, _ => by cases r; exact .nil
  | d :: ds, _, h, r, hb => by
    unfold scPA at h
    rw [Bool.and_eq_true] at h
    cases r with
    | cons r1 r2 => exact .cons (scP_rp h.1 r1 hb) (scPA_rp h.2 r2 hb)
end
mutual
def Ot.sx (ρ : List Ot) : Ot → Prop
  | .fz d => scP d = true
  | .av u (.fz e) => ∃ k : Nat, ρ[k]? = some (Ot.av u (.fz e))
  | .lst os => sxA ρ os
  | .tup os => sxA ρ os
  | .dic _ os => sxA ρ os
  | .dit _ os => sxA ρ os
  | .dx _ ks os => scPA ks = true ∧ sxA ρ os
  | .ins _ _ os => sxA ρ os
  | _ => False
def sxA (ρ : List Ot) : List Ot → Prop
  | [] => True
  | o :: os => o.sx ρ ∧ sxA ρ os
end
mutual
theorem Ow.sx (ht : ∀ a xs, B a = some (.tup xs) → B' a = some (.tup xs)) (ha : ∀ (k : Nat) u e, ρ[k]? = some (.av u (.fz e)) → Rp K B' u e) : ∀ {o : Ot} {v : V} {f : Fp}, Ow K B s o v f → o.sx ρ → Ow K B' s o v f
  | _, _, _, .src _, h => by unfold Ot.sx at h; exact h.elim
  | _, _, _, .fz r, h => .fz (scP_rp (by unfold Ot.sx at h; exact h) r ht)
  | _, _, _, .av (o := o) w, h => by
    cases w with
    | fz r =>
      unfold Ot.sx at h
      obtain ⟨k, e⟩ := h
      exact .av (.fz (ha k _ _ e))
    | _ => unfold Ot.sx at h; exact h.elim
  | _, _, _, .lst w, h => .lst (OwA.sx ht ha w (by unfold Ot.sx at h; exact h))
  | _, _, _, .tup w, h => .tup (OwA.sx ht ha w (by unfold Ot.sx at h; exact h))
  | _, _, _, .dic e w, h => .dic e (OwA.sx ht ha w (by unfold Ot.sx at h; exact h))
  | _, _, _, .dit e w, h => .dit e (OwA.sx ht ha w (by unfold Ot.sx at h; exact h))
  | _, _, _, .ins e w, h => .ins e (OwA.sx ht ha w (by unfold Ot.sx at h; exact h))
  | _, _, _, .hp _, h => by unfold Ot.sx at h; exact h.elim
  | _, _, _, .dx k e d w, h => by
    unfold Ot.sx at h
    exact .dx (scPA_rp h.1 k ht) e d (OwA.sx ht ha w h.2)
theorem OwA.sx (ht : ∀ a xs, B a = some (.tup xs) → B' a = some (.tup xs)) (ha : ∀ (k : Nat) u e, ρ[k]? = some (.av u (.fz e)) → Rp K B' u e) : ∀ {os : List Ot} {vs : List V} {f : Fp}, OwA K B s os vs f → sxA ρ os → OwA K B' s os vs f
  | _, _, _, .nil, _ => .nil
  | _, _, _, .cons w t, h => by
    unfold sxA at h
    exact .cons (Ow.sx ht ha w h.1) (OwA.sx ht ha t h.2)
end
mutual
/-- no tuple among the objects -/
def Ot.nu : Ot → Bool
  | .tup _ => false
  | .hp _ _ _ => false
  | .av _ (.fz _) => true
  | .av _ _ => false
  | .lst os => nuA os
  | .dic _ os => nuA os
  | .dit _ os => nuA os
  | .dx _ _ os => nuA os
  | .ins _ _ os => nuA os
  | _ => true
def nuA : List Ot → Bool
  | [] => true
  | o :: os => o.nu && nuA os
end
mutual
theorem Ow.nu : ∀ {o : Ot} {v : V} {f : Fp}, Ow K B s o v f → o.nu = true → ∀ p ∈ f, ∀ xs, p.2 ≠ .tup xs
  | _, _, _, .src _, _, p, hp => by cases hp
  | _, _, _, .fz r, h, p, hp => by cases hp
  | _, _, _, .lst w, h, p, hp => by
    rcases List.mem_cons.mp hp with rfl | hp
    · exact fun _ z => by cases z
    · exact OwA.nu w (by unfold Ot.nu at h; exact h) p hp
  | _, _, _, .tup w, h, p, hp => by unfold Ot.nu at h; cases h
  | _, _, _, .ins _ w, h, p, hp => by
    rcases List.mem_cons.mp hp with rfl | hp
    · exact fun _ z => by cases z
    · exact OwA.nu w (by unfold Ot.nu at h; exact h) p hp
  | _, _, _, .hp h0, h, p, hp => by unfold Ot.nu at h; cases h
  | _, _, _, .dx _ _ _ w, h, p, hp => by
    rcases List.mem_cons.mp hp with rfl | hp
    · exact fun _ z => nomatch (show HO.ext _ = HO.tup _ from z)
    · exact OwA.nu w (by unfold Ot.nu at h; exact h) p hp
  | _, _, _, .av w, h, p, hp => by
    cases w with
    | fz r => cases hp
    | _ => unfold Ot.nu at h; cases h
  | _, _, _, .dic _ w, h, p, hp => by
    rcases List.mem_cons.mp hp with rfl | hp
    · exact fun _ z => by cases z
    · exact OwA.nu w (by unfold Ot.nu at h; exact h) p hp
  | _, _, _, .dit _ w, h, p, hp => by
    rcases List.mem_cons.mp hp with rfl | hp
    · exact fun _ z => by cases z
    · exact OwA.nu w (by unfold Ot.nu at h; exact h) p hp
theorem OwA.nu : ∀ {os : List Ot} {vs : List V} {f : Fp}, OwA K B s os vs f → nuA os = true → ∀ p ∈ f, ∀ xs, p.2 ≠ .tup xs
  | _, _, _, .nil, _, p, hp => by cases hp
  | _, _, _, .cons a t, h, p, hp => by
    unfold nuA at h
    rw [Bool.and_eq_true] at h
    rcases List.mem_append.mp hp with hp | hp
    · exact a.nu h.1 p hp
    · exact OwA.nu t h.2 p hp
end
theorem En.nu : ∀ {ρ : List Ot} {σ : L2.St} {f : Fp}, En K B s ρ σ f → nuA ρ = true → ∀ p ∈ f, ∀ xs, p.2 ≠ .tup xs
  | _, _, _, .nil, _, p, hp => by cases hp
  | _, _, _, .no t, h, p, hp => by
    unfold nuA at h
    rw [Bool.and_eq_true] at h
    exact En.nu t h.2 p hp
  | _, _, _, .cons a t, h, p, hp => by
    unfold nuA at h
    rw [Bool.and_eq_true] at h
    rcases List.mem_append.mp hp with hp | hp
    · exact a.nu h.1 p hp
    · exact En.nu t h.2 p hp
theorem En.avR (en : En K B s ρ σ fp) (l : Le B B') : ∀ (k : Nat) u e, ρ[k]? = some (.av u (.fz e)) → Rp K B' u e := fun k u e he => by
  obtain ⟨v', _, _, _, _, _, h5, _, _⟩ := en.at_ he rfl
  cases h5 with
  | av h5 =>
  cases h5 with
  | fz r => exact r.mono l
theorem free_look {B0 : Hp} {b : Addr} {u : HO} (l2 : Le (fixB B0 g) B') (hfx : ∀ p ∈ g, fixB B0 g p.1 = some p.2) (hb : B' b = some u) (hno : ∀ p ∈ g, p.2 ≠ u) : freeB B' g b = some u := by
  have hl : g.lookup b = none := lookup_none' fun z => by
    obtain ⟨p, hp, rfl⟩ := List.mem_map.mp z
    have e1 := hfx p hp
    have h := l2 _ _ e1
    rw [hb] at h
    exact hno p hp (Option.some.inj h).symm
  unfold freeB
  rw [hl]
  exact hb
def datX (ρ : List Ot) : List Vl → Option (List Ot)
  | [] => some []
  | .ow .src :: xs => (datX ρ xs).map (.src :: ·)
  | .ow (.fz d) :: xs => (datX ρ xs).map (.fz d :: ·)
  | .ow (.av u (.fz d)) :: xs => (datX ρ xs).map (.av u (.fz d) :: ·)
  | .rf i :: xs => match ρ[i]? with
    | some (.av u (.fz d)) => (datX ρ xs).map (.av u (.fz d) :: ·)
    | some o => (toD o).bind fun d => (datX ρ xs).map (.fz d :: ·)
    | none => none
  | _ => none
theorem datX_ow : ∀ {xs : List Vl} {os : List Ot} {vs : List V} {g fp : Fp}, datX ρ xs = some os → En K B s ρ σ fp → VlsR K B s σ xs vs g → Le B B' → (∀ p ∈ fp, B' p.1 = some p.2) → g = [] ∧ OwA K B' s os vs []
  | [], _, _, _, _, e, _, .nil, _, _ => by cases e; exact ⟨rfl, .nil⟩
  | .ow .src :: xs, _, _, _, _, e, en, .cons r t, l, hp => by
    unfold datX at e
    cases q : datX ρ xs with
    | none => rw [q] at e; cases e
    | some os =>
      rw [q] at e
      cases e
      obtain ⟨rfl, h⟩ := datX_ow q en t l hp
      cases r with
      | src h0 => exact ⟨rfl, .cons (f := []) (g := []) (.src h0) h⟩
  | .ow (.fz d) :: xs, _, _, _, _, e, en, .cons r t, l, hp => by
    unfold datX at e
    cases q : datX ρ xs with
    | none => rw [q] at e; cases e
    | some os =>
      rw [q] at e
      cases e
      obtain ⟨rfl, h⟩ := datX_ow q en t l hp
      cases r with
      | fz h0 => exact ⟨rfl, .cons (f := []) (g := []) (.fz (h0.mono l)) h⟩
  | .ow (.av u (.fz d)) :: xs, _, _, _, _, e, en, .cons r t, l, hp => by
    unfold datX at e
    cases q : datX ρ xs with
    | none => rw [q] at e; cases e
    | some os =>
      rw [q] at e
      cases e
      obtain ⟨rfl, h⟩ := datX_ow q en t l hp
      cases r with
      | av h1 =>
      cases h1 with
      | fz h0 => exact ⟨rfl, .cons (f := []) (g := []) (.av (.fz (h0.mono l))) h⟩
  | .rf i :: xs, os0, _, _, _, e, en, .cons r t, l, hp => by
    unfold datX at e
    cases q1 : ρ[i]? with
    | none => rw [q1] at e; cases e
    | some o =>
      rw [q1] at e
      by_cases ha : ∃ u d, o = .av u (.fz d)
      · obtain ⟨u, d, rfl⟩ := ha
        simp only at e
        cases q : datX ρ xs with
        | none => rw [q] at e; cases e
        | some os =>
          rw [q] at e
          cases e
          obtain ⟨rfl, h⟩ := datX_ow q en t l hp
          obtain ⟨v, g0, r1, r2, h1, h2, h3, _⟩ := en.at_ q1 rfl
          obtain ⟨r0, rfl⟩ := r
          rw [h1] at r0
          cases r0
          cases h3 with
          | av h3 =>
          cases h3 with
          | fz h0 => exact ⟨rfl, .cons (f := []) (g := []) (.av (.fz (h0.mono l))) h⟩
      have e : (toD o).bind (fun d => (datX ρ xs).map (Ot.fz d :: ·)) = some os0 := by
        split at e
        · rename_i o' u d he
          cases he
          exact absurd ⟨u, d, rfl⟩ ha
        · rename_i o' hno he
          cases he
          exact e
        · rename_i he; cases he
      cases q2 : toD o with
      | none => rw [q2] at e; cases e
      | some d =>
        rw [q2] at e
        cases q : datX ρ xs with
        | none => rw [q] at e; cases e
        | some os =>
          rw [q] at e
          cases e
          obtain ⟨rfl, h⟩ := datX_ow q en t l hp
          obtain ⟨v, g0, r1, r2, h1, h2, h3, _⟩ := en.at_ q1 (toD_no q2)
          obtain ⟨r0, rfl⟩ := r
          rw [h1] at r0
          cases r0
          subst h2
          exact ⟨rfl, .cons (f := []) (g := []) (.fz (h3.rp q2 l fun p hp' => hp p (List.mem_append_right _ (List.mem_append_left _ hp')))) h⟩
  | .ow .no :: _, _, _, _, _, e, _, _, _, _ => by cases e
  | .ow (.lst _) :: _, _, _, _, _, e, _, _, _, _ => by cases e
  | .ow (.tup _) :: _, _, _, _, _, e, _, _, _, _ => by cases e
  | .ow (.dic _ _) :: _, _, _, _, _, e, _, _, _, _ => by cases e
  | .ow (.dit _ _) :: _, _, _, _, _, e, _, _, _, _ => by cases e
  | .ow (.ins _ _ _) :: _, _, _, _, _, e, _, _, _, _ => by cases e
  | .ow (.hp _ _ _) :: _, _, _, _, _, e, _, _, _, _ => by cases e
  | .ow (.dx _ _ _) :: _, _, _, _, _, e, _, _, _, _ => by cases e
  | .ow (.av _ .no) :: _, _, _, _, _, e, _, _, _, _ => by cases e
  | .ow (.av _ .src) :: _, _, _, _, _, e, _, _, _, _ => by cases e
  | .ow (.av _ (.av _ _)) :: _, _, _, _, _, e, _, _, _, _ => by cases e
  | .ow (.av _ (.lst _)) :: _, _, _, _, _, e, _, _, _, _ => by cases e
  | .ow (.av _ (.tup _)) :: _, _, _, _, _, e, _, _, _, _ => by cases e
  | .ow (.av _ (.dic _ _)) :: _, _, _, _, _, e, _, _, _, _ => by cases e
  | .ow (.av _ (.dit _ _)) :: _, _, _, _, _, e, _, _, _, _ => by cases e
  | .ow (.av _ (.ins _ _ _)) :: _, _, _, _, _, e, _, _, _, _ => by cases e
  | .ow (.av _ (.hp _ _ _)) :: _, _, _, _, _, e, _, _, _, _ => by cases e
  | .ow (.av _ (.dx _ _ _)) :: _, _, _, _, _, e, _, _, _, _ => by cases e
theorem bor_goS {F : FnW} {os : List Ot} {vs : List V} {Φ : Ot → Prop} {Ψ : Addr → Dt → Prop} {Ψ' : XW} {Q : VK} {E : XK} (ra : OwA K (fixB B fp) s os vs []) (hnt : nuA ρ = true)
    (hF : F os (fun o _ => o.sx ρ ∧ Φ o) Ψ') (hΨ : ∀ C d os, Ψ' C d os → scP d = true ∧ Ψ C d) (st : Sr S K s ρ σ B H Fr fp n) (hn : n + c ≤ BUD)
    (k : ∀ o v B' H' kk n', Φ o → Le B B' → n' ≤ n + c → Ow K B' s o v kk → Sr S K s ρ σ B' H' (kk ++ Fr) fp n' → Q v H')
    (kx : ∀ C d B' H' n' a fs v, Ψ C d → Le B B' → n' ≤ n + c → Sr S K s ρ σ B' H' Fr fp n' → B' a = some (.xd fs) → fs.lookup (Str.ofString "value") = some v → Rp K B' v d → E (.ref C) (some a) H') : SpV S K c F vs H Q E := by
  obtain ⟨en, sf, asf, hd⟩ := st
  have hdn := hd.nd
  have hdat := hd.at_
  obtain ⟨lf, hfx, hd2⟩ := Hd.fixA (fp := fp) hd
  rw [List.map_append, List.nodup_append] at hdn
  refine ⟨s, fixB B fp, Fr, [], sf, os, n, _, _, ra, hF, asf, hd2, hn, fun o os' v B' H' kk fps' sf' n' ⟨hsc, q⟩ l2 ln2 w' w2 asf' hd' => ?_, fun C d os' B' H' fps' sf' n' a fs v q l2 ln2 w2 asf' hd' h1 h2 h3 => ?_⟩
  · have hd3 := Hd.sub hd' (List.sublist_append_right fps' _)
    obtain ⟨l3, hd4⟩ := Hd.freeA2 l2 (fun p hp => (hdat p (List.mem_append_left _ hp)).2) hdn.1 hd3
    exact k o v _ H' kk n' q l3 ln2 (Ow.sx (fun a xs hb => free_look l2 hfx hb fun p hp e => En.nu en hnt p hp xs e) (en.avR l3) w' hsc) ⟨en.mono l3, sf', asf', hd4⟩
  · obtain ⟨hsc, q⟩ := hΨ _ _ _ q
    have hd3 := Hd.sub hd' (List.sublist_append_right fps' _)
    obtain ⟨l3, hd4⟩ := Hd.freeA2 l2 (fun p hp => (hdat p (List.mem_append_left _ hp)).2) hdn.1 hd3
    exact kx C d _ H' n' a fs v q l3 ln2 ⟨en.mono l3, sf', asf', hd4⟩ (free_look l2 hfx h1 fun p hp e => En.nx en p hp fs e) h2 (scP_rp hsc h3 fun a xs hb => free_look l2 hfx hb fun p hp e => En.nu en hnt p hp xs e)
/-- f(..), arguments lent -/
def vCallS (F : FnW) (wa : AW) : EW := fun ρ Φ Ψ => wa ρ (fun xs ρ1 => ∃ os, datX ρ1 xs = some os ∧ nuA ρ1 = true ∧ F os (fun o _ => o.sx ρ1 ∧ Φ (.ow o) ρ1) (fun C d _ => scP d = true ∧ Ψ C d ρ1)) Ψ
theorem v_callS {F : FnW} {wa : AW} (ha : VA S K W b c1 aa wa) : VE S K W b (c1 + c2) (tCallS (SpV S K c2 F) (L2.WE W) aa) (vCallS F wa) := by
  intro s ρ Φ Ψ Fr B σ H fp n m Q hw st hn hm k kx
  refine ha hw st (by omega) hm (fun xs ρ1 vs B1 H1 fp1 g n1 q l ln r st1 hb => ?_) kx
  obtain ⟨os, ho, hnt, hF⟩ := q
  obtain ⟨en, sf, asf, hd⟩ := id st1
  obtain ⟨lf, hfx, hd2⟩ := Hd.fixA (fp := fp1) hd
  obtain ⟨rfl, ra⟩ := datX_ow ho en r lf hfx
  exact bor_goS (ρ := ρ1) (Φ := fun o => Φ (.ow o) ρ1) (Ψ := fun C d => Ψ C d ρ1) ra hnt hF (fun _ _ _ h => h) st1 (by omega)
    (fun o v B' H' kk n' q l3 ln3 w' st' => k _ ρ1 v B' H' fp1 kk n' q (l.trans l3) (by omega) w' st' hb)
    fun C d B' H' n' a fs v q l3 ln3 st' h1 h2 h3 => kx C d ρ1 B' H' fp1 n' a fs v q (l.trans l3) (by omega) st' h1 h2 h3
def vCallS0 (F : FnW) (wa : AW) : EW := fun ρ Φ Ψ => wa ρ (fun xs ρ1 => ∃ os, datX ρ1 xs = some os ∧ nuA ρ1 = true ∧ F os (fun o _ => o.sx ρ1 ∧ Φ (.ow o) ρ1) noX) Ψ
theorem v_callS1 {F : FnW} {wa : AW} (ha : VA S K W b c1 aa wa) : VE S K W b (c1 + c2) (tCall (SpV S K c2 F) [] E0 aa) (vCallS0 F wa) := by
  intro s ρ Φ Ψ Fr B σ H fp n m Q hw st hn hm k kx
  refine ha hw st (by omega) hm (fun xs ρ1 vs B1 H1 fp1 g n1 q l ln r st1 hb => ?_) kx
  rw [List.append_nil]
  obtain ⟨os, ho, hnt, hF⟩ := q
  obtain ⟨en, sf, asf, hd⟩ := id st1
  obtain ⟨lf, hfx, hd2⟩ := Hd.fixA (fp := fp1) hd
  obtain ⟨rfl, ra⟩ := datX_ow ho en r lf hfx
  exact bor_goS (ρ := ρ1) (Φ := fun o => Φ (.ow o) ρ1) (Ψ := fun _ _ => False) ra hnt hF (fun _ _ _ z => z.elim) st1 (by omega)
    (fun o v B' H' kk n' q l3 ln3 w' st' => k _ ρ1 v B' H' fp1 kk n' q (l.trans l3) (by omega) w' st' hb)
    fun C d B' H' n' a fs v q l3 ln3 st' h1 h2 h3 => q.elim
/-- o.m(..), arguments lent -/
def vMethS (C : Addr) (mt : Str) (F : FnW) (w : DW) (wa : AW) : EW := fun ρ Φ Ψ => w ρ (fun x ρ1 => ∃ fs, x = .ins C fs ∧ fs.lookup mt = none ∧ wa ρ1 (fun xs ρ2 => ∃ os, datX ρ2 xs = some os ∧ nuA ρ2 = true ∧ F (.fz x :: os) (fun o _ => o.sx ρ2 ∧ Φ (.ow o) ρ2) (fun C d _ => scP d = true ∧ Ψ C d ρ2)) Ψ) Ψ
def vMethS0 (C : Addr) (mt : Str) (F : FnW) (w : DW) (wa : AW) : EW := fun ρ Φ Ψ => w ρ (fun x ρ1 => ∃ fs, x = .ins C fs ∧ fs.lookup mt = none ∧ wa ρ1 (fun xs ρ2 => ∃ os, datX ρ2 xs = some os ∧ nuA ρ2 = true ∧ F (.fz x :: os) (fun o _ => o.sx ρ2 ∧ Φ (.ow o) ρ2) noX) Ψ) Ψ
def FzAv (o : Ot) (d : Dt) : Prop := o = .fz d ∨ ∃ v, o = .av v (.fz d)
theorem FzAv.fz {d : Dt} : FzAv (.fz d) d := .inl rfl
theorem FzAv.av {v : V} {d : Dt} : FzAv (.av v (.fz d)) d := .inr ⟨v, rfl⟩
theorem FzAv.isNo {d : Dt} (h : FzAv o d) : o.isNo = false := by
  rcases h with rfl | ⟨v, rfl⟩ <;> rfl
theorem FzAv.rp {d : Dt} {v : V} {f : Fp} (h : FzAv o d) (w : Ow K B s o v f) : Rp K B v d ∧ f = [] := by
  rcases h with rfl | ⟨u, rfl⟩
  · cases w with
    | fz r => exact ⟨r, rfl⟩
  · cases w with
    | av w =>
    cases w with
    | fz r => exact ⟨r, rfl⟩
theorem FzAv.mk {d : Dt} (h : FzAv o d) : ∀ {v : V} {f : Fp}, Ow K B s o v f → Ow K B s o v [] := fun w => by
  obtain ⟨_, e⟩ := h.rp w
  subst e
  exact w
def dVarP (i : Nat) : DW := fun ρ Φ _ => ∃ o d, ρ[i]? = some o ∧ FzAv o d ∧ Φ d ρ
theorem d_varP : VD S K W true 0 (tVar i) (dVarP i) := by
  intro s ρ Φ Ψ Fr B σ H fp n m Q hw st hn hm k kx
  obtain ⟨o, d, e, ha, q⟩ := hw
  obtain ⟨v, g, r1, r2, h1, h2, h3, _⟩ := st.en.at_ e ha.isNo
  exact ⟨v, h1, k d ρ v B H fp [] n q (Le.refl B) (Nat.le_refl _) ⟨(ha.rp h3).1, rfl⟩ st fun _ => ⟨rfl, rfl⟩⟩
/-- a copy of it, told by its value too -/
def vCpy (i : Nat) : EW := fun ρ Φ _ => ∃ o d, ρ[i]? = some o ∧ FzAv o d ∧ Φ (.ow o) ρ
theorem v_cpy : VE S K W true 0 (tVar i) (vCpy i) := by
  intro s ρ Φ Ψ Fr B σ H fp n m Q hw st hn hm k kx
  obtain ⟨o, d, e, ha, q⟩ := hw
  obtain ⟨v, g, r1, r2, h1, h2, h3, _⟩ := st.en.at_ e ha.isNo
  exact ⟨v, h1, k _ ρ v B H fp [] n q (Le.refl B) (Nat.le_refl _) (ha.mk h3) st fun _ => ⟨rfl, rfl⟩⟩
mutual
/-- the values are told no longer -/
def Ot.stp : Ot → Ot
  | .av _ o => o
  | .lst os => .lst (stpA os)
  | .tup os => .tup (stpA os)
  | .dic ks os => .dic ks (stpA os)
  | .dit ks os => .dit ks (stpA os)
  | .dx w ks os => .dx w ks (stpA os)
  | .ins C ks os => .ins C ks (stpA os)
  | o => o
def stpA : List Ot → List Ot
  | [] => []
  | o :: os => o.stp :: stpA os
end
mutual
theorem Ow.stp : ∀ {o : Ot} {v : V} {f : Fp}, Ow K B s o v f → Ow K B s o.stp v f
  | _, _, _, .src h => by unfold Ot.stp; exact .src h
  | _, _, _, .fz r => by unfold Ot.stp; exact .fz r
  | _, _, _, .av w => by unfold Ot.stp; exact w
  | _, _, _, .lst w => by unfold Ot.stp; exact .lst (OwA.stp w)
  | _, _, _, .tup w => by unfold Ot.stp; exact .tup (OwA.stp w)
  | _, _, _, .dic e w => by unfold Ot.stp; exact .dic e (OwA.stp w)
  | _, _, _, .dit e w => by unfold Ot.stp; exact .dit e (OwA.stp w)
  | _, _, _, .ins e w => by unfold Ot.stp; exact .ins e (OwA.stp w)
  | _, _, _, .hp h => by unfold Ot.stp; exact .hp h
  | _, _, _, .dx k e d w => by unfold Ot.stp; exact .dx k e d (OwA.stp w)
theorem OwA.stp : ∀ {os : List Ot} {vs : List V} {f : Fp}, OwA K B s os vs f → OwA K B s (stpA os) vs f
  | _, _, _, .nil => by unfold stpA; exact .nil
  | _, _, _, .cons w t => by unfold stpA; exact .cons (Ow.stp w) (OwA.stp t)
end
/-- an expression that sees the slot i told by its value -/
def vAvf (i : Nat) (w : EW) : EW := fun ρ Φ Ψ => ∃ d, ρ[i]? = some (.fz d) ∧ ∀ v, w (ρ.set i (.av v (.fz d))) (fun x _ => ∃ o, x = .ow o ∧ Φ (.ow o.stp) ρ) (fun C x ρ' => ρ' = ρ.set i (.av v (.fz d)) ∧ Ψ C x ρ)
theorem v_avf {w : EW} (h : VE S K W true c te w) : VE S K W true c te (vAvf i w) := by
  intro s ρ Φ Ψ Fr B σ H fp n m Q hw st hn hm k kx
  obtain ⟨d, e, hw⟩ := hw
  obtain ⟨en, sf, asf, hd⟩ := st
  obtain ⟨v, g, r1, r2, h1, h2, h3, h4, _⟩ := en.at_ e rfl
  cases h3 with
  | fz r =>
  have en2 := h4 (.av v (.fz d)) v [] B (Le.refl B) (.av (.fz r))
  rw [set_same' h1] at en2
  subst h2
  refine h (hw v) ⟨en2, sf, asf, hd⟩ hn hm (fun x ρ' v' B' H' fp' kk n' q l2 ln2 w' st' hb => ?_) fun C x ρ' B' H' fp' n' a fs u ⟨e0, q⟩ l2 ln2 st' ha hf hr => ?_
  · obtain ⟨o', rfl, q⟩ := q
    obtain ⟨hb1, rfl⟩ := hb rfl
    obtain ⟨_, sf', asf', hd'⟩ := st'
    exact k _ ρ v' B' H' _ kk n' q l2 ln2 (Ow.stp w') ⟨en.mono l2, sf', asf', hd'⟩ fun _ => ⟨rfl, rfl⟩
  · subst e0
    obtain ⟨en', sf', asf', hd'⟩ := st'
    have hi : i < ρ.length := (List.getElem?_eq_some_iff.mp e).1
    obtain ⟨v2, g2, q1, q2, k1, k2, k3, k4, _⟩ := en'.at_ (i := i) (o := .av v (.fz d)) (by rw [List.getElem?_set_self hi]) rfl
    cases k3 with
    | av k3 =>
    cases k3 with
    | fz k3 =>
    have en3 := k4 (.fz d) v [] B' (Le.refl B') (.fz k3)
    have es : ρ.set i (Ot.fz d) = ρ := by
      obtain ⟨hi, e⟩ := List.getElem?_eq_some_iff.mp e
      rw [← e]
      exact List.set_getElem_self hi
    rw [set_same' k1, List.set_set, es] at en3
    exact kx C x ρ B' H' fp' n' a fs u q l2 ln2 ⟨k2 ▸ en3, sf', asf', hd'⟩ ha hf hr
end
end Vc
namespace Sx
open PySem PySem.Spec PyProof.Rows L2
section
variable {P : Program} {w : World} {A : Around} {E : Value → Shared → Prop} {s : Shared}
/-- a set as it is made -/
abbrev so0 (w : World) : Obj := { cls := .type "set", dict := none, data := .set #[] 0 (.fresh 0 0 (!w.params.followText "set-order")) }
set_option maxRecDepth 100000 in
set_option maxHeartbeats 3200000 in
theorem set_lst {l : Addr} {its : Array Value} (ks : List Int) {Q : Value → Shared → Prop} (hn : A.handled = none) (il : s.heap.IsList l its) (ii : IntsAre its.toList ks) (bd : ks.length + 1 < scanBound)
    (fin : ∀ (h2 : Heap) (tk c : Nat), SetR w h2 s.heap.objs.size (fun j => decide (j ∈ ks)) c → c ≤ ks.length → (∀ b o, s.heap.get? b = some o → h2.get? b = some o) → Q (.ref s.heap.objs.size) { s with heap := h2, toks := tk }) :
    wpAny (model P w) A (call (.type "set") [.ref l]) Q E s := by
  have zl : its.size = ks.length := (Array.length_toList (xs := its)).symm.trans (IntsAre.length ii)
  obtain ⟨mc, mt, hmro⟩ := F.called_set.mro
  have m1 := F.called_set.made
  have m2 := F.called_set.sub
  have m3 := F.called_set.notType
  have m4 := F.called_set.canCreate
  have m5 := F.typeCall_set_1 (.ref l)
  refine wpAny_call (codeAny_of_tree ?_)
  show wpAny _ _ (callAny (.type "set") _) _ _ _
  refine wpAny_pure ⟨Code.quiet_builtin _ (by decide +kernel), codeAny_builtin F.entry_type_call ?_⟩
  rw [Around.under_plain (weight_type_call_type "set" [.ref l] []) rfl]
  repeat (any_goals (first | assumption | wp_step))
  refine codeAny_mono (code_set_led1 (.ref l) (E := E) (Q₁ := fun x s1 => x = .ref s.heap.objs.size ∧ s1 = { s with heap := s.heap.push (so0 w) }) ⟨rfl, rfl⟩) fun r s1 hr => ?_
  cases r with
  | error e => exact hr
  | ok fl =>
    cases fl with
    | ret x =>
      obtain ⟨rfl, rfl⟩ := hr
      have gS : (s.heap.push (so0 w)).get? s.heap.objs.size = some (so0 w) := Heap.get?_push_size _ rfl
      have tS : Shared.TypeIs { s with heap := s.heap.push (so0 w) } (.ref s.heap.objs.size) "set" := ⟨_, gS, rfl⟩
      have i1 := F.called_set.init.lookup
      have i2 := F.called_set.init.bind (.ref s.heap.objs.size)
      repeat (any_goals (first | assumption | wp_step))
      refine codeAny_mono (codeAny_call_builtin (R := wants (fun r s2 => r = .none ∧ ∃ h2 tk c, s2 = { s with heap := h2, toks := tk } ∧ SetR w h2 s.heap.objs.size (fun j => decide (j ∈ ks)) c ∧ c ≤ ks.length ∧ (∀ b o, s.heap.get? b = some o → h2.get? b = some o)) E) F.called_set.init.plain F.entry_set_init (check_set_init_1 tS ?_)) fun r2 s2 hr2 => ?_
      · obtain ⟨ol, gl, cl, nl, dl⟩ := il
        obtain ⟨oc, od, oda, os⟩ := ol
        simp only at cl dl
        subst cl dl
        have gl2 : (s.heap.push (so0 w)).get? l = some { cls := .type "list", dict := od, data := .seq its nl, slots := os } := Heap.get?_push_of_some _ gl
        have b1 := F.sub_list_set
        have b2 := F.sub_list_frozenset
        have b3 : (Value.type "list" == Value.type "dict") = false := by decide
        have il1 : (s.heap.push (so0 w)).IsList l its := ⟨_, gl2, rfl, nl, rfl⟩
        have lz : l < s.heap.objs.size := Heap.lt_size gl
        have pz : (s.heap.push (so0 w)).objs.size = s.heap.objs.size + 1 := Heap.size_push ..
        have ln : l ≠ (s.heap.push (so0 w)).objs.size := fun z => by
          rw [pz] at z
          exact Nat.ne_of_lt (Nat.lt_succ_of_lt lz) z
        have nf : s.heap.objs.size ∉ [(s.heap.push (so0 w)).objs.size, l] := fun z => by
          rw [pz] at z
          rcases List.mem_cons.mp z with z | z
          · exact Nat.ne_of_lt (Nat.lt_succ_self _) z
          · exact Nat.ne_of_gt lz (List.mem_singleton.mp z)
        have at_ : ∀ (i : Nat) (v : Value), its[i]? = some v → ∃ k t, ks[i]? = some k ∧ v = .int k t := fun i v hv => by
          have hi : i < ks.length := by rw [← zl]; exact (Array.getElem?_eq_some_iff.mp hv).1
          obtain ⟨t, e⟩ := PyProof.Rows.IntsAre.int_at ii i v (by rw [Array.getElem?_toList]; exact hv)
          exact ⟨ks[i], t, List.getElem?_eq_getElem hi, by rw [e, List.getD_eq_getElem?_getD, List.getElem?_eq_getElem hi]; rfl⟩
        have hn3 : A.in1.in1.in1.handled = none := by simp [hn]
        unfold Builtin.«set.__init__» noKeywords Builtin.Frozenset.updateFrom
        generalize hPI : pyIter = PI
        wp_walk
        subst hPI
        refine wpAny_pyIter_list il1 ?_
        refine wpAny_bind (wpAny_runValue ?_)
        refine set_update_ints ((Walks.list hn3 _ l ln its).toS) s.heap.objs.size nf ks zl bd at_ (its.size - 0) 0 _ (by omega) (Nat.zero_le _) ⟨⟨_, Heap.get?_push_size _ rfl, rfl, rfl⟩, (il1.push _)⟩ ⟨0, Nat.le_refl 0, setR_new_at (Heap.get?_push_of_some _ gS)⟩ fun s3 c hm hc hR => ?_
        obtain ⟨h3, g3, d3, t3, o3⟩ := s3
        have e1 : g3 = s.gens := hm.gens
        have e2 : d3 = s.drawn := hm.drawn
        have e3 : o3 = s.os := hm.os
        subst e1 e2 e3
        show wpAny _ _ _ _ _ _
        refine wpAny_pure ?_
        show wpAny _ _ (ret Value.none) _ _ _
        rw [zl] at hc
        refine wpAny_pure ⟨rfl, h3, t3, c, rfl, hR, hc, fun b o e => ?_⟩
        have hb : b < s.heap.objs.size := Heap.lt_size e
        refine hm.heap b o (fun z => ?_) (Heap.get?_push_of_some _ (Heap.get?_push_of_some _ e))
        rcases List.mem_cons.mp z with z | z
        · exact Nat.ne_of_lt hb z
        · have z := List.mem_singleton.mp z
          rw [pz] at z
          exact Nat.ne_of_lt (Nat.lt_succ_of_lt hb) z
      · cases r2 with
        | error e => exact hr2
        | ok fl2 =>
          cases fl2 with
          | ret r =>
            obtain ⟨rfl, h2, tk, c, rfl, hR, hc, hk⟩ := hr2
            repeat (any_goals (first | assumption | wp_step))
            exact fin _ _ _ hR hc hk
          | _ => exact hr2.elim
    | _ => exact hr.elim
end
end Sx
namespace Sx
open PySem PySem.Spec PyProof.Rows L2
section
variable {X : Cx}
/-- set(xs), xs a list of whole numbers -/
def rSetL (w : World) : List V → Hp → VK → Prop := fun vs H Q => ∃ (l : Addr) (ks : List Int), vs = [V.ref l] ∧ H l = some (.lst (ks.map V.int)) ∧ ks.length < 64 ∧
  ∀ (p : Addr) (c : Nat), c ≤ ks.length → H p = none → Q (.ref p) (upd H p (SetO w p (fun j => decide (j ∈ ks)) c))
theorem ints_of : ∀ {ks : List Int} {us : List Value}, Vals (ks.map V.int) us → IntsAre us ks
  | [], _, h => by cases h; exact .nil
  | k :: ks, _, h => by
    cases h with
    | cons r t =>
      obtain ⟨tk, rfl⟩ := r
      exact .cons _ _ (ints_of t)
theorem cr_setL (hc : X.calm = true) : CallR X (.type "set") (rSetL X.w) := by
  intro pins s σ H vs us Q I r h
  obtain ⟨l, ks, rfl, hl, bd, q⟩ := h
  rw [Vals.ref1 r]
  obtain ⟨_, its, n, hv, hg⟩ := (show ObjOk X.prog X.w H s.heap l (.lst (ks.map V.int)) from I.hok l _ hl)
  refine set_lst (its := its.toArray) ks (I.ok.hd hc) ⟨_, hg, rfl, n, rfl⟩ (by simpa using ints_of hv) (by have : 65 ≤ scanBound := Nat.le_of_ble_eq_true rfl; omega) fun h2 tk c hR hc hk => ?_
  exact ⟨.ref s.heap.objs.size, _, I.laid (t' := tk) hk (Nat.le_refl _) (setO_new hR), rfl, q _ c hc (I.hok.fresh (Nat.le_refl _))⟩
def taOf : List TE → TA
  | [] => tNil
  | t :: ts => tCons t (taOf ts)
def tDk (ks : List Str) (t : TA) : TE := fun σ H Q => ∀ p, H p = none → t σ (upd H p (.dK [])) fun vs H2 => H2 p = some (.dK []) ∧ Q (.ref p) (upd H2 p (.dK ((ks.map fun k => (.inr k : L2.Key)).zip vs)))
theorem pairs_k : ∀ (kt : List (Str × TE)) (σ : L2.St) (H : Hp) (Q : List (V × V) → Hp → Prop), tPairs (kt.map fun q => (tC (.str q.1), q.2)) σ H Q = taOf (kt.map (·.2)) σ H (fun vs H2 => Q ((kt.map fun q => V.str q.1).zip vs) H2)
  | [], _, _, _ => rfl
  | (k, t) :: kt, σ, H, Q => by
    have e : (fun (y : V) (H2 : Hp) => tPairs (kt.map fun q => (tC (.str q.1), q.2)) σ H2 fun ps H3 => Q ((V.str k, y) :: ps) H3) = fun (y : V) (H2 : Hp) => taOf (kt.map (·.2)) σ H2 fun vs H3 => Q ((V.str k, y) :: (kt.map fun q => V.str q.1).zip vs) H3 := by
      funext y H2
      exact pairs_k kt σ H2 _
    show t σ H (fun (y : V) (H2 : Hp) => tPairs (kt.map fun q => (tC (.str q.1), q.2)) σ H2 fun ps H3 => Q ((V.str k, y) :: ps) H3) = _
    rw [e]
    rfl
theorem put_fresh {k : L2.Key} {v : V} {kvs : List (L2.Key × V)} (h : k ∉ kvs.map (·.1)) : putK kvs k v = kvs ++ [(k, v)] := by
  unfold putK
  rw [if_neg]
  intro z
  obtain ⟨q, hq, e⟩ := List.any_eq_true.mp z
  exact h (List.mem_map.mpr ⟨q, hq, of_decide_eq_true e⟩)
theorem merge_new : ∀ (more kvs : List (L2.Key × V)), ((kvs ++ more).map (·.1)).Nodup → mergeK kvs more = kvs ++ more
  | [], kvs, _ => by rw [List.append_nil]; rfl
  | p :: r, kvs, h => by
    show mergeK (putK kvs p.1 p.2) r = _
    have hp : p.1 ∉ kvs.map (·.1) := fun m => by
      rw [List.map_append, List.nodup_append] at h
      exact h.2.2 _ m _ (by simp) rfl
    rw [put_fresh hp, merge_new r _ (by rw [List.append_assoc]; exact h), List.append_assoc]
    rfl
theorem zip_kv : ∀ (ks : List Str) (vs : List V), (ks.map V.str).zip vs = ((ks.map fun k => (.inr k : L2.Key)).zip vs).map (fun kv => (kV kv.1, kv.2))
  | [], _ => rfl
  | _ :: _, [] => rfl
  | k :: ks, v :: vs => by
    exact congrArg ((V.str k, v) :: ·) (zip_kv ks vs)
theorem zip_sub {α β : Type} : ∀ (ks : List α) (vs : List β), ((ks.zip vs).map (·.1)).Sublist ks
  | [], _ => .slnil
  | _ :: _, [] => List.nil_sublist _
  | k :: ks, v :: vs => (zip_sub ks vs).cons₂ k
theorem pe_dispK {pos : Pos} {keys : List (Option Expr)} {values : List Expr} (kt : List (Str × TE)) (h : PPs X pos keys values (kt.map fun q => (tC (.str q.1), q.2))) (nd : (kt.map (·.1)).Nodup) (h15 : keys.length ≤ 15) (k15 : kt.length ≤ 15)
    (hall : keys.all (·.isSome) = true := by rfl) (hl : keys.length = values.length := by rfl) (h0 : keys ≠ [] := by exact (fun z => nomatch z)) : PE X (.Dict keys values pos) (tDk (kt.map (·.1)) (taOf (kt.map (·.2)))) := by
  refine ⟨fun pins s σ H Q I q => (pe_disp h hall hl h0 h15).run pins s σ H Q I fun p hp => ?_⟩
  rw [pairs_k]
  have inj : ∀ {a b : List (L2.Key × V)}, a.map (fun kv => (kV kv.1, kv.2)) = b.map (fun kv => (kV kv.1, kv.2)) → a = b := fun {a b} h => by
    refine (List.map_inj_right (f := fun kv : L2.Key × V => (kV kv.1, kv.2)) fun x y e => ?_).mp h
    obtain ⟨x1, x2⟩ := x
    obtain ⟨y1, y2⟩ := y
    simp only [Prod.mk.injEq] at e
    obtain ⟨e1, e2⟩ := e
    rw [e2, kV_inj e1]
  have z0 : ∀ vs : List V, (kt.map fun q => V.str q.1).zip vs = (((kt.map (·.1)).map fun k => (.inr k : L2.Key)).zip vs).map (fun kv => (kV kv.1, kv.2)) := fun vs => by
    rw [← zip_kv, List.map_map]
    rfl
  have e : (fun (vs : List V) (H2 : Hp) => H2 p = some (.dK []) ∧ ∃ kvs : List (L2.Key × V), (kt.map fun q => V.str q.1).zip vs = kvs.map (fun kv => (kV kv.1, kv.2)) ∧ kvs.length ≤ 15 ∧ Q (.ref p) (upd H2 p (.dK (mergeK [] kvs)))) = fun vs H2 => H2 p = some (.dK []) ∧ Q (.ref p) (upd H2 p (.dK (((kt.map (·.1)).map fun k => (.inr k : L2.Key)).zip vs))) := by
    funext vs H2
    have hm : mergeK [] (((kt.map (·.1)).map fun k => (.inr k : L2.Key)).zip vs) = ((kt.map (·.1)).map fun k => (.inr k : L2.Key)).zip vs := by
      refine merge_new _ [] ?_
      rw [List.nil_append]
      exact (nd.map (f := fun k : Str => (.inr k : L2.Key)) fun a b hab z => hab (Sum.inr.inj z)).sublist (zip_sub _ vs)
    refine propext ⟨fun ⟨h1, kvs, h2, h3, h4⟩ => ?_, fun ⟨h1, h2⟩ => ⟨h1, _, z0 vs, ?_, by rw [hm]; exact h2⟩⟩
    · rw [z0 vs] at h2
      have := inj h2
      subst this
      rw [hm] at h4
      exact ⟨h1, h4⟩
    · rw [List.length_zip, List.length_map, List.length_map]
      omega
  rw [e]
  exact q p hp
end
section
variable {X : Cx}
theorem pe_dispN {pos : Pos} {keys : List (Option Expr)} {values : List Expr} (ks : List Str) (kt : List (Str × TE)) (e : kt.map (·.1) = ks) (h : PPs X pos keys values (kt.map fun q => (tC (.str q.1), q.2))) (nd : ks.Nodup) (h15 : keys.length ≤ 15) (k15 : ks.length ≤ 15)
    (hall : keys.all (·.isSome) = true := by rfl) (hl : keys.length = values.length := by rfl) (h0 : keys ≠ [] := by exact (fun z => nomatch z)) : PE X (.Dict keys values pos) (tDk ks (taOf (kt.map (·.2)))) := by
  subst e
  exact pe_dispK kt h nd h15 (by rwa [List.length_map] at k15) hall hl h0
end
section
variable {X : Cx} {CX : CXT} {k n : Nat} {f C : Addr} {fd : FuncData} {ps ks : List Str} {sp : Sp} {x : Str} {p pos : Pos} {e : Expr} {es : List Expr} {kws : List Keyword} {t tk : TA} {g : List Value → List Value → List Value} {gV : List V → List V → List V}
def tMakeKS (C : Addr) (n m : Nat) (sp : Sp) (gV : List V → List V → List V) (E : L2.St → XK) (t tk : TA) : TE := fun σ H Q => t σ H fun vs H1 => tk σ H1 fun zs H2 => vs.length = n ∧ zs.length = m ∧ ∀ x dx, H2 x = none → H2 dx = none → dx ≠ x →
  sp (gV (.ref x :: vs) zs) (upd (upd H2 dx (.own x)) x (.ins C dx [])) (fun v H3 => v = .non ∧ Q (.ref x) H3) (E σ)
theorem run_makeKS {E : XK} {pins : List (Addr × Obj)} {σ : L2.St} {H : Hp} {s : Shared} {Q : VK} {us ws : List Value} {vs zs : List V} (M : Mk X.K C f) (F : FnOk X.prog X.w X.K X.mg X.base CX k f fd ps sp) (hr : Room (k + 1) X.A) (hb : KBn X.K fd ps (n + 1) ks g gV) (hx : PassesAt CX X σ E)
    (I : Inv X pins σ H s) (r : Vals vs us) (rz : Vals zs ws) (l1 : vs.length = n) (l2 : zs.length = ks.length)
    (h : ∀ x dx, H x = none → H dx = none → dx ≠ x → sp (gV (.ref x :: vs) zs) (upd (upd H dx (.own x)) x (.ins C dx [])) (fun v H2 => v = .non ∧ Q (.ref x) H2) E) :
    wpAny (model X.prog X.w) X.A (call (.ref C) us (ks.zip ws)) (EP X pins σ Q) X.xe s := by
  have hq := h (s.heap.objs.size + 1) s.heap.objs.size (I.hok.fresh (Nat.le_succ _)) (I.hok.fresh (Nat.le_refl _)) (Nat.ne_of_lt (Nat.lt_succ_self _))
  have I2 := Inv.made (C := C) I
  have r1 : Vals (V.ref (s.heap.objs.size + 1) :: vs) (Value.ref (s.heap.objs.size + 1) :: us) := .cons rfl r
  have r2 := hb.rel r1 rz
  have n1 : (Value.ref (s.heap.objs.size + 1) :: us).length = n + 1 := by
    rw [List.length_cons, ← r.length, l1]
  refine wpAny_call (make_map (f := f) I.kIn M.makes M.init (beq_iff_eq.mp M.fn) (codeAny_mono (F.run _ X.stack _ _ ⟨Value.ref (s.heap.objs.size + 1) :: us, ks.zip ws⟩ (g (Value.ref (s.heap.objs.size + 1) :: us) ws) _ _ E (hr.make C us (ks.zip ws))
    (I2.env0.make C us (ks.zip ws)) (hb.to _ (Value.ref (s.heap.objs.size + 1) :: us) ws I2.kIn n1 (rz.length.symm.trans l2)) r2 hq) fun r s' hq' => ?_))
  cases r with
  | error e => exact hx pins _ _ e s' I2 hq'
  | ok fl =>
    cases fl with
    | ret u =>
      obtain ⟨v, H', I3, rv, ev, q3⟩ := I2.after hq'
      subst ev
      exact ⟨rv, ⟨V.ref (s.heap.objs.size + 1), H', I3, rfl, q3⟩⟩
    | next => exact False.elim hq'
    | brk => exact False.elim hq'
    | cont => exact False.elim hq'
theorem pe_makeKS0 {E : L2.St → XK} (M : Mk X.K C f) (F : FnOk X.prog X.w X.K X.mg X.base CX k f fd ps sp) (hr : Room (k + 1) X.A) (hg : Gl X x) (hm : X.mg x = some (.ref C)) (hb : KBn X.K fd ps 1 ks g gV) (hx : ∀ σ, PassesAt CX X σ (E σ)) (hkw : PK X kws tk)
    (hall : (backToKw pos (keywordEach kws X.env)).all (·.1.isSome) = true := by rfl) (hks : (backToKw pos (keywordEach kws X.env)).filterMap (·.1) = ks := by rfl) (hdb : (x == ("__debug__" : Str)) = false := by decide)
    (hpl : ((backTo pos (starEach [] X.env)).any (·.1) || (backToKw pos (keywordEach kws X.env)).any (·.1.isNone)) = false := by rfl) :
    PE X (.Call (.Name x p) [] kws pos) (tMakeKS C 0 ks.length sp gV E tNil tk) := by
  refine ⟨fun pins s σ H Q I h => ?_⟩
  refine wpAny_Call_Name_kw (ld_glob I hg hm ?_ hdb)
  refine PySem.W.callWith_KW0 (h₀ := X.base) I.ok.mod.kin M.kp hall ?_ hpl
  refine thn (hkw.run pos pins s σ H _ I h) fun ws s2 ⟨zs, H2, I2, rz, l1, l2, q2⟩ => ⟨I2.kIn, ?_⟩
  rw [hks]
  exact run_makeKS (us := []) (vs := []) M F hr hb (hx σ) I2 .nil rz rfl l2 q2
theorem pe_makeKS {E : L2.St → XK} (M : Mk X.K C f) (F : FnOk X.prog X.w X.K X.mg X.base CX k f fd ps sp) (hr : Room (k + 1) X.A) (hg : Gl X x) (hm : X.mg x = some (.ref C)) (hb : KBn X.K fd ps (n + 1) ks g gV) (hx : ∀ σ, PassesAt CX X σ (E σ)) (ha : PA X (e :: es) t) (hkw : PK X kws tk)
    (hall : (backToKw pos (keywordEach kws X.env)).all (·.1.isSome) = true := by rfl) (hks : (backToKw pos (keywordEach kws X.env)).filterMap (·.1) = ks := by rfl) (hdb : (x == ("__debug__" : Str)) = false := by decide)
    (he : starEach (e :: es) X.env = (false, eval e X.env) :: starEach es X.env := by rfl) (hpl : ((backTo pos (starEach (e :: es) X.env)).any (·.1) || (backToKw pos (keywordEach kws X.env)).any (·.1.isNone)) = false := by rfl) :
    PE X (.Call (.Name x p) (e :: es) kws pos) (tMakeKS C n ks.length sp gV E t tk) := by
  refine ⟨fun pins s σ H Q I h => ?_⟩
  refine wpAny_Call_Name_kw (ld_glob I hg hm ?_ hdb)
  refine PySem.W.callWith_KW (h₀ := X.base) I.ok.mod.kin M.kp hall (thn (ha.run pos pins s σ H _ I h) fun us s1 ⟨vs, H1, I1, r, q⟩ => ?_) hpl he
  refine thn (hkw.run pos pins s1 σ H1 _ I1 q) fun ws s2 ⟨zs, H2, I2, rz, l1, l2, q2⟩ => ⟨I2.kIn, ?_⟩
  rw [hks]
  exact run_makeKS M F hr hb (hx σ) I2 r rz l1 l2 q2
end
end Sx
namespace Vc
open PySem PySem.Spec PyProof.Rows L2 Sx
section
variable {S : SrcRep} {P : Program} {w : World} {K : PySem.W.Frag} {mg : Str → Option Value} {base : Heap} {k c n j : Nat} {x q0 : Str} {ps ks N ds ms : List Str} {is : List Nat} {F : FnW} {st : Stmt} {R : Addr → Prop} {C : Addr}
def DfM (K : PySem.W.Frag) (x q : Str) (st : Stmt) (ds : List Str) (R : Addr → Prop) : Prop := ∃ f fd, FunD K x q (defArgs st) (defBody st) (defScope st) [] (ds.map fun d => (d, V.non)) f fd ∧ R f
def KnR (S : SrcRep) (P : Program) (w : World) (K : PySem.W.Frag) (mg : Str → Option Value) (base : Heap) (k c : Nat) (R : Addr → Prop) (ps : List Str) (F : FnW) : Prop :=
  ∃ f fd, R f ∧ KI K f fd ∧ FnOk P w K mg base (L2.CX P w) k f fd ps (SpV S K c F)
theorem knr_of (pn : Nat → Bool) (D : DfM K x q0 st ds R) (Sc : FnScope N ps (defScope st)) (hlen : ∀ os Φ Ψ, F os Φ Ψ → os.length = ps.length)
    (body : ∀ (f : Addr) (cdv : Value) (A : Around) (outer : List Env) (s : Shared) (H : Hp) (E : XK), Room k (A.deeper (envOfC q0 (defScope st) s.heap.objs.size f cdv)) →
      ∃ t w', PSs (cxOf (L2.CX P w) P w K mg base N q0 (defScope st) f cdv A outer s H E) (defBody st) t ∧ VS S K (fun cls d _ H => E cls d H) pn true c t w' ∧ ∀ os Φ Ψ, F os Φ Ψ → pnOk pn os = true ∧
        w' (stO0 N os) { nx := fun ρ' => finB pn ρ' os = true ∧ Φ (.fz .non) (fin pn ρ' os), rt := fun o ρ' => finB pn ρ' os = true ∧ Φ o (fin pn ρ' os), xc := fun C d ρ' => finB pn ρ' os = true ∧ Ψ C d (fin pn ρ' os) }) : KnR S P w K mg base (k + 1) c R ps F := by
  obtain ⟨f, fd, FD, hm⟩ := D
  refine ⟨f, fd, hm, FunD.ki FD, FD.ok Sc (fun vs H Q E h => ?_) fun cdv A outer s H vs Q E hr hsp => ?_⟩
  · obtain ⟨s, B, Fr, fps, sf, os, n, Φ, Ψ, w0, hF, _⟩ := h
    rw [← w0.len]
    exact hlen os Φ Ψ hF
  · obtain ⟨t, w', h, hv, q⟩ := body f cdv A outer s H E hr
    exact ⟨t, h, spv_body hsp hv q⟩
/-- a class made with n positional values and keywords ks; mn parameters are left out -/
def KmR (S : SrcRep) (P : Program) (w : World) (K : PySem.W.Frag) (mg : Str → Option Value) (base : Heap) (k c : Nat) (C : Addr) (ps : List Str) (F : FnW) (n : Nat) (ks ms : List Str) (is : List Nat) : Prop :=
  ∃ f fd, ∃ mv : List Value, Mk K C f ∧ PySem.W.keepIn K (.ref f) = true ∧ KBn K fd ps (n + 1) ks (fun us ws => kpm (0 :: is.map (· + 1)) (us ++ (ws ++ mv))) (fun us ws => kpm (0 :: is.map (· + 1)) (us ++ (ws ++ ms.map fun _ => V.non))) ∧ FnOk P w K mg base (L2.CX P w) k f fd ps (SpV S K c F)
theorem kmr_of (D : DfM K x q0 st ds (Mk K C)) (G : KnR S P w K mg base k c (Mk K C) ps F) (n : Nat) (ks ms : List Str) (is : List Nat) (hd : ds ≠ []) (hms : ∀ m ∈ ms, m ∈ ds)
    (h : ∀ (D : Addr) (doc pm : Value) (an : Option Addr) (cdv ct : Value) (us mv ws : List Value), us.length = n + 1 → mv.length = ms.length → ws.length = ks.length →
      KwChain D (ms.zip mv) (bindArgs (PySem.W.fnOf x q0 (defArgs st) (defBody st) (defScope st) .none (.ref D) doc pm an cdv ct) ⟨us, ks.zip ws⟩) (ps.zip (kpm (0 :: is.map (· + 1)) (us ++ (ws ++ mv))))) : KmR S P w K mg base k c C ps F n ks ms is := by
  obtain ⟨f, fd, FD, hm⟩ := D
  obtain ⟨f2, fd2, hm2, ki, ok⟩ := G
  have e2 := un_mk _ _ hm hm2
  subst e2
  have e3 := KI.same (FunD.ki FD) ki
  subst e3
  have el : ((ms.map fun d => (d, V.non)).map (·.1)) = ms := by rw [List.map_map]; exact List.map_id _
  obtain ⟨mv, hb⟩ := FunD.kbinds0 (ps := ps) FD (n + 1) ks (ms.map fun d => (d, V.non)) (fun us mv ws => kpm (0 :: is.map (· + 1)) (us ++ (ws ++ mv))) (fun z => hd (List.map_eq_nil_iff.mp z)) (fun q hq => by
      obtain ⟨m, hm, rfl⟩ := List.mem_map.mp hq
      exact List.mem_map.mpr ⟨m, hms m hm, rfl⟩) (fun r1 r2 r3 => vals_kpm (Vals.append r1 (Vals.append r3 r2)) _)
    fun D doc pm an cdv ct us mv ws l1 l2 l3 => by
      rw [el]
      exact h D doc pm an cdv ct us mv ws l1 (by rw [l2, List.length_map]) l3
  refine ⟨f, fd, mv, hm, ki.1, ?_, ok⟩
  have e4 : ((ms.map fun d => (d, V.non)).map (·.2)) = ms.map fun _ => V.non := by rw [List.map_map]; rfl
  rw [e4] at hb
  exact hb
variable {X : Cx} {W : WX} {t tk : TA} {p pos : Pos} {e : Expr} {es : List Expr} {kws : List Keyword}
theorem k_makeK0 (G : KmR S P w K mg base j c C ps F 0 ks ms is) (hr : Room k X.A) (hj : j + 1 ≤ k) (tk' : Takes X W) (hkw : PK X kws tk) (hmg : mg x = some (.ref C)) (hg : Gl X x := by rfl) (hall : (backToKw pos (keywordEach kws X.env)).all (·.1.isSome) = true := by rfl)
    (hks : (backToKw pos (keywordEach kws X.env)).filterMap (·.1) = ks := by rfl) (hdb : (x == ("__debug__" : Str)) = false := by decide)
    (hpl : ((backTo pos (starEach [] X.env)).any (·.1) || (backToKw pos (keywordEach kws X.env)).any (·.1.isNone)) = false := by rfl)
    (hP : X.prog = P := by rfl) (hw : X.w = w := by rfl) (hK : X.K = K := by rfl) (hm : X.mg = mg := by rfl) (hb : X.base = base := by rfl) : PE X (.Call (.Name x p) [] kws pos) (tMakeKS C 0 ks.length (SpV S K c F) (fun us ws => kpm (0 :: is.map (· + 1)) (us ++ (ws ++ ms.map fun _ => V.non))) (L2.WE W) tNil tk) := by
  subst hP hw hK hm hb
  obtain ⟨f, fd, mv, M, hk, hb, F1⟩ := G
  exact pe_makeKS0 M F1 (hr.mono hj) hg hmg hb (fun σ => passAt tk' σ) hkw hall hks hdb hpl
theorem k_makeK (G : KmR S P w K mg base j c C ps F n ks ms is) (hr : Room k X.A) (hj : j + 1 ≤ k) (tk' : Takes X W) (ha : PA X (e :: es) t) (hkw : PK X kws tk) (hmg : mg x = some (.ref C)) (hg : Gl X x := by rfl) (hall : (backToKw pos (keywordEach kws X.env)).all (·.1.isSome) = true := by rfl)
    (hks : (backToKw pos (keywordEach kws X.env)).filterMap (·.1) = ks := by rfl) (hdb : (x == ("__debug__" : Str)) = false := by decide)
    (he : starEach (e :: es) X.env = (false, eval e X.env) :: starEach es X.env := by rfl) (hpl : ((backTo pos (starEach (e :: es) X.env)).any (·.1) || (backToKw pos (keywordEach kws X.env)).any (·.1.isNone)) = false := by rfl)
    (hP : X.prog = P := by rfl) (hw : X.w = w := by rfl) (hK : X.K = K := by rfl) (hm : X.mg = mg := by rfl) (hb : X.base = base := by rfl) : PE X (.Call (.Name x p) (e :: es) kws pos) (tMakeKS C n ks.length (SpV S K c F) (fun us ws => kpm (0 :: is.map (· + 1)) (us ++ (ws ++ ms.map fun _ => V.non))) (L2.WE W) t tk) := by
  subst hP hw hK hm hb
  obtain ⟨f, fd, mv, M, hk, hb, F1⟩ := G
  exact pe_makeKS M F1 (hr.mono hj) hg hmg hb (fun σ => passAt tk' σ) ha hkw hall hks hdb he hpl
end
end Vc
namespace Vc
open PySem PySem.Spec PyProof.Rows L2 Sx
section
variable {S : SrcRep} {K : PySem.W.Frag} {W : WX} {pn : Nat → Bool} {s s' : Option Addr} {ρ ρ' : List Ot} {σ σ' : L2.St} {B B' H H' : Hp} {Fr fp fp' g : Fp} {n n' m N N' nk : Nat} {b b1 b2 b3 g1 g2 : Bool} {c c1 c2 c3 : Nat} {te ta tb tc ti tk : TE} {aa ak : TA} {t : TS} {i j : Nat} {o : Ot} {C : Addr} {w0 : World}
theorem VlsR.app : ∀ {xs ys : List Vl} {vs us : List V} {f g : Fp}, VlsR K B s σ xs vs f → VlsR K B s σ ys us g → VlsR K B s σ (xs ++ ys) (vs ++ us) (f ++ g)
  | _, _, _, _, _, _, .nil, h => h
  | _, _, _, _, _, _, .cons a t, h => by
    rw [List.append_assoc]
    exact .cons a (VlsR.app t h)
def vMakeS (C : Addr) (is : List Nat) (n nk nm : Nat) (F : FnW) (wa wk : AW) : EW := fun ρ Φ Ψ => wa ρ (fun xs ρ1 => wk ρ1 (fun ys ρ2 => ∃ os, datX ρ2 (xs ++ ys) = some os ∧ xs.length = n ∧ ys.length = nk ∧ nuA ρ2 = true ∧
  F (.ins C [] [] :: kpm is (os ++ List.replicate nm (.fz .non))) (fun r os' => r = .fz .non ∧ ∃ o rest, os' = o :: rest ∧ o.sx ρ2 ∧ Φ (.ow o) ρ2) (fun C d _ => scP d = true ∧ Ψ C d ρ2)) Ψ) Ψ
def vMakeS0 (C : Addr) (is : List Nat) (n nk nm : Nat) (F : FnW) (wa wk : AW) : EW := fun ρ Φ Ψ => wa ρ (fun xs ρ1 => wk ρ1 (fun ys ρ2 => ∃ os, datX ρ2 (xs ++ ys) = some os ∧ xs.length = n ∧ ys.length = nk ∧ nuA ρ2 = true ∧
  F (.ins C [] [] :: kpm is (os ++ List.replicate nm (.fz .non))) (fun r os' => r = .fz .non ∧ ∃ o rest, os' = o :: rest ∧ o.sx ρ2 ∧ Φ (.ow o) ρ2) noX) Ψ) Ψ
theorem owa_non (n : Nat) : ∀ ms : List Str, ms.length = n → OwA K B s (List.replicate n (.fz .non)) (ms.map fun _ => V.non) []
  | [], e => by subst e; exact .nil
  | m :: ms, e => by
    subst e
    rw [List.length_cons, List.replicate_succ]
    exact .cons (f := []) (g := []) (.fz .non) (owa_non _ ms rfl)
theorem OwA.app0 : ∀ {o1 o2 : List Ot} {v1 v2 : List V}, OwA K B s o1 v1 [] → OwA K B s o2 v2 [] → OwA K B s (o1 ++ o2) (v1 ++ v2) [] := fun h1 h2 => h1.app h2
theorem make_goS {F : FnW} {is : List Nat} {ms : List Str} {nm : Nat} {os : List Ot} {vs : List V} {x dx : Addr} {Φ : Ot → Prop} {Ψ : Addr → Dt → Prop} {Ψ' : XW} {Q : VK} {E : XK} (hms : ms.length = nm)
    (hx : H x = none) (hdx : H dx = none) (hne : dx ≠ x) (ho : ∀ {B'}, Le B B' → (∀ p ∈ fp, B' p.1 = some p.2) → OwA K B' s os vs []) (hnt : nuA ρ = true)
    (hF : F (.ins C [] [] :: kpm is (os ++ List.replicate nm (.fz .non))) (fun r os' => r = .fz .non ∧ ∃ o rest, os' = o :: rest ∧ o.sx ρ ∧ Φ o) Ψ') (hΨ : ∀ C d os, Ψ' C d os → scP d = true ∧ Ψ C d) (st : Sr S K s ρ σ B H Fr fp n) (hn : n + c ≤ BUD)
    (k : ∀ o B' H' kk n', Φ o → Le B B' → n' ≤ n + c → Ow K B' s o (.ref x) kk → Sr S K s ρ σ B' H' (kk ++ Fr) fp n' → Q (.ref x) H')
    (kx : ∀ C d B' H' n' a fs v, Ψ C d → Le B B' → n' ≤ n + c → Sr S K s ρ σ B' H' Fr fp n' → B' a = some (.xd fs) → fs.lookup (Str.ofString "value") = some v → Rp K B' v d → E (.ref C) (some a) H') :
    SpV S K c F (.ref x :: kpm is (vs ++ ms.map fun _ => V.non)) (upd (upd H dx (.own x)) x (.ins C dx [])) (fun v H3 => v = .non ∧ Q (.ref x) H3) E := by
  obtain ⟨B2, e2, l2, st2⟩ := Sr.fix (Fr := Fr) st hdx (.own x)
  have hx2 : (upd H dx (.own x)) x = none := by rw [upd_ne (Ne.symm hne)]; exact hx
  have st3 := Sr.new (g := []) (Fr := Fr) st2 hx2 (.ins C dx [])
  obtain ⟨en, sf, asf, hd⟩ := st3
  have hdn := hd.nd
  have hdat := hd.at_
  obtain ⟨lf, hfx, hd2⟩ := Hd.fixA (fp := fp) hd
  rw [List.map_append, List.nodup_append] at hdn
  have ra := owa_kpm (OwA.app0 (ho (l2.trans lf) hfx) (owa_non nm ms hms)) is
  refine ⟨s, fixB B2 fp, Fr, [(x, HO.ins C dx [])] ++ [], sf, _, n, _, _, .cons (.ins (ks := []) (vs := []) (f := []) rfl .nil) ra, hF, asf, hd2.perm (pmc fun c k ca cc _ c0 => by simp only [ca, cc, c0]; omega), hn, fun o os' v B' H' kk fps' sf' n' ⟨er, o', rest, eo, hsc, q⟩ l3 ln w' w2 asf' hd' => ?_, fun C' d os' B' H' fps' sf' n' a fs v q l3 ln w2 asf' hd' h1 h2 h3 => ?_⟩
  · subst er eo
    cases w' with
    | fz rn =>
    cases rn
    cases w2 with
    | @cons _ _ _ _ f1 g1 wo wr =>
    have hd3 : Hd B' (sf' ++ (f1 ++ Fr)) H' := Hd.sub (hd'.perm (ch' := g1 ++ (sf' ++ (f1 ++ Fr))) (pmc fun c k ca cc _ c0 => by simp only [ca, c0]; omega)) (List.sublist_append_right g1 _)
    obtain ⟨l4, hd4⟩ := Hd.freeA2 l3 (fun p hp => (hdat p (List.mem_append_left _ hp)).2) hdn.1 hd3
    exact ⟨rfl, k o' _ H' f1 n' q (l2.trans l4) ln (Ow.sx (fun a xs hb => free_look l3 hfx hb fun p hp e => En.nu en hnt p hp xs e) (en.avR l4) wo hsc) ⟨en.mono l4, sf', asf', hd4⟩⟩
  · obtain ⟨hsc, q⟩ := hΨ _ _ _ q
    have hd3 := Hd.sub hd' (List.sublist_append_right fps' _)
    obtain ⟨l4, hd4⟩ := Hd.freeA2 l3 (fun p hp => (hdat p (List.mem_append_left _ hp)).2) hdn.1 hd3
    exact kx C' d _ H' n' a fs v q (l2.trans l4) ln ⟨en.mono l4, sf', asf', hd4⟩ (free_look l3 hfx h1 fun p hp e => En.nx en p hp fs e) h2 (scP_rp hsc h3 fun a xs hb => free_look l3 hfx hb fun p hp e => En.nu en hnt p hp xs e)
theorem v_makeS0 {F : FnW} {is : List Nat} {ms : List Str} {wa wk : AW} {E : L2.St → XK} (ha : VA S K W b1 c1 aa wa) (hk : VA S K W b2 c2 ak wk) : VE S K W (b1 && b2) (c1 + c2 + c3) (tMakeKS C n nk (SpV S K c3 F) (fun us ws => kpm (0 :: is.map (· + 1)) (us ++ (ws ++ ms.map fun _ => V.non))) E aa ak) (vMakeS0 C is n nk ms.length F wa wk) := by
  intro s ρ Φ Ψ Fr B σ H fp n1 m Q hw st hn hm k kx
  refine ha hw st (by omega) hm (fun xs ρ1 vs B1 H1 fp1 g1 n2 q l ln r st1 hb => ?_) kx
  refine hk q st1 (m := m) (by omega) hm (fun ys ρ2 us B2 H2 fp2 g2 n3 q l2 ln2 r2 st2 hb2 => ?_) (kx.mono l).frame
  obtain ⟨os, ho, hl1, hl2, hnt, hF⟩ := q
  have st2' : Sr S K s ρ2 σ B2 H2 (g1 ++ g2 ++ Fr) fp2 n3 := by
    obtain ⟨en, sf, asf, hd⟩ := st2
    exact ⟨en, sf, asf, hd.perm (pmc fun c k ca cc _ c0 => by simp only [ca]; omega)⟩
  have r3 := VlsR.app (r.mono l2) r2
  obtain ⟨en, sf, asf, hd⟩ := id st2'
  obtain ⟨lf, hfx, hd2⟩ := Hd.fixA (fp := fp2) hd
  obtain ⟨eg, ra⟩ := datX_ow ho en r3 lf hfx
  refine ⟨by rw [← r.len]; exact hl1, by rw [← r2.len]; exact hl2, fun x dx hx hdx hne => ?_⟩
  have e : kpm (0 :: is.map (· + 1)) ((V.ref x :: vs) ++ (us ++ ms.map fun _ => V.non)) = V.ref x :: kpm is ((vs ++ us) ++ ms.map fun _ => V.non) := by
    rw [List.append_assoc, ← kpm_self (V.ref x) (vs ++ (us ++ ms.map fun _ => V.non)) is]
    rfl
  show SpV S K c3 F (kpm (0 :: is.map (· + 1)) ((V.ref x :: vs) ++ (us ++ ms.map fun _ => V.non))) _ _ _
  rw [e]
  have hb3 : (b1 && b2) = true → ρ2 = ρ ∧ fp2 = fp := fun z => by
    rw [Bool.and_eq_true] at z
    obtain ⟨x1, x2⟩ := hb z.1
    obtain ⟨x3, x4⟩ := hb2 z.2
    exact ⟨x3.trans x1, x4.trans x2⟩
  rw [eg] at st2'
  exact make_goS (ρ := ρ2) (fp := fp2) (Φ := fun o => Φ (.ow o) ρ2) (Ψ := fun _ _ => False) rfl hx hdx hne (fun l' hp => (datX_ow ho en r3 l' hp).2) hnt hF (fun _ _ _ z => z.elim) st2' (by omega)
    (fun o B' H' kk n' q l3 ln3 w' st' => k _ ρ2 _ B' H' fp2 kk n' q ((l.trans l2).trans l3) (by omega) w' st' hb3)
    fun C d B' H' n' a fs v q l3 ln3 st' h1 h2 h3 => q.elim
def vDispK (ks : List Str) (wa : AW) : EW := fun ρ Φ Ψ => wa ρ (fun xs ρ1 => ∃ os, asO xs = some os ∧ os.length = ks.length ∧ Φ (.ow (.dic (ks.map .inr) os)) ρ1) Ψ
theorem v_dispK {ks : List Str} {wa : AW} (ha : VA S K W b c aa wa) : VE S K W b c (tDk ks aa) (vDispK ks wa) := by
  intro s ρ Φ Ψ Fr B σ H fp n m Q hw st hn hm k kx p hp
  have st0 := Sr.new (g := []) (Fr := Fr) st hp (.dK [])
  have kx0 : KX S K W s σ B ([(p, HO.dK [])] ++ Fr) m Ψ := kx.frame
  refine ha hw st0 hn hm (fun xs ρ1 vs B1 H1 fp1 g n1 q l ln r st1 hb1 => ?_) kx0
  obtain ⟨os, ho, hl, q⟩ := q
  have ow := asO_ow ho r
  obtain ⟨en, sf, asf, hd⟩ := st1
  have hd1 : Hd B1 ((p, HO.dK []) :: (fp1 ++ (sf ++ (g ++ Fr)))) H1 := hd.perm (pmc fun c k ca cc _ c0 => by simp only [ca, cc, c0]; omega)
  refine ⟨hd1.get, ?_⟩
  exact k _ ρ1 (.ref p) B1 _ fp1 ((p, HO.dK ((ks.map fun k => (.inr k : L2.Key)).zip vs)) :: g) n1 q l ln (.dic (by rw [List.length_map, ← hl]; exact ow.len) ow) ⟨en, sf, asf, (hd1.put _).perm (pmc fun c k ca cc _ c0 => by simp only [ca, cc, c0]; omega)⟩ hb1
def insI (k : Int) : List Int → List Int
  | [] => [k]
  | x :: xs => if k < x then k :: x :: xs else if k = x then x :: xs else x :: insI k xs
def sset (ks : List Int) : List Int := ks.foldr insI []
theorem mem_insI {k j : Int} : ∀ {xs : List Int}, j ∈ insI k xs ↔ j = k ∨ j ∈ xs
  | [] => by simp [insI]
  | x :: xs => by
    unfold insI
    split
    · simp
    · split
      · rename_i h1 h2
        subst h2
        simp
      · rw [List.mem_cons, mem_insI, List.mem_cons]
        constructor
        · rintro (h | h | h)
          · exact .inr (.inl h)
          · exact .inl h
          · exact .inr (.inr h)
        · rintro (h | h | h)
          · exact .inr (.inl h)
          · exact .inl h
          · exact .inr (.inr h)
theorem sorted_insI {k : Int} : ∀ {xs : List Int}, xs.Pairwise (· < ·) → (insI k xs).Pairwise (· < ·)
  | [], _ => by simp [insI]
  | x :: xs, h => by
    have h' := List.pairwise_cons.mp h
    unfold insI
    split
    · rename_i h1
      refine List.pairwise_cons.mpr ⟨fun y hy => ?_, h⟩
      rcases List.mem_cons.mp hy with rfl | hy
      · exact h1
      · have := h'.1 y hy
        omega
    · split
      · exact h
      · rename_i h1 h2
        refine List.pairwise_cons.mpr ⟨fun y hy => ?_, sorted_insI h'.2⟩
        rcases mem_insI.mp hy with rfl | hy
        · omega
        · exact h'.1 y hy
theorem mem_sset {k : Int} : ∀ {ks : List Int}, k ∈ sset ks ↔ k ∈ ks
  | [] => .rfl
  | x :: ks => by
    show k ∈ insI x (sset ks) ↔ _
    rw [mem_insI, mem_sset, List.mem_cons]
theorem sset_sorted : ∀ ks : List Int, (sset ks).Pairwise (· < ·)
  | [] => .nil
  | _ :: ks => sorted_insI (sset_sorted ks)
theorem asc_nodup {xs : List Int} (h : xs.Pairwise (· < ·)) : xs.Nodup := h.imp fun h e => by omega
theorem asc_ext {xs ys : List Int} (h1 : xs.Pairwise (· < ·)) (h2 : ys.Pairwise (· < ·)) (h : ∀ k, k ∈ xs ↔ k ∈ ys) : xs = ys := by
  have p : xs.Perm ys := (List.perm_ext_iff_of_nodup (asc_nodup h1) (asc_nodup h2)).mpr h
  exact p.eq_of_pairwise (fun a b _ _ h1 h2 => by omega) h1 h2
def dSortSet (w : DW) : DW := fun ρ Φ Ψ => w ρ (fun x ρ1 => ∃ ks : List Int, x = .lst (ks.map .int) ∧ ks.length < 64 ∧ Φ (.lst ((sset ks).map .int)) ρ1) Ψ
theorem rpa_ints : ∀ {ks : List Int} {vs : List V}, RpA K B vs (ks.map .int) → vs = ks.map V.int
  | [], _, h => by cases h; rfl
  | k :: ks, _, h => by
    rw [List.map_cons] at h
    cases h with
    | cons r t =>
      cases r
      rw [rpa_ints t]
      rfl
theorem ints_rpa : ∀ ks : List Int, RpA K B (ks.map V.int) (ks.map .int)
  | [] => .nil
  | k :: ks => .cons (.int k) (ints_rpa ks)
end
section
variable {ρ : List Ot} {nx bk ct : List Ot → Prop} {rt : Ot → List Ot → Prop} {xc Ψ : XW} {i n nk nm : Nat} {Φ : Dt → List Ot → Prop} {Φv : Vl → List Ot → Prop} {C : Addr} {F : FnW} {mt : Str} {is : List Nat} {o : Ot} {d : Dt}
theorem h_callS {wa : AW} (h : wa ρ (fun xs ρ1 => ∃ os, datX ρ1 xs = some os ∧ nuA ρ1 = true ∧ F os (fun o _ => o.sx ρ1 ∧ Φv (.ow o) ρ1) (fun C d _ => scP d = true ∧ Ψ C d ρ1)) Ψ) : vCallS F wa ρ Φv Ψ := h
theorem h_callS0 {wa : AW} (h : wa ρ (fun xs ρ1 => ∃ os, datX ρ1 xs = some os ∧ nuA ρ1 = true ∧ F os (fun o _ => o.sx ρ1 ∧ Φv (.ow o) ρ1) noX) Ψ) : vCallS0 F wa ρ Φv Ψ := h
theorem h_methS {w : DW} {wa : AW} (h : w ρ (fun x ρ1 => ∃ fs, x = .ins C fs ∧ fs.lookup mt = none ∧ wa ρ1 (fun xs ρ2 => ∃ os, datX ρ2 xs = some os ∧ nuA ρ2 = true ∧ F (.fz x :: os) (fun o _ => o.sx ρ2 ∧ Φv (.ow o) ρ2) (fun C d _ => scP d = true ∧ Ψ C d ρ2)) Ψ) Ψ) : vMethS C mt F w wa ρ Φv Ψ := h
theorem h_methS0 {w : DW} {wa : AW} (h : w ρ (fun x ρ1 => ∃ fs, x = .ins C fs ∧ fs.lookup mt = none ∧ wa ρ1 (fun xs ρ2 => ∃ os, datX ρ2 xs = some os ∧ nuA ρ2 = true ∧ F (.fz x :: os) (fun o _ => o.sx ρ2 ∧ Φv (.ow o) ρ2) noX) Ψ) Ψ) : vMethS0 C mt F w wa ρ Φv Ψ := h
theorem h_makeS {wa wk : AW} (h : wa ρ (fun xs ρ1 => wk ρ1 (fun ys ρ2 => ∃ os, datX ρ2 (xs ++ ys) = some os ∧ xs.length = n ∧ ys.length = nk ∧ nuA ρ2 = true ∧
  F (.ins C [] [] :: kpm is (os ++ List.replicate nm (.fz .non))) (fun r os' => r = .fz .non ∧ ∃ o rest, os' = o :: rest ∧ o.sx ρ2 ∧ Φv (.ow o) ρ2) (fun C d _ => scP d = true ∧ Ψ C d ρ2)) Ψ) Ψ) : vMakeS C is n nk nm F wa wk ρ Φv Ψ := h
theorem h_makeS0 {wa wk : AW} (h : wa ρ (fun xs ρ1 => wk ρ1 (fun ys ρ2 => ∃ os, datX ρ2 (xs ++ ys) = some os ∧ xs.length = n ∧ ys.length = nk ∧ nuA ρ2 = true ∧
  F (.ins C [] [] :: kpm is (os ++ List.replicate nm (.fz .non))) (fun r os' => r = .fz .non ∧ ∃ o rest, os' = o :: rest ∧ o.sx ρ2 ∧ Φv (.ow o) ρ2) noX) Ψ) Ψ) : vMakeS0 C is n nk nm F wa wk ρ Φv Ψ := h
theorem h_dispK {ks : List Str} {wa : AW} (h : wa ρ (fun xs ρ1 => ∃ os, asO xs = some os ∧ os.length = ks.length ∧ Φv (.ow (.dic (ks.map .inr) os)) ρ1) Ψ) : vDispK ks wa ρ Φv Ψ := h
theorem h_sortSet {w : DW} (h : w ρ (fun x ρ1 => ∃ ks : List Int, x = .lst (ks.map .int) ∧ ks.length < 64 ∧ Φ (.lst ((sset ks).map .int)) ρ1) Ψ) : dSortSet w ρ Φ Ψ := h
theorem g_varP (e : ρ[i]? = some o) (h : FzAv o d) (q : Φ d ρ) : dVarP i ρ Φ Ψ := ⟨o, d, e, h, q⟩
theorem g_cpy (e : ρ[i]? = some o) (h : FzAv o d) (q : Φv (.ow o) ρ) : vCpy i ρ Φv Ψ := ⟨o, d, e, h, q⟩
theorem g_avf {w : EW} (e : ρ[i]? = some (.fz d)) (q : ∀ v, stN i (.av v (.fz d)) ρ fun ρ2 => w ρ2 (fun x _ => ∃ o, x = .ow o ∧ Φv (.ow o.stp) ρ) (fun C x ρ' => ρ' = ρ2 ∧ Ψ C x ρ)) : vAvf i w ρ Φv Ψ := ⟨d, e, q⟩
end
end Vc
namespace Vc
open PySem PySem.Spec PyProof.Rows L2 Sx
section
variable {S : SrcRep} {K : PySem.W.Frag} {W : WX} {pn : Nat → Bool} {s s' : Option Addr} {ρ ρ' : List Ot} {σ σ' : L2.St} {B B' H H' : Hp} {Fr fp fp' g : Fp} {n n' m N N' nk : Nat} {b b1 b2 b3 g1 g2 : Bool} {c c1 c2 c3 : Nat} {te ta tb tc ti tk : TE} {aa ak : TA} {t : TS} {i j : Nat} {o : Ot} {C : Addr}
mutual
def noD : Dt → Bool
  | .int _ => true
  | .str _ => true
  | .bl _ => true
  | .non => true
  | .tup ds => noDA ds
  | .lst ds => noDA ds
  | _ => false
def noDA : List Dt → Bool
  | [] => true
  | d :: ds => noD d && noDA ds
end
mutual
theorem noD_rp (hb : ∀ a u, B a = some u → (∀ kvs, u ≠ .dK kvs) → B' a = some u) : ∀ {d : Dt} {v : V}, noD d = true → Rp K B v d → Rp K B' v d
  | .int i, _, _, r => by cases r; exact .int i
  | .str x, _, _, r => by cases r; exact .str x
  | .bl x, _, _, r => by cases r; exact .bl x
  | .non, _, _, r => by cases r; exact .non
  | .tup ds, _, h, r => by
    cases r with
    | tup h1 h2 => exact .tup (hb _ _ h1 fun _ z => by cases z) (noDA_rp hb (by unfold noD at h; exact h) h2)
  | .lst ds, _, h, r => by
    cases r with
    | lst h1 h2 => exact .lst (hb _ _ h1 fun _ z => by cases z) (noDA_rp hb (by unfold noD at h; exact h) h2)
  | .dic _, _, h, _ => by unfold noD at h; cases h
  | .dit _, _, h, _ => by unfold noD at h; cases h
  | .dx _ _ _, _, h, _ => by unfold noD at h; cases h
  | .ins _ _, _, h, _ => by unfold noD at h; cases h
  | .scr _, _, h, _ => by unfold noD at h; cases h
  | .ty _, _, h, _ => by unfold noD at h; cases h
  | .exn _ _ _ _, _, h, _ => by unfold noD at h; cases h
  | .wk _, _, h, _ => by unfold noD at h; cases h
theorem noDA_rp (hb : ∀ a u, B a = some u → (∀ kvs, u ≠ .dK kvs) → B' a = some u) : ∀ {ds : List Dt} {vs : List V}, noDA ds = true → RpA K B vs ds → RpA K B' vs ds
  | [], _, _, r => by cases r; exact .nil
  | d :: ds, _, h, r => by
    unfold noDA at h
    rw [Bool.and_eq_true] at h
    cases r with
    | cons r1 r2 => exact .cons (noD_rp hb h.1 r1) (noDA_rp hb h.2 r2)
end
theorem noDA_strs : ∀ ks : List Str, noDA (ks.map .str) = true
  | [] => rfl
  | _ :: ks => by rw [List.map_cons]; unfold noDA; rw [noDA_strs ks]; rfl
theorem noD_strs (ks : List Str) : noD (.lst (ks.map .str)) = true := by unfold noD; exact noDA_strs ks
def dBorD (i : Nat) (w : DW) : DW := fun ρ Φ _ => ∃ ks ds, ρ[i]? = some (.dic ks (List.map .fz ds)) ∧ w (ρ.set i (.fz (.dic (ks.zip ds)))) (fun x _ => noD x = true ∧ Φ x ρ) noX
theorem d_borD {w : DW} (h : VD S K W true c te w) : VD S K W true c te (dBorD i w) := by
  intro s ρ Φ Ψ Fr B σ H fp n m Q hw st hn hm k kx
  obtain ⟨ks, ds, e, hw⟩ := hw
  obtain ⟨en, sf, asf, hh⟩ := st
  obtain ⟨v, g, r1, r2, h1, h2, h3, h4, _⟩ := en.at_ e rfl
  subst h2
  have hp : (r1 ++ (g ++ r2) ++ (sf ++ Fr)).Perm (g ++ (r1 ++ r2 ++ (sf ++ Fr))) := pmc fun c k ca cc cp c0 => by simp only [ca]; omega
  have hh2 := hh.perm hp.symm
  have hdn := hh2.nd
  have hdat := hh2.at_
  obtain ⟨lf, hfx, hd2⟩ := Hd.fixA (fp := g) hh2
  rw [List.map_append, List.nodup_append] at hdn
  have rp := h3.rp (by show (toDs (ds.map .fz)).map _ = _; rw [toDs_fz]; rfl : toD (.dic ks (ds.map .fz)) = some (.dic (ks.zip ds))) lf hfx
  have gd : ∀ p ∈ g, ∃ kvs, p.2 = .dK kvs := by
    cases h3 with
    | dic le w0 =>
      obtain ⟨rfl, _⟩ := ow_dts w0
      intro p hp
      rw [List.mem_singleton.mp hp]
      exact ⟨_, rfl⟩
  have en2 := h4 (.fz (.dic (ks.zip ds))) v [] (fixB B g) lf (.fz rp)
  rw [set_same' h1, List.nil_append] at en2
  refine h hw (Fr := Fr) (B := fixB B g) (fp := r1 ++ r2) (n := n) ⟨en2, sf, asf, hd2⟩ hn hm (fun x ρ' v' B' H' fp' kk n' q l2 ln2 w' st' hb => ?_) (fun _ _ _ _ _ _ _ _ _ _ z => z.elim)
  obtain ⟨hsc, q⟩ := q
  obtain ⟨rx, rfl⟩ := w'
  obtain ⟨hb1, rfl⟩ := hb rfl
  obtain ⟨_, sf', asf', hd'⟩ := st'
  obtain ⟨l3, hd4⟩ := Hd.freeA2 l2 (fun p hp => (hdat p (List.mem_append_left _ hp)).2) hdn.1 hd'
  refine k _ ρ v' _ H' _ [] n' q l3 ln2 ⟨noD_rp (fun a u ha hu => free_look l2 hfx ha fun p hp e => ?_) hsc rx, rfl⟩ ⟨en.mono l3, sf', asf', hd4.perm ?_⟩ fun _ => ⟨rfl, rfl⟩
  · obtain ⟨kvs, e2⟩ := gd p hp
    exact hu kvs (e.symm.trans e2)
  · exact pmc fun c k ca cc cp c0 => by simp only [ca, c0]; omega
theorem h_dborD {w : DW} {Φ : Dt → List Ot → Prop} {Ψ : XW} {ks : List Key} {os : List Ot} {ds : List Dt} (e : ρ[i]? = some (.dic ks os)) (f : FzL os ds) (q : stN i (.fz (.dic (ks.zip ds))) ρ fun ρ' => w ρ' (fun x _ => noD x = true ∧ Φ x ρ) noX) : dBorD i w ρ Φ Ψ := by
  have f := f.eq
  subst f
  exact ⟨ks, ds, e, q⟩
def vBorX (i : Nat) (w : EW) : EW := fun ρ Φ _ => ∃ o d, ρ[i]? = some o ∧ o.nu = true ∧ toD o = some d ∧ w (ρ.set i (.fz d)) (fun x _ => ∃ o', x = .ow o' ∧ o'.sx ρ ∧ Φ (.ow o') ρ) noX
theorem v_borX {w : EW} (h : VE S K W true c te w) : VE S K W true c te (vBorX i w) := by
  intro s ρ Φ Ψ Fr B σ H fp n m Q hw st hn hm k kx
  obtain ⟨o, d, e, hnt, hd, hw⟩ := hw
  obtain ⟨en, sf, asf, hh⟩ := st
  have en0 := en
  have hno : o.isNo = false := by cases o <;> first | rfl | cases hd
  obtain ⟨v, g, r1, r2, h1, h2, h3, h4, _⟩ := en.at_ e hno
  subst h2
  have hp : (r1 ++ (g ++ r2) ++ (sf ++ Fr)).Perm (g ++ (r1 ++ r2 ++ (sf ++ Fr))) := pmc fun c k ca cc cp c0 => by simp only [ca]; omega
  have hh2 := hh.perm hp.symm
  have hdn := hh2.nd
  have hdat := hh2.at_
  obtain ⟨lf, hfx, hd2⟩ := Hd.fixA (fp := g) hh2
  rw [List.map_append, List.nodup_append] at hdn
  have rp := h3.rp hd lf hfx
  have en2 := h4 (.fz d) v [] (fixB B g) lf (.fz rp)
  rw [set_same' h1, List.nil_append] at en2
  refine h hw (Fr := Fr) (B := fixB B g) (fp := r1 ++ r2) (n := n) ⟨en2, sf, asf, hd2⟩ hn hm (fun x ρ' v' B' H' fp' kk n' q l2 ln2 w' st' hb => ?_) (fun _ _ _ _ _ _ _ _ _ _ z => z.elim)
  obtain ⟨o', rfl, hsc, q⟩ := q
  obtain ⟨hb1, rfl⟩ := hb rfl
  obtain ⟨_, sf', asf', hd'⟩ := st'
  obtain ⟨l3, hd4⟩ := Hd.freeA2 l2 (fun p hp => (hdat p (List.mem_append_left _ hp)).2) hdn.1 hd'
  refine k _ ρ v' _ H' _ kk n' q l3 ln2 (Ow.sx (fun a xs hb => free_look l2 hfx hb fun p hp e => Ow.nu h3 hnt p hp xs e) (en0.avR l3) w' hsc) ⟨en.mono l3, sf', asf', hd4.perm ?_⟩ fun _ => ⟨rfl, rfl⟩
  exact pmc fun c k ca cc cp c0 => by simp only [ca]; omega
theorem h_vborX {w : EW} {Φv : Vl → List Ot → Prop} {Ψ : XW} {o : Ot} {d : Dt} (e : ρ[i]? = some o) (hn : o.nu = true) (hd : toD o = some d) (q : stN i (.fz d) ρ fun ρ' => w ρ' (fun x _ => ∃ o', x = .ow o' ∧ o'.sx ρ ∧ Φv (.ow o') ρ) noX) : vBorX i w ρ Φv Ψ := ⟨o, d, e, hn, hd, q⟩
def vSortSet (w : DW) : EW := fun ρ Φ Ψ => w ρ (fun x ρ1 => ∃ ks : List Int, x = .lst (ks.map .int) ∧ ks.length < 64 ∧ Φ (.ow (.lst (((sset ks).map .int).map .fz))) ρ1) Ψ
theorem v_sortSet {w0 : World} {w : DW} (h : VD S K W b c te w) : VE S K W b c (tCB (rSortedSet w0) (tCons (tCB (rSetL w0) (tCons te tNil)) tNil)) (vSortSet w) := by
  intro s ρ Φ Ψ Fr B σ H fp n m Q hw st hn hm k kx
  refine h hw st hn hm (fun x ρ' v B' H' fp' g' n' q l ln r st' hb => ?_) kx
  obtain ⟨rx, rfl⟩ := r
  obtain ⟨ks, rfl, hl, q⟩ := q
  cases rx with
  | @lst a vs _ h1 h2 =>
  have e := rpa_ints h2
  subst e
  refine ⟨a, ks, rfl, st'.same _ _ h1, hl, fun p c hc hp => ?_⟩
  have st1 := Sr.new (g := []) (Fr := Fr) st' hp (SetO w0 p (fun j => decide (j ∈ ks)) c)
  refine ⟨p, _, c, rfl, upd_same, by omega, fun ns p2 hs hmem hlen hp2 => ?_⟩
  have ens : ns = sset ks := asc_ext hs (sset_sorted ks) fun k => by rw [hmem, decide_eq_true_iff, mem_sset]
  subst ens
  have st2 := Sr.new (g := []) (Fr := [(p, SetO w0 p (fun j => decide (j ∈ ks)) c)] ++ Fr) st1 hp2 (.lst ((sset ks).map V.int))
  obtain ⟨en, sf, asf, hd⟩ := st2
  refine k _ ρ' (.ref p2) B' _ fp' [(p2, .lst ((sset ks).map V.int))] n' q l ln (.lst (rpa_ow (ints_rpa _))) ⟨en, sf, asf, Hd.sub hd ?_⟩ hb
  exact ((((List.sublist_append_right _ Fr)).append_left [(p2, HO.lst ((sset ks).map V.int))]).append_left sf).append_left fp'
theorem h_vsortSet {w : DW} {Φv : Vl → List Ot → Prop} {Ψ : XW} (h : w ρ (fun x ρ1 => ∃ ks : List Int, x = .lst (ks.map .int) ∧ ks.length < 64 ∧ Φv (.ow (.lst (((sset ks).map .int).map .fz))) ρ1) Ψ) : vSortSet w ρ Φv Ψ := h
def dChain (f f' : Fd) (wa wb wc : DW) : DW := fun ρ Φ Ψ => wa ρ (fun x ρ1 => wb ρ1 (fun y ρ2 => f x y fun z => ∃ k, z = .bl k ∧ if k = true then wc ρ2 (fun u ρ3 => f' y u fun z' => Φ z' ρ3) Ψ else Φ (.bl false) ρ2) Ψ) Ψ
theorem d_chain {r r' : R2} {f f' : Fd} {wa wb wc : DW} (lf : Lf K r f) (lf' : Lf K r' f') (ha : VD S K W b1 c1 ta wa) (hb : VD S K W b2 c2 tb wb) (hc : VD S K W b3 c3 tc wc) : VD S K W (b1 && (b2 && b3)) (c1 + (c2 + c3)) (tChain r r' ta tb tc) (dChain f f' wa wb wc) := by
  refine Vx.bind ha fun x v B0 s σ g r0 ρ Φ Ψ Fr H fp n m Q hw st hn hm k kx => ?_
  obtain ⟨rx, e⟩ := r0
  subst e
  refine hb hw st (by omega) hm (fun y ρ' u B' H' fp' g' n' q l ln r1 st' hq => ?_) kx
  obtain ⟨ry, e⟩ := r1
  subst e
  obtain ⟨F, hcx, back⟩ := st'.hc
  refine lf x y _ q F B' H' _ v u hcx (Rp.mono l rx) ry fun z L' z' B2 H2 hz l2 c2' rz => ?_
  obtain ⟨d, e1, e2, kk, e3, qd⟩ := hz
  subst e1 e2 e3
  have st2 := back B2 H2 l2 c2'
  have rz' : Rp K B2 z' (.bl kk) := rz
  cases rz'
  refine ⟨kk, rfl, ?_⟩
  cases kk with
  | false =>
    rw [if_neg (fun z => by cases z)] at qd ⊢
    exact k _ ρ' (.bl false) B2 H2 fp' [] n' qd (l.trans l2) (by omega) ⟨.bl false, rfl⟩ st2 fun z => by
      rw [Bool.and_eq_true] at z
      exact hq z.1
  | true =>
    rw [if_pos rfl] at qd ⊢
    refine hc qd st2 (m := m) (by omega) hm (fun u2 ρ3 v3 B3 H3 fp3 g3 n3 q3 l3 ln3 r3 st3 hq3 => ?_) (kx.mono (l.trans l2))
    obtain ⟨ru, e⟩ := r3
    subst e
    obtain ⟨F3, hc3, back3⟩ := st3.hc
    refine lf' y u2 _ q3 F3 B3 H3 _ u v3 hc3 (Rp.mono (l2.trans l3) ry) ru fun z4 L4 z4' B4 H4 hz4 l4 c4' rz4 => ?_
    obtain ⟨d4, e4, e5, qd4⟩ := hz4
    subst e4 e5
    exact k d4 ρ3 z4' B4 H4 fp3 [] n3 qd4 (((l.trans l2).trans l3).trans l4) (by omega) ⟨rz4, rfl⟩ (back3 B4 H4 l4 c4') fun z => by
      rw [Bool.and_eq_true] at z
      obtain ⟨x1, x2⟩ := hq z.1
      obtain ⟨x3, x4⟩ := hq3 z.2
      exact ⟨x3.trans x1, x4.trans x2⟩
theorem g_chain {f f' : Fd} {wa wb wc : DW} {Φ : Dt → List Ot → Prop} {Ψ : XW} (h : wa ρ (fun x ρ1 => wb ρ1 (fun y ρ2 => f x y fun z => ∃ k, z = .bl k ∧ if k = true then wc ρ2 (fun u ρ3 => f' y u fun z' => Φ z' ρ3) Ψ else Φ (.bl false) ρ2) Ψ) Ψ) : dChain f f' wa wb wc ρ Φ Ψ := h
theorem FzAv.nu {o : Ot} {d : Dt} (h : FzAv o d) : o.nu = true := by
  rcases h with rfl | ⟨v, rfl⟩ <;> rfl
theorem FzAv.td {o : Ot} {d : Dt} (h : FzAv o d) : toD o = some d := by
  rcases h with rfl | ⟨v, rfl⟩ <;> rfl
theorem nuA_fz : ∀ ds : List Dt, nuA (ds.map .fz) = true
  | [] => rfl
  | d :: ds => by
    rw [List.map_cons]
    unfold nuA
    rw [nuA_fz ds]
    rfl
def vRevO (w : EW) : EW := fun ρ Φ Ψ => w ρ (fun x ρ1 => ∃ os, x = .ow (.lst os) ∧ Φ (.ow (.lst os.reverse)) ρ1) Ψ
theorem h_vrevO {w : EW} {Φv : Vl → List Ot → Prop} {Ψ : XW} (h : w ρ (fun x ρ1 => ∃ os, x = .ow (.lst os) ∧ Φv (.ow (.lst os.reverse)) ρ1) Ψ) : vRevO w ρ Φv Ψ := h
theorem nn_b {N : Bool → List Ot → Prop} {x : Bool} (h1 : N true ρ) (h0 : N false ρ) : N x ρ := by
  cases x
  · exact h0
  · exact h1
theorem ite_any {c : Prop} [Decidable c] {A B : Prop} (ha : c → A) (hb : ¬ c → B) : if c then A else B := by
  split
  · exact ha (by assumption)
  · exact hb (by assumption)
theorem datX_nil : datX ρ [] = some [] := rfl
theorem datX_fz {d : Dt} {xs : List Vl} {os : List Ot} (h : datX ρ xs = some os) : datX ρ (.ow (.fz d) :: xs) = some (.fz d :: os) := by
  unfold datX
  rw [h]
  rfl
theorem datX_oav {d : Dt} {u : V} {xs : List Vl} {os : List Ot} (h : datX ρ xs = some os) : datX ρ (.ow (.av u (.fz d)) :: xs) = some (.av u (.fz d) :: os) := by
  unfold datX
  rw [h]
  rfl
theorem datX_av {d : Dt} {u : V} {xs : List Vl} {os : List Ot} (e : ρ[i]? = some (.av u (.fz d))) (h : datX ρ xs = some os) : datX ρ (.rf i :: xs) = some (.av u (.fz d) :: os) := by
  unfold datX
  rw [e, h]
  rfl
theorem datX_rf {o : Ot} {d : Dt} {xs : List Vl} {os : List Ot} (e : ρ[i]? = some o) (hd : toD o = some d) (hn : ∀ u x, o ≠ .av u (.fz x)) (h : datX ρ xs = some os) : datX ρ (.rf i :: xs) = some (.fz d :: os) := by
  unfold datX
  rw [e, h]
  split
  · rename_i u x he
    cases he
    exact absurd rfl (hn u x)
  · rename_i o' hno he
    cases he
    rw [hd]
    rfl
  · rename_i he; cases he
theorem e_datX {xs : List Vl} {os : List Ot} {M : List Ot → Prop} (h : datX ρ xs = some os) (hn : nuA ρ = true) (q : M os) : ∃ os, datX ρ xs = some os ∧ nuA ρ = true ∧ M os := ⟨os, h, hn, q⟩
theorem e_datXm {xs : List Vl} {os : List Ot} {a a' b b' : Nat} {M : List Ot → Prop} (h : datX ρ xs = some os) (h1 : a = a') (h2 : b = b') (hn : nuA ρ = true) (q : M os) : ∃ os, datX ρ xs = some os ∧ a = a' ∧ b = b' ∧ nuA ρ = true ∧ M os := ⟨os, h, h1, h2, hn, q⟩
theorem toD_l {os : List Ot} {ds : List Dt} (h : toDs os = some ds) : toD (.lst os) = some (.lst ds) := by
  unfold toD
  rw [h]
  rfl
theorem toD_dc {ks : List Key} {os : List Ot} {ds : List Dt} (h : toDs os = some ds) : toD (.dic ks os) = some (.dic (ks.zip ds)) := by
  unfold toD
  rw [h]
  rfl
theorem toDs_nil : toDs [] = some [] := rfl
theorem toDs_c {o : Ot} {d : Dt} {os : List Ot} {ds : List Dt} (h : toD o = some d) (h2 : toDs os = some ds) : toDs (o :: os) = some (d :: ds) := by
  unfold toDs
  rw [h, h2]
theorem toD_f {d : Dt} : toD (.fz d) = some d := rfl
end
end Vc
namespace L2
open PySem PySem.Spec PyProof.Rows
end L2
namespace Vc
open PySem PySem.Spec PyProof.Rows L2 Sx
section
variable {S : SrcRep} {K : PySem.W.Frag} {W : WX} {ρ : List Ot} {b : Bool} {c : Nat} {te : TE} {a cc : Addr} {cls : Value} {d : Option Addr} {L : List Addr}
def dIsX (K : PySem.W.Frag) (a : Addr) (cls : Value) (d : Option Addr) (L : List Addr) (cc : Addr) (w : DW) : DW := fun ρ Φ Ψ => w ρ (fun x ρ1 => ∃ C dd d0 b, x = .exn a C dd d0 ∧ cls = .ref C ∧ d = some dd ∧ C ∈ L ∧ PySem.W.exmOne K (.ref C) (.ref cc) = some b ∧ Φ (.bl b) ρ1) Ψ
theorem g_isx {w : DW} {Φ : Dt → List Ot → Prop} {Ψ : XW} (h : w ρ (fun x ρ1 => ∃ C dd d0 b, x = .exn a C dd d0 ∧ cls = .ref C ∧ d = some dd ∧ C ∈ L ∧ PySem.W.exmOne K (.ref C) (.ref cc) = some b ∧ Φ (.bl b) ρ1) Ψ) : dIsX K a cls d L cc w ρ Φ Ψ := h
end
end Vc
namespace Vc
open PySem PySem.Spec PyProof.Rows L2 Sx
section
variable {K : PySem.W.Frag} {B H : Hp}
mutual
theorem Rp.kat (s : ∀ b ys, B b = some (.tup ys) → H b = some (.tup ys)) : ∀ {d : Dt} {v : V} {k : NK}, nkD d = some k → Rp K B v d → KAt H k v
  | .non, _, _, h, r => by cases h; cases r; exact .non
  | .int i, _, _, h, r => by cases h; cases r; exact .num i
  | .str x, _, _, h, r => by cases h; cases r; exact .text x
  | .tup ds, _, _, h, r => by
    unfold nkD at h
    cases q : nkDs ds with
    | none => rw [q] at h; cases h
    | some ks =>
      rw [q] at h; cases h
      cases r with
      | tup e t => exact .tup (s _ _ e) (RpA.kat s q t)
  | .bl _, _, _, h, _ => by cases h
  | .lst _, _, _, h, _ => by cases h
  | .dic _, _, _, h, _ => by cases h
  | .dit _, _, _, h, _ => by cases h
  | .ins _ _, _, _, h, _ => by cases h
  | .scr _, _, _, h, _ => by cases h
  | .ty _, _, _, h, _ => by cases h
  | .exn _ _ _ _, _, _, h, _ => by cases h
  | .wk _, _, _, h, _ => by cases h
  | .dx _ _ _, _, _, h, _ => by cases h
theorem RpA.kat (s : ∀ b ys, B b = some (.tup ys) → H b = some (.tup ys)) : ∀ {ds : List Dt} {vs : List V} {ks : List NK}, nkDs ds = some ks → RpA K B vs ds → KAtA H ks vs
  | [], _, _, h, r => by cases h; cases r; exact .nil
  | d :: ds, _, _, h, r => by
    unfold nkDs at h
    cases q : nkD d with
    | none => rw [q] at h; cases h
    | some k =>
      rw [q] at h
      cases q2 : nkDs ds with
      | none => rw [q2] at h; cases h
      | some ks =>
        rw [q2] at h; cases h
        cases r with
        | cons r0 r1 => exact .cons (Rp.kat s q r0) (RpA.kat s q2 r1)
end
theorem nkDs_app : ∀ {ks : List Dt} {ns : List NK} {ds : List Dt} {ms : List NK}, nkDs ks = some ns → nkDs ds = some ms → nkDs (ks ++ ds) = some (ns ++ ms)
  | [], _, _, _, h, h2 => by cases h; exact h2
  | k :: ks, _, _, _, h, h2 => by
    unfold nkDs at h
    cases q : nkD k with
    | none => rw [q] at h; cases h
    | some n =>
      rw [q] at h
      cases q2 : nkDs ks with
      | none => rw [q2] at h; cases h
      | some ns =>
        rw [q2] at h; cases h
        show nkDs (k :: (ks ++ _)) = _
        rw [nkDs, q, nkDs_app q2 h2]
        rfl
theorem valX_none {es : List XEn} {k : NK} (h : k ∉ es.map (·.1)) : valX es k = none := by
  unfold valX
  rw [List.find?_eq_none.mpr fun e he => by
    intro z
    exact h (List.mem_map.mpr ⟨e, he, of_decide_eq_true z⟩)]
  rfl
theorem putX_new {es : List XEn} {k : NK} {b : Addr} {v : V} (h : k ∉ es.map (·.1)) : putX es k b v = es ++ [(k, b, v)] := by
  unfold putX
  rw [valX_none h]
  rfl
end
/-- the data is a key -/
def keyN (y : Dt) (k : NK) : Prop := nkD y = some k ∧ k.depth ≤ 8 ∧ ∃ ds, y = .tup ds
section
variable {S : SrcRep} {K : PySem.W.Frag} {W : WX} {pn : Nat → Bool} {s s' : Option Addr} {ρ ρ' : List Ot} {σ σ' : L2.St} {B B' H H' : Hp} {Fr fp fp' g : Fp} {n n' m N N' : Nat} {b b1 b2 b3 g1 g2 : Bool} {c c1 c2 c3 : Nat} {te ta tb tc ti tk : TE} {t : TS} {i j : Nat} {o : Ot} {w0 : World}
theorem keyN.at {y : Dt} {k : NK} {v : V} (h : keyN y k) (s : Same B H) (r : Rp K B v y) : ∃ a, v = .ref a ∧ KAt H k (.ref a) ∧ k.depth ≤ 8 := by
  obtain ⟨h1, h2, ds, rfl⟩ := h
  have q := Rp.kat (fun b ys e => s b _ e) h1 r
  cases r with
  | tup e t => exact ⟨_, rfl, q, h2⟩
def isX (w0 : World) (i : Nat) (ρ : List Ot) : Prop := ∃ ks os, ρ[i]? = some (.dx w0 ks os)
/-- k in d -/
def dXIn (w0 : World) (neg : Bool) (i : Nat) (w : DW) : DW := fun ρ Φ Ψ => w ρ (fun y ρ1 => ∃ ks os nks k, ρ1[i]? = some (.dx w0 ks os) ∧ nkDs ks = some nks ∧ keyN y k ∧ Φ (.bl (if neg then !decide (k ∈ nks) else decide (k ∈ nks))) ρ1) Ψ
/-- {} -/
def vXNew (w0 : World) : EW := fun ρ Φ _ => Φ (.ow (.dx w0 [] [])) ρ
/-- d[k] = v -/
def sSetX (w0 : World) (i : Nat) (u : EW) (w : DW) : SW := fun ρ E => u ρ (fun y ρ0 => oneO y ρ0 fun o ρ1 => isX w0 i ρ1 ∧ w ρ1 (fun d ρ2 => ∃ ks os nks k, ρ2[i]? = some (.dx w0 ks os) ∧ nkDs ks = some nks ∧ keyN d k ∧ ks.length < 1000000 ∧
  ((k ∉ nks ∧ E.nx (ρ2.set i (.dx w0 (ks ++ [d]) (os ++ [o])))) ∨ ∃ n1 n2 o1 x o2, nks = n1 ++ k :: n2 ∧ os = o1 ++ x :: o2 ∧ n1.length = o1.length ∧ k ∉ n1 ∧ k ∉ n2 ∧ E.nx (ρ2.set i (.dx w0 ks (o1 ++ o :: o2))))) E.xc) E.xc
end
end Vc
namespace Vc
open PySem PySem.Spec PyProof.Rows L2 Sx SrtT
section
variable {S : SrcRep} {K : PySem.W.Frag} {W : WX} {pn : Nat → Bool} {s s' : Option Addr} {ρ ρ' : List Ot} {σ σ' : L2.St} {B B' H H' : Hp} {Fr fp fp' g : Fp} {n n' m N N' : Nat} {b b1 b2 b3 g1 g2 : Bool} {c c1 c2 c3 : Nat} {te ta tb tc ti tk : TE} {t : TS} {i j : Nat} {o : Ot} {w0 : World}
def sGhA (w : SW) : SW := fun ρ E => w ρ { E with nx := Gh E.nx }
end
section
variable {ρ : List Ot} {nx bk ct : List Ot → Prop} {rt : Ot → List Ot → Prop} {xc Ψ : XW} {i j : Nat} {Φ : Dt → List Ot → Prop} {Φv : Vl → List Ot → Prop} {pn : Nat → Bool} {w0 : World}
theorem g_dxin {neg : Bool} {w : DW} (h : w ρ (fun y ρ1 => ∃ ks os nks k, ρ1[i]? = some (.dx w0 ks os) ∧ nkDs ks = some nks ∧ keyN y k ∧ Φ (.bl (if neg then !decide (k ∈ nks) else decide (k ∈ nks))) ρ1) Ψ) : dXIn w0 neg i w ρ Φ Ψ := h
theorem g_vxnew (h : Φv (.ow (.dx w0 [] [])) ρ) : vXNew w0 ρ Φv Ψ := h
theorem h_setX {u : EW} {w : DW} (h : u ρ (fun y ρ0 => oneO y ρ0 fun o ρ1 => isX w0 i ρ1 ∧ w ρ1 (fun d ρ2 => ∃ ks os nks k, ρ2[i]? = some (.dx w0 ks os) ∧ nkDs ks = some nks ∧ keyN d k ∧ ks.length < 1000000 ∧
  ((k ∉ nks ∧ stN i (.dx w0 (ks ++ [d]) (os ++ [o])) ρ2 nx) ∨ ∃ n1 n2 o1 x o2, nks = n1 ++ k :: n2 ∧ os = o1 ++ x :: o2 ∧ n1.length = o1.length ∧ k ∉ n1 ∧ k ∉ n2 ∧ stN i (.dx w0 ks (o1 ++ o :: o2)) ρ2 nx)) xc) xc) : sSetX w0 i u w ρ ⟨nx, rt, xc, bk, ct⟩ := h
theorem g_ghA {w : SW} (h : w ρ ⟨Gh nx, rt, xc, bk, ct⟩) : sGhA w ρ ⟨nx, rt, xc, bk, ct⟩ := h
end
theorem look3 {α : Type} {f g g2 g3 : Str} {x x2 x3 d : α} {r : List (Str × α)} (h : (f == g) = false) (h2 : (f == g2) = false) (h3 : (f == g3) = false) : ((g, x) :: (g2, x2) :: (g3, x3) :: (f, d) :: r).lookup f = some d := by simp [List.lookup, h, h2, h3]
theorem look4 {α : Type} {f g g2 g3 g4 : Str} {x x2 x3 x4 d : α} {r : List (Str × α)} (h : (f == g) = false) (h2 : (f == g2) = false) (h3 : (f == g3) = false) (h4 : (f == g4) = false) : ((g, x) :: (g2, x2) :: (g3, x3) :: (g4, x4) :: (f, d) :: r).lookup f = some d := by simp [List.lookup, h, h2, h3, h4]
end Vc
namespace Vc
open PySem PySem.Spec PyProof.Rows L2 Sx
section
variable {S : SrcRep} {K : PySem.W.Frag} {W : WX} {pn : Nat → Bool} {s s' : Option Addr} {ρ ρ' : List Ot} {σ σ' : L2.St} {B B' H H' : Hp} {Fr fp fp' g : Fp} {n n' m N N' nk : Nat} {b b1 b2 b3 g1 g2 : Bool} {c c1 c2 c3 : Nat} {te ta tb tc ti tk : TE} {aa ak : TA} {t : TS} {i j : Nat} {o : Ot} {C : Addr} {is : List Nat} {mt : Str}
def vMethKwS0 (C : Addr) (mt : Str) (is : List Nat) (nk : Nat) (F : FnW) (w : DW) (wk : AW) : EW := fun ρ Φ Ψ => w ρ (fun x ρ1 => ∃ fs, x = .ins C fs ∧ fs.lookup mt = none ∧ wk ρ1 (fun ys ρ2 => ∃ os, datX ρ2 ys = some os ∧ nuA ρ2 = true ∧ ys.length = nk ∧
  F (kpm is (.fz x :: os)) (fun o _ => o.sx ρ2 ∧ Φ (.ow o) ρ2) noX) Ψ) Ψ
theorem g_methKwS0 {Φv : Vl → List Ot → Prop} {Ψ : XW} {F : FnW} {w : DW} {wk : AW} (h : w ρ (fun x ρ1 => ∃ fs, x = .ins C fs ∧ fs.lookup mt = none ∧ wk ρ1 (fun ys ρ2 => ∃ os, datX ρ2 ys = some os ∧ nuA ρ2 = true ∧ ys.length = nk ∧ F (kpm is (.fz x :: os)) (fun o _ => o.sx ρ2 ∧ Φv (.ow o) ρ2) noX) Ψ) Ψ) : vMethKwS0 C mt is nk F w wk ρ Φv Ψ := h
end
end Vc
namespace Vc
open PySem PySem.Spec PyProof.Rows L2 Sx
end Vc
namespace Vc
open PySem PySem.Spec PyProof.Rows L2 Sx
end Vc
namespace Vc
open PySem PySem.Spec PyProof.Rows L2 Sx
section
variable {S : SrcRep} {K : PySem.W.Frag} {W : WX} {pn : Nat → Bool} {s s' : Option Addr} {ρ ρ' : List Ot} {σ σ' : L2.St} {B B' H H' : Hp} {Fr fp fp' g : Fp} {n n' m : Nat} {b b1 b2 : Bool} {c c1 c2 : Nat} {te ti : TE} {i j : Nat} {Φv : Vl → List Ot → Prop} {Φ : Dt → List Ot → Prop} {Ψ : XW}
/-- a subscript's number, read without change -/
def IxR (K : PySem.W.Frag) (ti : TE) (w : List Ot → Int → Prop) : Prop := ∀ ⦃s B ρ σ fp x⦄, w ρ x → En K B s ρ σ fp → ∀ H Q, Q (.int x) H → ti σ H Q
abbrev PW := List Ot → Ot → (Ot → Ot) → Ot → Prop
end
end Vc
namespace Vc
open PySem PySem.Spec PyProof.Rows L2 Sx
section
variable {S : SrcRep} {K : PySem.W.Frag} {W : WX} {pn : Nat → Bool} {s s' : Option Addr} {ρ ρ' : List Ot} {σ σ' : L2.St} {B B' H H' : Hp} {Fr fp fp' g : Fp} {n n' m nk : Nat} {b b1 b2 : Bool} {c c1 c2 c3 : Nat} {te ti : TE} {aa ak : TA} {i j : Nat} {C : Addr} {Φv : Vl → List Ot → Prop} {Ψ : XW}
def vMakeD (C : Addr) (is : List Nat) (n nk nm : Nat) (F : FnW) (wa wk : LW) : EW := fun ρ Φ Ψ => wa ρ (fun xs ρ1 => wk ρ1 (fun ys ρ2 => xs.length = n ∧ ys.length = nk ∧
  F (.ins C [] [] :: kpm is ((xs ++ ys).map .fz ++ List.replicate nm (.fz .non))) (fun r os' => r = .fz .non ∧ ∃ o rest, os' = o :: rest ∧ Φ (.ow o) ρ2) (fun C d _ => Ψ C d ρ2)) Ψ) Ψ
theorem rpa_app : ∀ {v1 v2 : List V} {d1 d2 : List Dt}, RpA K B v1 d1 → RpA K B v2 d2 → RpA K B (v1 ++ v2) (d1 ++ d2)
  | _, _, _, _, .nil, h => h
  | _, _, _, _, .cons r t, h => .cons r (rpa_app t h)
/-- .. that lets nothing out -/
def vMakeD0 (C : Addr) (is : List Nat) (n nk nm : Nat) (F : FnW) (wa wk : LW) : EW := fun ρ Φ Ψ => wa ρ (fun xs ρ1 => wk ρ1 (fun ys ρ2 => xs.length = n ∧ ys.length = nk ∧
  F (.ins C [] [] :: kpm is ((xs ++ ys).map .fz ++ List.replicate nm (.fz .non))) (fun r os' => r = .fz .non ∧ ∃ o rest, os' = o :: rest ∧ Φ (.ow o) ρ2) noX) Ψ) Ψ
theorem h_makeD {is : List Nat} {nm : Nat} {F : FnW} {wa wk : LW} (h : wa ρ (fun xs ρ1 => wk ρ1 (fun ys ρ2 => xs.length = n ∧ ys.length = nk ∧ F (.ins C [] [] :: kpm is ((xs ++ ys).map .fz ++ List.replicate nm (.fz .non))) (fun r os' => r = .fz .non ∧ ∃ o rest, os' = o :: rest ∧ Φv (.ow o) ρ2) (fun C d _ => Ψ C d ρ2)) Ψ) Ψ) : vMakeD C is n nk nm F wa wk ρ Φv Ψ := h
theorem h_makeD0 {is : List Nat} {nm : Nat} {F : FnW} {wa wk : LW} (h : wa ρ (fun xs ρ1 => wk ρ1 (fun ys ρ2 => xs.length = n ∧ ys.length = nk ∧ F (.ins C [] [] :: kpm is ((xs ++ ys).map .fz ++ List.replicate nm (.fz .non))) (fun r os' => r = .fz .non ∧ ∃ o rest, os' = o :: rest ∧ Φv (.ow o) ρ2) noX) Ψ) Ψ) : vMakeD0 C is n nk nm F wa wk ρ Φv Ψ := h
end
end Vc
namespace Vc
open PySem PySem.Spec PyProof.Rows L2 Sx
section
variable {S : SrcRep} {K : PySem.W.Frag} {W : WX} {pn : Nat → Bool} {s s' : Option Addr} {ρ ρ' : List Ot} {σ σ' : L2.St} {B B' H H' : Hp} {Fr fp fp' g : Fp} {n n' m nk : Nat} {b b1 b2 : Bool} {c c1 c2 c3 : Nat} {te ti : TE} {aa ak : TA} {i j : Nat} {C : Addr} {mt : Str} {Φv : Vl → List Ot → Prop} {Ψ : XW}
/-- a promise about the arguments behind the first one -/
def tlF (P : List Ot → Prop) : List Ot → Prop
  | _ :: os => P os
  | [] => False
def vMethO (C : Addr) (mt : Str) (F : FnW) (w : DW) (wa : AW) : EW := fun ρ Φ Ψ => w ρ (fun x ρ1 => ∃ fs, x = .ins C fs ∧ fs.lookup mt = none ∧ wa ρ1 (fun xs ρ2 => ∃ os, argO ρ2 xs = some os ∧
  F (.fz x :: os) (fun o os' => tlF (fun r => Φ (.ow o) (backO ρ2 xs r)) os') (fun C d os' => tlF (fun r => Ψ C d (backO ρ2 xs r)) os')) Ψ) Ψ
def vMakeO (C : Addr) (n nk : Nat) (F : FnW) (wa wk : AW) : EW := fun ρ Φ Ψ => wa ρ (fun xs ρ1 => wk ρ1 (fun ys ρ2 => ∃ os, argO ρ2 (xs ++ ys) = some os ∧ xs.length = n ∧ ys.length = nk ∧
  F (.ins C [] [] :: os) (fun r os' => r = .fz .non ∧ ∃ o rest, os' = o :: rest ∧ Φ (.ow o) (backO ρ2 (xs ++ ys) rest)) (fun C d os' => tlF (fun r => Ψ C d (backO ρ2 (xs ++ ys) r)) os')) Ψ) Ψ
theorem h_methO {F : FnW} {w : DW} {wa : AW} (h : w ρ (fun x ρ1 => ∃ fs, x = .ins C fs ∧ fs.lookup mt = none ∧ wa ρ1 (fun xs ρ2 => ∃ os, argO ρ2 xs = some os ∧
  F (.fz x :: os) (fun o os' => tlF (fun r => bkE ρ2 xs r fun ρ3 => Φv (.ow o) ρ3) os') (fun C d os' => tlF (fun r => bkE ρ2 xs r fun ρ3 => Ψ C d ρ3) os')) Ψ) Ψ) : vMethO C mt F w wa ρ Φv Ψ := h
theorem h_makeO {F : FnW} {wa wk : AW} (h : wa ρ (fun xs ρ1 => wk ρ1 (fun ys ρ2 => ∃ os, argO ρ2 (xs ++ ys) = some os ∧ xs.length = n ∧ ys.length = nk ∧
  F (.ins C [] [] :: os) (fun r os' => r = .fz .non ∧ ∃ o rest, os' = o :: rest ∧ bkE ρ2 (xs ++ ys) rest fun ρ3 => Φv (.ow o) ρ3) (fun C d os' => tlF (fun r => bkE ρ2 (xs ++ ys) r fun ρ3 => Ψ C d ρ3) os')) Ψ) Ψ) : vMakeO C n nk F wa wk ρ Φv Ψ := h
/-- a list of data, one's own or fixed, or any other fixed data -/
def LsO (o : Ot) (d : Dt) : Prop := o = .fz d ∨ ∃ ds, o = .lst (ds.map .fz) ∧ d = .lst ds
theorem LsO.d {o : Ot} {d : Dt} (h : LsO o d) : toD o = some d := by
  rcases h with rfl | ⟨ds, rfl, rfl⟩
  · rfl
  · simp [toD, toDs_fz]
theorem LsO.no {o : Ot} {d : Dt} (h : LsO o d) : o.isNo = false := by
  rcases h with rfl | ⟨ds, rfl, rfl⟩ <;> rfl
theorem e_tlF {P : List Ot → Prop} {o : Ot} {os : List Ot} (h : P os) : tlF P (o :: os) := h
theorem KnR.imp {P : Program} {w0 : World} {mg : Str → Option Value} {base : Heap} {k : Nat} {R : Addr → Prop} {ps : List Str} {F F' : FnW} (G : KnR S P w0 K mg base k c R ps F) (h : ∀ os Φ Ψ, F' os Φ Ψ → F os Φ Ψ) : KnR S P w0 K mg base k c R ps F' := by
  obtain ⟨f, fd, a, cc, d⟩ := G
  exact ⟨f, fd, a, cc, d.imp fun vs H Q E ⟨s, B, Fr, fps, sf, os, n, Φ, Ψ, w0, hF, asf, hd, hn, kq, kx⟩ =>
    ⟨s, B, Fr, fps, sf, os, n, Φ, Ψ, w0, h _ _ _ hF, asf, hd, hn, kq, kx⟩⟩
end
end Vc
namespace Sx
open PySem PySem.Spec PyProof.Rows L2
section
variable {M : Model} {prog : Program} {w : World} {A : Around} {E : Value → Shared → Prop} {s : Shared} {K : PySem.W.Frag} {x C f : Addr} {ox : Obj} {od : Option Obj} {b : Value}
theorem ifBound_objNe {args : List Value} {Q : Option Value → Shared → Prop} (X : K.In s.heap) (I : PySem.W.InstAt s.heap x ox C od) (hs : PySem.W.findIn K (.ref C) "__ne__" = some (some (.builtin "object.__ne__")))
    (h : wpAny M A (call (.builtin "object.__ne__") (.ref x :: args)) (fun v => Q (some v)) E s) : wpAny M A (callSpecialIfBound? (.ref x) "__ne__" args) Q E s := by
  simp only [callSpecialIfBound?, bindSpecialIfBound?]
  refine wpAny_holding (wpAny_bind (wpAny_bind (wpAny_bind (I.type.here ((PySem.W.looks_findIn X hs).here ?_)))))
  refine wpAny_bind (wpAny_askSetting (wpAny_ite ?_))
  have fin : wpAny M A (call (.builtin "object.__ne__") ([.ref x] ++ args) >>= fun v => pure (some v)) Q E s := wpAny_bind (wpAny_mono h (fun v s' h' => wpAny_pure h') fun _ _ h' => h')
  split
  · exact wpAny_bind (wpAny_of_eq (F.cmp_object.ne.bind _) (wpAny_pure (by exact fin)))
  · exact wpAny_tryCatch (wpAny_bind (wpAny_of_eq (F.cmp_object.ne.bind _) (wpAny_pure (by exact fin))))
theorem entry_objNe {Q : Fin → Shared → Prop} (hu : A.units < cLine) (X : K.In s.heap) (I : PySem.W.InstAt s.heap x ox C od) (hs : PySem.W.findIn K (.ref C) "__eq__" = some (some (.ref f))) (hf : PySem.W.isFn K (.ref f) = true)
    (h : wpAny M A (call (.ref f) [.ref x, b]) (fun v s' => ∃ k, v = .bool k ∧ Q (.done (.ret (.bool (!k)))) s') E s) : wpAny M A (Builtin.«object.__ne__» ⟨[.ref x, b], []⟩) Q E s := by
  unfold Builtin.«object.__ne__»
  repeat (first | with_reducible refine wpAny_cRoomFor hu ?_ | with_reducible refine PySem.W.ifBound_K X I hs hf (wpAny_mono h ?_ fun _ _ e => e) | wp_step)
  rintro v s' ⟨k, rfl, q⟩
  refine wpAny_bind (wpAny_truthy_bool ?_)
  exact wpAny_pure q
theorem call_objNe {Q : Value → Shared → Prop} (hu : A.units + 1 < cLine) (X : K.In s.heap) (I : PySem.W.InstAt s.heap x ox C od) (hm : PySem.W.mroIn K C (.type "object") = some true) (hs : PySem.W.findIn K (.ref C) "__eq__" = some (some (.ref f))) (hf : PySem.W.isFn K (.ref f) = true)
    (h : wpAny (model prog w) A.in1 (call (.ref f) [.ref x, b]) (fun v s' => ∃ k, v = .bool k ∧ Q (.bool (!k)) s') E s) : wpAny (model prog w) A (call (.builtin "object.__ne__") [.ref x, b]) Q E s :=
  wpAny_call (codeAny_call_builtin F.cmp_object.ne.plain F.cmpEntry_ne (PySem.W.check_slot F.cmpKind_ne F.cmpSplit_ne (I.type.andThen (PySem.W.looks_mroIn X hm)) (F.cmpArgs_ne _ _) (entry_objNe (A := A.in1) hu X I hs hf h)))
end
end Sx
namespace Sx
open PySem PySem.Spec PyProof.Rows L2
section
variable {prog : Program} {w : World} {A : Around} {E : Value → Shared → Prop} {s : Shared} {K : PySem.W.Frag} {x C f : Addr} {ox : Obj} {od : Option Obj} {b tb : Value}
theorem cmp_objNe {Q : Value → Shared → Prop} (hu : A.units + 1 < cLine) (X : K.In s.heap) (I : PySem.W.InstAt s.heap x ox C od) (hb : PySem.W.Looks (model prog w) s.heap (typeOf b) tb) (hn : PySem.W.notFirst K C tb = true) (hm : PySem.W.mroIn K C (.type "object") = some true)
    (hne : PySem.W.findIn K (.ref C) "__ne__" = some (some (.builtin "object.__ne__"))) (hs : PySem.W.findIn K (.ref C) "__eq__" = some (some (.ref f))) (hf : PySem.W.isFn K (.ref f) = true)
    (h : wpAny (model prog w) A.in1 (call (.ref f) [.ref x, b]) (fun v s' => ∃ k, v = .bool k ∧ Q (.bool (!k)) s') E s) : wpAny (model prog w) A (richCompare .NotEq (.ref x) b) Q E s := by
  have one : wpAny (model prog w) A (tryCompare (.ref x) (cmpInfo .NotEq).2.1 b) (fun r s' => ∃ v, r = some v ∧ Q v s') E s := by
    unfold tryCompare
    refine wpAny_bind (ifBound_objNe X I hne (call_objNe hu X I hm hs hf (wpAny_mono h (fun v s' hv => ?_) fun _ _ e => e)))
    obtain ⟨k, rfl, q⟩ := hv
    exact ⟨k, rfl, wpAny_pure ⟨_, rfl, q⟩⟩
  unfold richCompare
  simp only [oneThing_ref]
  refine wpAny_holding (wpAny_bind (wpAny_cRoomFor (by omega) ?_))
  refine wpAny_bind (I.type.here (wpAny_bind (hb.here ?_)))
  split
  · rename_i q
    have e : PySem.W.subIn K tb (.ref C) = some false := by
      rcases Bool.or_eq_true_iff.mp hn with e | e
      · rw [beq_iff_eq.mp e] at q; simp at q
      · exact beq_iff_eq.mp e
    refine wpAny_bind ((PySem.W.looks_subIn X e).here ?_)
    simp only [Bool.false_eq_true, if_false]
    refine wpAny_bind (wpAny_mono one (fun r s' z => ?_) fun _ _ e => e)
    obtain ⟨v, rfl, hq⟩ := z
    exact wpAny_pure hq
  · refine wpAny_bind (wpAny_pure ?_)
    simp only [Bool.false_eq_true, if_false]
    refine wpAny_bind (wpAny_mono one (fun r s' z => ?_) fun _ _ e => e)
    obtain ⟨v, rfl, hq⟩ := z
    exact wpAny_pure hq
end
/-- what may stand on the right -/
inductive OthV (K : PySem.W.Frag) (C : Addr) (H : Hp) : V → Prop
  | ins {b dy : Addr} {gs : List (Str × V)} : H b = some (.ins C dy gs) → OthV K C H (.ref b)
  | insD {b D dy : Addr} {gs : List (Str × V)} : H b = some (.ins D dy gs) → PySem.W.subIn K (.ref D) (.ref C) = some false → OthV K C H (.ref b)
  | non : OthV K C H .non
  | int (i : Int) : OthV K C H (.int i)
  | str (x : Str) : OthV K C H (.str x)
  | bl (k : Bool) : OthV K C H (.bl k)
  | lst {a : Addr} {xs : List V} : SqL K H a xs → OthV K C H (.ref a)
  | tup {a : Addr} {xs : List V} : SqT K H a xs → OthV K C H (.ref a)
theorem sub_ty {K : PySem.W.Frag} {C : Addr} {n : String} {l : List String} (e : fastBuiltinMro n = some (l.map .type)) : PySem.W.notFirst K C (.type n) = true := by
  have e2 : PySem.W.subIn K (.type n) (.ref C) = some false := by
    show (fastBuiltinMro n).map (·.contains (.ref C)) = some false
    rw [e, Option.map_some]
    congr 1
    clear e
    induction l with
    | nil => rfl
    | cons y l ih => rw [List.map_cons, List.contains_cons, ih]; rfl
  unfold PySem.W.notFirst
  rw [e2]
  simp
section
variable {X : Cx} {pins : List (Addr × Obj)} {σ : L2.St} {H : Hp} {s : Shared} {C : Addr} {y : V} {u : Value}
theorem OthV.ty (I : Inv X pins σ H s) (r : RelV y u) (h : OthV X.K C H y) : ∃ tb, (∀ M, PySem.W.Looks M s.heap (typeOf u) tb) ∧ PySem.W.notFirst X.K C tb = true := by
  cases h with
  | ins hb =>
    cases (show u = Value.ref _ from r)
    obtain ⟨mB, J', _⟩ := ins_get I.hok hb
    obtain ⟨od', J', _⟩ := J'.look
    exact ⟨_, fun M => J'.type, by simp [PySem.W.notFirst]⟩
  | insD hb hd =>
    cases (show u = Value.ref _ from r)
    obtain ⟨mB, J', _⟩ := ins_get I.hok hb
    obtain ⟨od', J', _⟩ := J'.look
    exact ⟨_, fun M => J'.type, by unfold PySem.W.notFirst; rw [hd]; simp⟩
  | non => cases r; exact ⟨.type "NoneType", fun M => .of_pure rfl, sub_ty (l := ["NoneType", "object"]) (by decide +kernel)⟩
  | int i => obtain ⟨t, rfl⟩ : ∃ t, u = Value.int i t := r; exact ⟨.type "int", fun M => .of_pure rfl, sub_ty (l := ["int", "object"]) (by decide +kernel)⟩
  | str i => obtain ⟨t, rfl⟩ : ∃ t, u = Value.str i t := r; exact ⟨.type "str", fun M => .of_pure rfl, sub_ty (l := ["str", "object"]) (by decide +kernel)⟩
  | bl i => cases r; exact ⟨.type "bool", fun M => .of_pure rfl, sub_ty (l := ["bool", "int", "object"]) (by decide +kernel)⟩
  | lst hl =>
    cases (show u = Value.ref _ from r)
    obtain ⟨its, rv, ⟨o, n, e, hc, _, _⟩, _⟩ := I.list hl
    exact ⟨.type "list", fun M => hc ▸ (PySem.W.Looks.ld e).andThen .now, sub_ty (l := ["list", "object"]) (by decide +kernel)⟩
  | tup hl =>
    cases (show u = Value.ref _ from r)
    obtain ⟨its, rv, ⟨o, e, hc, _⟩, _⟩ := I.tuple hl
    exact ⟨.type "tuple", fun M => hc ▸ (PySem.W.Looks.ld e).andThen .now, sub_ty (l := ["tuple", "object"]) (by decide +kernel)⟩
def rCmpX (K : PySem.W.Frag) (neg : Bool) (C : Addr) (sp : Sp) (E : XK) : R2 := fun x y H Q => ∃ a dx fs, x = .ref a ∧ H a = some (.ins C dx fs) ∧ OthV K C H y ∧ sp [.ref a, y] H (fun v H' => ∃ k, v = .bl k ∧ Q (.bl (if neg then !k else k)) H') E
theorem op_eqX {CX : CXT} {k : Nat} {f : Addr} {fd : FuncData} {ps : List Str} {sp : Sp} {E : XK} (m : Meth X.K C "__eq__" f) (F : FnOk X.prog X.w X.K X.mg X.base CX k f fd ps sp) (hr : Room k X.A) (hb : Binds X.K fd ps []) (hx : Passes CX X E) :
    OpR X (compareOp .Eq) (rCmpX X.K false C sp E) := by
  intro pins s σ H x y v u Q I rx ry h
  obtain ⟨a, dx, fs, rfl, ha, ho, hsp⟩ := h
  cases (show v = Value.ref a from rx)
  obtain ⟨mA, J, _⟩ := ins_get I.hok ha
  obtain ⟨od, J, _⟩ := J.look
  obtain ⟨tb, L, hn⟩ := ho.ty I ry
  obtain ⟨m0, hF⟩ := I.fr
  show wpAny (model X.prog X.w) X.A (richCompare .Eq (.ref a) u) (EP X pins σ Q) X.xe s
  refine PySem.W.cmp_K (op := .Eq) (tb := tb) hr.units0 hF I.ok.mod.kin J (L _) hn m.at_ m.fn ?_
  have hl := F.len _ _ _ _ hsp
  have r2 : Vals [V.ref a, y] [Value.ref a, u] := .cons rfl (.cons ry .nil)
  refine wpAny_call (codeAny_mono (F.run X.A X.stack s H ⟨[.ref a, u], []⟩ [.ref a, u] [.ref a, y] _ E hr I.env0 (by
    have := hb s [.ref a, u] I.kIn (by simpa using hl)
    simpa using this) r2 hsp) fun r s' hq => ?_)
  cases r with
  | error e => exact hx pins σ H s e s' I hq
  | ok fl =>
    cases fl with
    | ret w =>
      obtain ⟨z, H', I', rz, k, ez, q⟩ := I.after hq
      subst ez
      cases rz
      exact ⟨.bl k, H', I', rfl, q⟩
    | next => exact False.elim hq
    | brk => exact False.elim hq
    | cont => exact False.elim hq
theorem op_neX {CX : CXT} {k : Nat} {f : Addr} {fd : FuncData} {ps : List Str} {sp : Sp} {E : XK} (m : Meth X.K C "__eq__" f) (hm : PySem.W.mroIn X.K C (.type "object") = some true) (hne : PySem.W.findIn X.K (.ref C) "__ne__" = some (some (.builtin "object.__ne__")))
    (F : FnOk X.prog X.w X.K X.mg X.base CX k f fd ps sp) (hr : Room (k + 1) X.A) (hb : Binds X.K fd ps []) (hx : Passes CX X E) :
    OpR X (compareOp .NotEq) (rCmpX X.K true C sp E) := by
  intro pins s σ H x y v u Q I rx ry h
  obtain ⟨a, dx, fs, rfl, ha, ho, hsp⟩ := h
  cases (show v = Value.ref a from rx)
  obtain ⟨mA, J, _⟩ := ins_get I.hok ha
  obtain ⟨od, J, _⟩ := J.look
  obtain ⟨tb, L, hn⟩ := ho.ty I ry
  show wpAny (model X.prog X.w) X.A (richCompare .NotEq (.ref a) u) (EP X pins σ Q) X.xe s
  have hu := hr.units
  refine cmp_objNe (tb := tb) (by omega) I.kIn J (L _) hn hm hne m.at_ m.fn ?_
  have hl := F.len _ _ _ _ hsp
  have r2 : Vals [V.ref a, y] [Value.ref a, u] := .cons rfl (.cons ry .nil)
  refine wpAny_call (codeAny_mono (F.run X.A.in1 X.stack s H ⟨[.ref a, u], []⟩ [.ref a, u] [.ref a, y] _ E hr.in1 I.env0.in1 (by
    have := hb s [.ref a, u] I.kIn (by simpa using hl)
    simpa using this) r2 hsp) fun r s' hq => ?_)
  cases r with
  | error e => exact hx pins σ H s e s' I hq
  | ok fl =>
    cases fl with
    | ret w =>
      obtain ⟨z, H', I', rz, k, ez, q⟩ := I.after hq
      subst ez
      cases rz
      exact ⟨k, rfl, .bl (!k), H', I', rfl, q⟩
    | next => exact False.elim hq
    | brk => exact False.elim hq
    | cont => exact False.elim hq
end
end Sx
namespace Vc
open PySem PySem.Spec PyProof.Rows L2 Sx
section
variable {S : SrcRep} {P : Program} {w : World} {mg : Str → Option Value} {base : Heap} {K : PySem.W.Frag} {W : WX} {b1 b2 : Bool} {c c1 c2 k j : Nat} {ta tb : TE} {C : Addr} {X : Cx} {ps : List Str} {F : FnW}
theorem k_eqX (G : KvR S P w K mg base j c (fun g => Meth K C "__eq__" g) ps F) (hr : Room k X.A) (hj : j ≤ k)
    (hP : X.prog = P := by rfl) (hw : X.w = w := by rfl) (hK : X.K = K := by rfl) (hm2 : X.mg = mg := by rfl) (hb : X.base = base := by rfl) : OpR X (compareOp .Eq) (rCmpX K false C (SpV S K c F) E0) := by
  subst hP hw hK hm2 hb
  obtain ⟨g, fd, M, hk, hb, F1⟩ := G
  exact op_eqX M F1 (hr.mono hj) hb passL
theorem k_neX (G : KvR S P w K mg base j c (fun g => Meth K C "__eq__" g) ps F) (hr : Room k X.A) (hj : j + 1 ≤ k) (hi : Vh.IsiC K C) (hn : Vh.NeC K C)
    (hP : X.prog = P := by rfl) (hw : X.w = w := by rfl) (hK : X.K = K := by rfl) (hm2 : X.mg = mg := by rfl) (hb : X.base = base := by rfl) : OpR X (compareOp .NotEq) (rCmpX K true C (SpV S K c F) E0) := by
  subst hP hw hK hm2 hb
  obtain ⟨g, fd, M, hk, hb, F1⟩ := G
  exact op_neX M hi.hm hn F1 (hr.mono hj) hb passL
def othD (K : PySem.W.Frag) (C : Addr) : Dt → Prop
  | .ins D _ => D = C ∨ PySem.W.subIn K (.ref D) (.ref C) = some false
  | .non => True
  | .int _ => True
  | .str _ => True
  | .bl _ => True
  | .lst _ => True
  | .tup _ => True
  | _ => False
theorem othD.v {B H : Hp} {y : Dt} {v : V} (h : othD K C y) (same : Same B H) (r : Rp K B v y) : OthV K C H v := by
  cases r with
  | non => exact .non
  | bl k => exact .bl k
  | int i => exact .int i
  | str x => exact .str x
  | lst hb _ => exact .lst (SqL.of (same _ _ hb))
  | tup hb _ => exact .tup (SqT.of (same _ _ hb))
  | ins hb _ _ =>
    rcases h with rfl | h
    · exact .ins (same _ _ hb)
    · exact .insD (same _ _ hb) h
  | _ => exact h.elim
def dCmpX (K : PySem.W.Frag) (neg : Bool) (C : Addr) (F : FnW) (wa wb : DW) : DW := fun ρ Φ Ψ => wa ρ (fun x ρ1 => wb ρ1 (fun y ρ2 => (∃ fs, x = .ins C fs) ∧ othD K C y ∧ F [.fz x, .fz y] (fun o _ => ∃ r, o = .fz (.bl r) ∧ Φ (.bl (if neg then !r else r)) ρ2) noX) Ψ) Ψ
theorem d_cmpX {neg : Bool} {wa wb : DW} (ha : VD S K W b1 c1 ta wa) (hb : VD S K W b2 c2 tb wb) : VD S K W (b1 && b2) (c1 + (c2 + c)) (tOp (rCmpX K neg C (SpV S K c F) E0) ta tb) (dCmpX K neg C F wa wb) := by
  refine Vx.bind ha fun x v B0 s σ g r0 ρ Φ Ψ Fr H fp n m Q hw st hn hm k kx => ?_
  obtain ⟨rx, rfl⟩ := r0
  refine hb hw st (by omega) hm (fun y ρ1 u B1 H1 fp1 g n1 q l ln r1 st1 hq => ?_) kx
  obtain ⟨ry, rfl⟩ := r1
  obtain ⟨⟨fs, rfl⟩, ho, hF⟩ := q
  have rx := Rp.mono l rx
  have rx' := rx
  cases rx with
  | @ins a _ dx us _ hb1 e1 e2 =>
  have same := st1.same
  obtain ⟨en, sf, asf, hd⟩ := st1
  refine ⟨a, dx, us, rfl, same _ _ hb1, ho.v same ry, s, B1, fp1 ++ Fr, [], sf, _, n1, _, _, (show OwA K B1 s _ _ ([] ++ ([] ++ [])) from .cons (.fz rx') (.cons (.fz ry) .nil)), hF, asf, hd.perm (pmc fun c k ca cc _ c0 => by simp only [ca, c0]; omega), by omega, fun o os' v B' H' kk fps' sf' n' q l2 ln2 w' w2 asf' hd' => ?_, fun _ _ _ _ _ _ _ _ _ _ _ z => z.elim⟩
  obtain ⟨r, rfl, q⟩ := q
  cases w' with
  | fz rr =>
  cases rr
  exact ⟨r, rfl, k (.bl (if neg then !r else r)) ρ1 _ B' H' fp1 [] n' q (l.trans l2) (by omega) ⟨.bl _, rfl⟩ ⟨en.mono l2, sf', asf', Hd.sub (hd'.perm (ch' := fps' ++ (fp1 ++ (sf' ++ ([] ++ Fr)))) (pmc fun c k ca cc _ c0 => by simp only [ca, c0]; omega)) (List.sublist_append_right fps' _)⟩ hq⟩
theorem g_cmpX {neg : Bool} {wa wb : DW} {ρ : List Ot} {Φ : Dt → List Ot → Prop} {Ψ : XW} (h : wa ρ (fun x ρ1 => wb ρ1 (fun y ρ2 => (∃ fs, x = .ins C fs) ∧ othD K C y ∧ F [.fz x, .fz y] (fun o _ => ∃ r, o = .fz (.bl r) ∧ Φ (.bl (if neg then !r else r)) ρ2) noX) Ψ) Ψ) : dCmpX K neg C F wa wb ρ Φ Ψ := h
end
end Vc
namespace Vc
open PySem PySem.Spec PyProof.Rows L2 Sx
section
variable {S : SrcRep} {K : PySem.W.Frag} {W : WX} {pn : Nat → Bool} {s s' : Option Addr} {ρ ρ' ρ1 : List Ot} {σ σ' : L2.St} {B B' B1 H H' H1 : Hp} {Fr fp fp' fp1 g : Fp} {n n' n1 N N' m : Nat} {b b1 b2 g1 g2 : Bool} {c c1 c2 c3 c4 : Nat} {te ta tb tk tv td : TE} {tt : TT} {t : TS} {i : Nat} {E : EdV} {D : Ends} {d : Addr} {u : HO} {w0 : World}
theorem rd_same {a : Addr} (h : Rd B a u) (s : Same B H) : Rd H a u := by
  rcases h with h | ⟨o, h⟩
  · exact .inl (s _ _ h)
  · exact .inr ⟨o, s _ _ h⟩
/-- what stands at a key -/
def lkN : List NK → List Dt → NK → Option Dt
  | n :: ns, d :: ds, k => if n = k then some d else lkN ns ds k
  | _, _, _ => none
/-- k in d -/
def dXInD (w0 : World) (neg : Bool) (wk wd : DW) : DW := fun ρ Φ Ψ => wk ρ (fun y ρ1 => wd ρ1 (fun x ρ2 => ∃ ks ds nks k, x = .dx w0 ks ds ∧ nkDs ks = some nks ∧ keyN y k ∧ Φ (.bl (if neg then !decide (k ∈ nks) else decide (k ∈ nks))) ρ2) Ψ) Ψ
/-- d[k] -/
def dXGetD (w0 : World) (wd wk : DW) : DW := fun ρ Φ Ψ => wd ρ (fun x ρ1 => wk ρ1 (fun y ρ2 => ∃ ks ds nks k z, x = .dx w0 ks ds ∧ nkDs ks = some nks ∧ keyN y k ∧ lkN nks ds k = some z ∧ Φ z ρ2) Ψ) Ψ
/-- d.get(k), d.get(k, x) -/
def dXGetM (w0 : World) (wd : DW) (wl : LW) : DW := fun ρ Φ Ψ => wd ρ (fun x ρ1 => (∃ ks ds, x = .dx w0 ks ds) ∧ wl ρ1 (fun xs ρ2 => ∃ ks ds nks k y, x = .dx w0 ks ds ∧ nkDs ks = some nks ∧ keyN y k ∧ ((xs = [y] ∧ Φ ((lkN nks ds k).getD .non) ρ2) ∨ ∃ z, xs = [y, z] ∧ Φ ((lkN nks ds k).getD z) ρ2)) Ψ) Ψ
end
end Vc
namespace Vc
open PySem PySem.Spec PyProof.Rows L2 Sx
section
variable {S : SrcRep} {K : PySem.W.Frag} {W : WX} {pn : Nat → Bool} {s s' : Option Addr} {ρ ρ' ρ1 : List Ot} {σ σ' : L2.St} {B B' B1 H H' H1 : Hp} {Fr fp fp' fp1 g : Fp} {n n' n1 N N' m : Nat} {b b1 b2 g1 g2 : Bool} {c c1 c2 c3 c4 : Nat} {te ta tb tk tv td : TE} {tt : TT} {t : TS} {i : Nat} {E : EdV} {D : Ends} {d : Addr} {u : HO} {w0 : World}
def iKeyX (w0 : World) (i : Nat) : LW := fun ρ Φ _ => ∃ ks ds, ρ[i]? = some (.fz (.dx w0 ks ds)) ∧ Φ ks ρ
def sForKX (w0 : World) (pn : Nat → Bool) (tg : Tg) (c : Nat) (i : Nat) (w : SW) : SW := fun ρ E => sFor pn tg c (iKeyX w0 i) w ρ ⟨E.nx, E.rt, noX, E.bk, E.ct⟩
theorem g_forKX {ρ : List Ot} {nx bk ct : List Ot → Prop} {rt : Ot → List Ot → Prop} {xc : XW} {tg : Tg} {w : SW} (h : sFor pn tg c (iKeyX w0 i) w ρ ⟨nx, rt, noX, bk, ct⟩) : sForKX w0 pn tg c i w ρ ⟨nx, rt, xc, bk, ct⟩ := h
theorem nkDs_one {d : Dt} {k : NK} (e : nkD d = some k) : nkDs [d] = some [k] := by
  unfold nkDs
  rw [e]
  rfl
/-- what stands in the dict -/
def DcX (K : PySem.W.Frag) (B : Hp) (es : List XEn) (acc : List (Dt × NK × Dt)) : Prop := RpA K B (es.map fun e => .ref e.2.1) (acc.map (·.1)) ∧ nkDs (acc.map (·.1)) = some (es.map (·.1)) ∧ es.map (·.1) = acc.map (·.2.1) ∧ (∀ e ∈ es, e.1.depth ≤ 8) ∧ RpA K B (es.map (·.2.2)) (acc.map (·.2.2))
theorem DcX.mono {es : List XEn} {acc : List (Dt × NK × Dt)} (h : DcX K B es acc) (l : Le B B') : DcX K B' es acc := ⟨RpA.mono l h.1, h.2.1, h.2.2.1, h.2.2.2.1, RpA.mono l h.2.2.2.2⟩
theorem DcX.len {es : List XEn} {acc : List (Dt × NK × Dt)} (h : DcX K B es acc) : es.length = acc.length := by
  have := congrArg List.length h.2.2.1
  rwa [List.length_map, List.length_map] at this
theorem DcX.snoc {es : List XEn} {acc : List (Dt × NK × Dt)} {q : Addr} {v : V} {y z : Dt} {k : NK} (h : DcX K B es acc) (ry : Rp K B (.ref q) y) (hk : keyN y k) (rz : Rp K B v z) (hn : k ∉ acc.map (·.2.1)) : DcX K B (putX es k q v) (acc ++ [(y, k, z)]) := by
  obtain ⟨h1, h2, h3, h4, h5⟩ := h
  rw [putX_new (by rw [h3]; exact hn)]
  refine ⟨?_, ?_, ?_, ?_, ?_⟩
  · rw [List.map_append, List.map_append]; exact rpa_app h1 (.cons ry .nil)
  · rw [List.map_append, List.map_append]; exact nkDs_app h2 (nkDs_one hk.1)
  · rw [List.map_append, List.map_append, h3]; rfl
  · intro e he
    rcases List.mem_append.mp he with he | he
    · exact h4 e he
    · rcases List.mem_singleton.mp he with rfl
      exact hk.2.1
  · rw [List.map_append, List.map_append]; exact rpa_app h5 (.cons rz .nil)
end
end Vc
namespace Vc
open PySem PySem.Spec PyProof.Rows L2 Sx
section
variable {S : SrcRep} {K : PySem.W.Frag} {W : WX} {pn : Nat → Bool} {s s' : Option Addr} {ρ ρ' ρ1 : List Ot} {σ σ' : L2.St} {B B' B1 H H' H1 : Hp} {Fr fp fp' fp1 g : Fp} {n n' n1 N N' m : Nat} {b b1 b2 g1 g2 : Bool} {c c1 c2 c3 c4 : Nat} {te ta tb tk tv td : TE} {tt : TT} {t : TS} {i : Nat} {E : EdV} {D : Ends} {d : Addr} {u : HO} {w0 : World}
def dXNil (w0 : World) (neg : Bool) (wa wb : DW) : DW := fun ρ Φ Ψ => wa ρ (fun x ρ1 => wb ρ1 (fun y ρ2 => ∃ ks ds, x = .dx w0 ks ds ∧ y = .dx w0 [] [] ∧ Φ (.bl (if neg then !ks.isEmpty else ks.isEmpty)) ρ2) Ψ) Ψ
def vXDisp1 (w0 : World) (wk : DW) (wv : EW) : EW := fun ρ Φ Ψ => wk ρ (fun y ρ1 => wv ρ1 (fun x ρ2 => ∃ k o, keyN y k ∧ x = .ow o ∧ Φ (.ow (.dx w0 [y] [o])) ρ2) Ψ) Ψ
end
end Vc
namespace Sx
open PySem PySem.Spec PyProof.Rows L2
end Sx
namespace Vc
open PySem PySem.Spec PyProof.Rows L2 Sx
end Vc
namespace Vc
open PySem PySem.Spec PyProof.Rows L2 Sx
end Vc
namespace Vc
open PySem PySem.Spec PyProof.Rows L2 Sx
section
variable {w0 : World} {ρ : List Ot} {Φ : Dt → List Ot → Prop} {Φv : Vl → List Ot → Prop} {Ψ : XW} {neg : Bool} {wk wd wa wb : DW} {wl : LW} {wv : EW} {wt : TW} {i : Nat} {vs : List Nat} {ce : Nat} {tg : Tg} {β : Type}
theorem g_xinD (h : wk ρ (fun y ρ1 => wd ρ1 (fun x ρ2 => ∃ ks ds nks k, x = .dx w0 ks ds ∧ nkDs ks = some nks ∧ keyN y k ∧ Φ (.bl (if neg then !decide (k ∈ nks) else decide (k ∈ nks))) ρ2) Ψ) Ψ) : dXInD w0 neg wk wd ρ Φ Ψ := h
theorem g_xgetD (h : wd ρ (fun x ρ1 => wk ρ1 (fun y ρ2 => ∃ ks ds nks k z, x = .dx w0 ks ds ∧ nkDs ks = some nks ∧ keyN y k ∧ lkN nks ds k = some z ∧ Φ z ρ2) Ψ) Ψ) : dXGetD w0 wd wk ρ Φ Ψ := h
theorem g_xgetM (h : wd ρ (fun x ρ1 => (∃ ks ds, x = .dx w0 ks ds) ∧ wl ρ1 (fun xs ρ2 => ∃ ks ds nks k y, x = .dx w0 ks ds ∧ nkDs ks = some nks ∧ keyN y k ∧ ((xs = [y] ∧ Φ ((lkN nks ds k).getD .non) ρ2) ∨ ∃ z, xs = [y, z] ∧ Φ ((lkN nks ds k).getD z) ρ2)) Ψ) Ψ) : dXGetM w0 wd wl ρ Φ Ψ := h
theorem g_xnil (h : wa ρ (fun x ρ1 => wb ρ1 (fun y ρ2 => ∃ ks ds, x = .dx w0 ks ds ∧ y = .dx w0 [] [] ∧ Φ (.bl (if neg then !ks.isEmpty else ks.isEmpty)) ρ2) Ψ) Ψ) : dXNil w0 neg wa wb ρ Φ Ψ := h
theorem g_xdisp1 (h : wk ρ (fun y ρ1 => wv ρ1 (fun x ρ2 => ∃ k o, keyN y k ∧ x = .ow o ∧ Φv (.ow (.dx w0 [y] [o])) ρ2) Ψ) Ψ) : vXDisp1 w0 wk wv ρ Φv Ψ := h
end
end Vc
namespace Vc
open PySem PySem.Spec PyProof.Rows L2 Sx
section
variable {S : SrcRep} {K : PySem.W.Frag} {W : WX} {b : Bool} {c : Nat} {te : TE} {C : Addr}
theorem sub_tyF {C : Addr} {n : String} {l : List String} (e : fastBuiltinMro n = some (l.map .type)) : PySem.W.subIn K (.type n) (.ref C) = some false := by
  show (fastBuiltinMro n).map (·.contains (.ref C)) = some false
  rw [e, Option.map_some]
  congr 1
  clear e
  induction l with
  | nil => rfl
  | cons y l ih => rw [List.map_cons, List.contains_cons, ih]; rfl
theorem tyD_sub {x : Dt} {n : String} (h : tyD x = some n) : PySem.W.subIn K (.type n) (.ref C) = some false := by
  cases x with
  | non => cases h; exact sub_tyF (l := ["NoneType", "object"]) (by decide +kernel)
  | bl => cases h; exact sub_tyF (l := ["bool", "int", "object"]) (by decide +kernel)
  | int => cases h; exact sub_tyF (l := ["int", "object"]) (by decide +kernel)
  | str => cases h; exact sub_tyF (l := ["str", "object"]) (by decide +kernel)
  | lst => cases h; exact sub_tyF (l := ["list", "object"]) (by decide +kernel)
  | tup => cases h; exact sub_tyF (l := ["tuple", "object"]) (by decide +kernel)
  | dic => cases h; exact sub_tyF (l := ["dict", "object"]) (by decide +kernel)
  | _ => cases h
/-- what isinstance tells of it -/
def isaP (K : PySem.W.Frag) (C : Addr) (x : Dt) (r : Bool) : Prop := (∃ fs, x = .ins C fs ∧ r = true) ∨ (r = false ∧ ((∃ n, tyD x = some n) ∨ ∃ D fs, x = .ins D fs ∧ Cls K D ∧ Vh.IsiC K D ∧ Vh.NoSub K D C))
def dIsaC (K : PySem.W.Frag) (C : Addr) (w : DW) : DW := fun ρ Φ Ψ => w ρ (fun x ρ1 => ∃ r, isaP K C x r ∧ Φ (.bl r) ρ1) Ψ
theorem d_isaC {w : DW} (cl : Cls K C) (ic : Vh.IsiC K C) (oc : Vh.OthC K C) (ha : VD S K W b c te w) : VD S K W b c (tCB (rIsi K) (tCons te (tCons (tC (.ref C)) tNil))) (dIsaC K C w) := by
  intro s ρ Φ Ψ Fr B σ H fp n m Q hw st hn hm k kx
  refine ha hw st hn hm (fun x ρ1 v B1 H1 fp1 g n1 q l ln r st1 hb => ?_) kx
  obtain ⟨rx, rfl⟩ := r
  obtain ⟨r, hr, q⟩ := q
  rcases hr with ⟨fs, rfl, rfl⟩ | ⟨rfl, ⟨ty, ht⟩ | ⟨D, fs, rfl, cd, id, ne, ns⟩⟩
  · cases rx with
    | @ins a _ dx us _ hb1 e1 e2 =>
    exact ⟨.ref a, .ref C, .ref C, .ref C, true, rfl, .own C, .base (.ins (st1.same _ _ hb1) cl ic.ha ic.hn ic.htk ic.hm), by simp [PySem.W.kitOne], k (.bl true) ρ1 (.bl true) B1 H1 fp1 [] n1 q l ln ⟨.bl true, rfl⟩ st1 hb⟩
  · refine ⟨v, .ref C, .type ty, .ref C, false, rfl, .own C, tyD_ok st1.same ht rx, ?_, k (.bl false) ρ1 (.bl false) B1 H1 fp1 [] n1 q l ln ⟨.bl false, rfl⟩ st1 hb⟩
    have e : ((Value.type ty == Value.ref C) = true) = False := eq_false (by intro z; cases beq_iff_eq.mp z)
    unfold PySem.W.kitOne PySem.W.kitCls
    rw [if_neg (by rw [e]; exact id)]
    dsimp only
    rw [if_pos oc.ty]
    exact tyD_sub ht
  · cases rx with
    | @ins a _ dx us _ hb1 e1 e2 =>
    refine ⟨.ref a, .ref C, .ref D, .ref C, false, rfl, .own C, .base (.ins (st1.same _ _ hb1) cd id.ha id.hn id.htk id.hm), ?_, k (.bl false) ρ1 (.bl false) B1 H1 fp1 [] n1 q l ln ⟨.bl false, rfl⟩ st1 hb⟩
    have e : ((Value.ref D == Value.ref C) = true) = False := eq_false (by intro z; cases beq_iff_eq.mp z; exact ne rfl)
    unfold PySem.W.kitOne PySem.W.kitCls
    rw [if_neg (by rw [e]; exact _root_.id)]
    dsimp only
    rw [if_pos oc.ty]
    exact ns
theorem g_isaC {w : DW} {ρ : List Ot} {Φ : Dt → List Ot → Prop} {Ψ : XW} (h : w ρ (fun x ρ1 => ∃ r, isaP K C x r ∧ Φ (.bl r) ρ1) Ψ) : dIsaC K C w ρ Φ Ψ := h
theorem e_isaI {fs : List (Str × Dt)} {Q : Bool → Prop} (q : Q true) : ∃ r, isaP K C (.ins C fs) r ∧ Q r := ⟨true, .inl ⟨_, rfl, rfl⟩, q⟩
theorem r_inIntT {Φ : Sl → Chs → Prop} {L : Chs} {neg : Bool} {z : Int} {zs : List Int} (q : Φ (.dt (.bl (if neg then !decide (z ∈ zs) else decide (z ∈ zs)))) L) : WR K (rIn K neg) (.dt (.int z)) (.dt (.tup (zs.map .int))) L Φ := by
  intro Fr B H Q v u hc rx ry k
  cases ry with
  | tup hb ha =>
  have e := rpa_ints ha
  subst e
  cases rx
  refine ⟨_, _, rfl, .inr (SqT.of (hc.seq _ _ hb)), rfl, by rw [List.all_map]; exact List.all_eq_true.mpr fun _ _ => rfl, ?_⟩
  rw [inV_int]
  exact k _ L _ B H q (Le.refl B) hc (.bl _)
def fInIT (neg : Bool) : Fd := fun x y Φ => ∃ (z : Int) (zs : List Int), x = .int z ∧ y = .tup (zs.map .int) ∧ Φ (.bl (if neg then !decide (z ∈ zs) else decide (z ∈ zs)))
theorem lf_inIT {neg : Bool} : Lf K (rIn K neg) (fInIT neg) := fun x y Φ ⟨z, zs, e1, e2, q⟩ => by subst e1 e2; exact r_inIntT ⟨_, rfl, rfl, q⟩
theorem g_inIT {P : Dt → Prop} {neg : Bool} {z : Int} (zs : List Int) (q : P (.bl (if neg then !decide (z ∈ zs) else decide (z ∈ zs)))) : fInIT neg (.int z) (.tup (zs.map .int)) P := ⟨z, zs, rfl, rfl, q⟩
end
end Vc
namespace T
open PySem PySem.Spec PyProof.Rows L2
def top (i : Nat) : Stmt := PySem.Challenge.pw_surepresses_k21_equal_cases.main.body.getD i (.Pass ⟨0, 0, 0, 0⟩)
abbrev s_PressError___init__ : Stmt := inClass (top 2) 0
abbrev s_chosen_lamps : Stmt := top 10
abbrev s_chosen_buttons : Stmt := top 11
abbrev s_steps_of : Stmt := top 12
abbrev s_Case___init__ : Stmt := inClass (top 13) 0
abbrev s_Case_device : Stmt := inClass (top 13) 1
abbrev s_Case_states : Stmt := inClass (top 13) 2
abbrev s_Case_lamps : Stmt := inClass (top 13) 3
abbrev s_Case_buttons : Stmt := inClass (top 13) 4
abbrev s_Case___eq__ : Stmt := inClass (top 13) 13
abbrev s_is_name : Stmt := top 16
abbrev s_check_names : Stmt := top 17
abbrev s_checked_steps : Stmt := top 18
abbrev s_shown_steps : Stmt := top 19
abbrev s_Device___init__ : Stmt := inClass (top 20) 0
abbrev s_Device___len__ : Stmt := inClass (top 20) 1
abbrev s_Device___eq__ : Stmt := inClass (top 20) 2
abbrev s_Device_buttons : Stmt := inClass (top 20) 3
abbrev s_Device_lamps : Stmt := inClass (top 20) 4
abbrev s_Device_states : Stmt := inClass (top 20) 5
abbrev s__law_cell_at : Stmt := top 22
abbrev s__law_draws : Stmt := top 23
abbrev s__law_further : Stmt := top 24
abbrev s__law_names : Stmt := top 25
abbrev s__law_step : Stmt := top 26
abbrev s__law_world : Stmt := top 27
abbrev s__law_case : Stmt := top 28
abbrev s__law_due : Stmt := top 29
abbrev s__law_built : Stmt := top 30
abbrev s__law_new_step : Stmt := top 31
abbrev s__law_other_world : Stmt := top 32
abbrev s__law_retold : Stmt := top 33
abbrev s__law_strange : Stmt := top 34
abbrev s__law_right : Stmt := top 35
abbrev s_law : Stmt := top 36
abbrev N_chosen_lamps : List Str := ["device", "lamps", "known", "lamp"]
abbrev P_chosen_lamps : List Str := ["device", "lamps"]
theorem sc_chosen_lamps : FnScope N_chosen_lamps P_chosen_lamps (defScope s_chosen_lamps) := ⟨rfl, rfl, rfl, by decide +kernel, rfl, by decide +kernel, by decide +kernel⟩
abbrev N_chosen_buttons : List Str := ["device", "buttons", "known", "button"]
abbrev P_chosen_buttons : List Str := ["device", "buttons"]
theorem sc_chosen_buttons : FnScope N_chosen_buttons P_chosen_buttons (defScope s_chosen_buttons) := ⟨rfl, rfl, rfl, by decide +kernel, rfl, by decide +kernel, by decide +kernel⟩
abbrev N_steps_of : List Str := ["device", "watched", "table", "entries", "steps", "button", "after", "lit", "lamp"]
abbrev P_steps_of : List Str := ["device", "watched"]
theorem sc_steps_of : FnScope N_steps_of P_steps_of (defScope s_steps_of) := ⟨rfl, rfl, rfl, by decide +kernel, rfl, by decide +kernel, by decide +kernel⟩
abbrev N_Case___init__ : List Str := ["self", "device", "states", "lamps", "buttons", "state"]
abbrev P_Case___init__ : List Str := ["self", "device", "states", "lamps", "buttons"]
theorem sc_Case___init__ : FnScope N_Case___init__ P_Case___init__ (defScope s_Case___init__) := ⟨rfl, rfl, rfl, by decide +kernel, rfl, by decide +kernel, by decide +kernel⟩
abbrev N_Case_device : List Str := ["self"]
abbrev P_Case_device : List Str := ["self"]
theorem sc_Case_device : FnScope N_Case_device P_Case_device (defScope s_Case_device) := ⟨rfl, rfl, rfl, by decide +kernel, rfl, by decide +kernel, by decide +kernel⟩
abbrev N_Case___eq__ : List Str := ["self", "other"]
abbrev P_Case___eq__ : List Str := ["self", "other"]
theorem sc_Case___eq__ : FnScope N_Case___eq__ P_Case___eq__ (defScope s_Case___eq__) := ⟨rfl, rfl, rfl, by decide +kernel, rfl, by decide +kernel, by decide +kernel⟩
abbrev N_is_name : List Str := ["name", "letter"]
abbrev P_is_name : List Str := ["name"]
theorem sc_is_name : FnScope N_is_name P_is_name (defScope s_is_name) := ⟨rfl, rfl, rfl, by decide +kernel, rfl, by decide +kernel, by decide +kernel⟩
abbrev N_check_names : List Str := ["names", "index", "name"]
abbrev P_check_names : List Str := ["names"]
theorem sc_check_names : FnScope N_check_names P_check_names (defScope s_check_names) := ⟨rfl, rfl, rfl, by decide +kernel, rfl, by decide +kernel, by decide +kernel⟩
abbrev N_checked_steps : List Str := ["device", "state", "given", "many", "steps", "button", "after", "lit", "lamp"]
abbrev P_checked_steps : List Str := ["device", "state", "given", "many"]
theorem sc_checked_steps : FnScope N_checked_steps P_checked_steps (defScope s_checked_steps) := ⟨rfl, rfl, rfl, by decide +kernel, rfl, by decide +kernel, by decide +kernel⟩
abbrev N_shown_steps : List Str := ["names", "steps", "button"]
abbrev P_shown_steps : List Str := ["names", "steps"]
theorem sc_shown_steps : FnScope N_shown_steps P_shown_steps (defScope s_shown_steps) := ⟨rfl, rfl, rfl, by decide +kernel, rfl, by decide +kernel, by decide +kernel⟩
abbrev N_Device___init__ : List Str := ["self", "buttons", "lamps", "states", "index", "given"]
abbrev P_Device___init__ : List Str := ["self", "buttons", "lamps", "states"]
theorem sc_Device___init__ : FnScope N_Device___init__ P_Device___init__ (defScope s_Device___init__) := ⟨rfl, rfl, rfl, by decide +kernel, rfl, by decide +kernel, by decide +kernel⟩
abbrev N_Device___len__ : List Str := ["self"]
abbrev P_Device___len__ : List Str := ["self"]
theorem sc_Device___len__ : FnScope N_Device___len__ P_Device___len__ (defScope s_Device___len__) := ⟨rfl, rfl, rfl, by decide +kernel, rfl, by decide +kernel, by decide +kernel⟩
abbrev N_Device___eq__ : List Str := ["self", "other"]
abbrev P_Device___eq__ : List Str := ["self", "other"]
theorem sc_Device___eq__ : FnScope N_Device___eq__ P_Device___eq__ (defScope s_Device___eq__) := ⟨rfl, rfl, rfl, by decide +kernel, rfl, by decide +kernel, by decide +kernel⟩
abbrev N_Device_buttons : List Str := ["self"]
abbrev P_Device_buttons : List Str := ["self"]
theorem sc_Device_buttons : FnScope N_Device_buttons P_Device_buttons (defScope s_Device_buttons) := ⟨rfl, rfl, rfl, by decide +kernel, rfl, by decide +kernel, by decide +kernel⟩
abbrev N_Device_lamps : List Str := ["self"]
abbrev P_Device_lamps : List Str := ["self"]
theorem sc_Device_lamps : FnScope N_Device_lamps P_Device_lamps (defScope s_Device_lamps) := ⟨rfl, rfl, rfl, by decide +kernel, rfl, by decide +kernel, by decide +kernel⟩
abbrev N_Device_states : List Str := ["self", "steps"]
abbrev P_Device_states : List Str := ["self"]
theorem sc_Device_states : FnScope N_Device_states P_Device_states (defScope s_Device_states) := ⟨rfl, rfl, rfl, by decide +kernel, rfl, by decide +kernel, by decide +kernel⟩
abbrev N__law_cell_at : List Str := ["_law_script", "_law_k"]
abbrev P__law_cell_at : List Str := ["_law_script", "_law_k"]
theorem sc__law_cell_at : FnScope N__law_cell_at P__law_cell_at (defScope s__law_cell_at) := ⟨rfl, rfl, rfl, by decide +kernel, rfl, by decide +kernel, by decide +kernel⟩
abbrev N__law_draws : List Str := ["_law_cell", "_law_count", "_law_primes", "_law_rest", "_law_mixed", "_law_great", "_law_line", "_law_k", "_law_drawn"]
abbrev P__law_draws : List Str := ["_law_cell", "_law_count"]
theorem sc__law_draws : FnScope N__law_draws P__law_draws (defScope s__law_draws) := ⟨rfl, rfl, rfl, by decide +kernel, rfl, by decide +kernel, by decide +kernel⟩
abbrev N__law_further : List Str := ["_law_cell", "_law_size", "_law_rest"]
abbrev P__law_further : List Str := ["_law_cell", "_law_size"]
theorem sc__law_further : FnScope N__law_further P__law_further (defScope s__law_further) := ⟨rfl, rfl, rfl, by decide +kernel, rfl, by decide +kernel, by decide +kernel⟩
abbrev N__law_names : List Str := ["_law_line", "_law_filler", "_law_letters", "_law_side", "_law_names_here", "_law_drawn", "_law_length", "_law_place", "_law_word", "_law_spare", "_law_j", "_law_one"]
abbrev P__law_names : List Str := ["_law_line", "_law_filler"]
theorem sc__law_names : FnScope N__law_names P__law_names (defScope s__law_names) := ⟨rfl, rfl, rfl, by decide +kernel, rfl, by decide +kernel, by decide +kernel⟩
abbrev N__law_step : List Str := ["_law_drawn", "_law_many", "_law_lights", "_law_dim", "_law_bits", "_law_parts", "_law_lit", "_law_k"]
abbrev P__law_step : List Str := ["_law_drawn", "_law_many", "_law_lights", "_law_dim"]
theorem sc__law_step : FnScope N__law_step P__law_step (defScope s__law_step) := ⟨rfl, rfl, rfl, by decide +kernel, rfl, by decide +kernel, by decide +kernel⟩
abbrev N__law_world : List Str := ["_law_cell", "_law_xs", "_law_many", "_law_knobs", "_law_lights", "_law_harm", "_law_dim", "_law_order", "_law_table", "_law_given", "_law_state", "_law_known", "_law_handed", "_law_j", "_law_drawn", "_law_after", "_law_lit"]
abbrev P__law_world : List Str := ["_law_cell"]
theorem sc__law_world : FnScope N__law_world P__law_world (defScope s__law_world) := ⟨rfl, rfl, rfl, by decide +kernel, rfl, by decide +kernel, by decide +kernel⟩
abbrev N__law_case : List Str := ["_law_cell", "_law_world_here", "_law_most", "_law_xs", "_law_many", "_law_count", "_law_pool", "_law_places", "_law_k", "_law_lights", "_law_knobs", "_law_one"]
abbrev P__law_case : List Str := ["_law_cell", "_law_world_here", "_law_most"]
theorem sc__law_case : FnScope N__law_case P__law_case (defScope s__law_case) := ⟨rfl, rfl, rfl, by decide +kernel, rfl, by decide +kernel, by decide +kernel⟩
abbrev N__law_due : List Str := ["_law_world_here", "_law_drawn", "_law_lights", "_law_one", "_law_knobs"]
abbrev P__law_due : List Str := ["_law_world_here", "_law_drawn"]
theorem sc__law_due : FnScope N__law_due P__law_due (defScope s__law_due) := ⟨rfl, rfl, rfl, by decide +kernel, rfl, by decide +kernel, by decide +kernel⟩
abbrev N__law_built : List Str := ["_law_world_here", "_law_drawn", "_law_gadget", "_law_places"]
abbrev P__law_built : List Str := ["_law_world_here", "_law_drawn"]
theorem sc__law_built : FnScope N__law_built P__law_built (defScope s__law_built) := ⟨rfl, rfl, rfl, by decide +kernel, rfl, by decide +kernel, by decide +kernel⟩
abbrev N__law_new_step : List Str := ["_law_kind", "_law_world_here", "_law_state", "_law_knob", "_law_known", "_law_after", "_law_lit"]
abbrev P__law_new_step : List Str := ["_law_kind", "_law_world_here", "_law_state", "_law_knob"]
theorem sc__law_new_step : FnScope N__law_new_step P__law_new_step (defScope s__law_new_step) := ⟨rfl, rfl, rfl, by decide +kernel, rfl, by decide +kernel, by decide +kernel⟩
abbrev N__law_other_world : List Str := ["_law_xs", "_law_world_here", "_law_kind", "_law_here", "_law_spot", "_law_knobs", "_law_table", "_law_given", "_law_state", "_law_known", "_law_handed", "_law_knob", "_law_changed", "_law_lights", "_law_one"]
abbrev P__law_other_world : List Str := ["_law_xs", "_law_world_here"]
theorem sc__law_other_world : FnScope N__law_other_world P__law_other_world (defScope s__law_other_world) := ⟨rfl, rfl, rfl, by decide +kernel, rfl, by decide +kernel, by decide +kernel⟩
abbrev N__law_retold : List Str := ["_law_drawn", "_law_told"]
abbrev P__law_retold : List Str := ["_law_drawn"]
theorem sc__law_retold : FnScope N__law_retold P__law_retold (defScope s__law_retold) := ⟨rfl, rfl, rfl, by decide +kernel, rfl, by decide +kernel, by decide +kernel⟩
abbrev N__law_strange : List Str := ["_law_thing", "_law_world_here", "_law_other"]
abbrev P__law_strange : List Str := ["_law_thing", "_law_world_here"]
theorem sc__law_strange : FnScope N__law_strange P__law_strange (defScope s__law_strange) := ⟨rfl, rfl, rfl, by decide +kernel, rfl, by decide +kernel, by decide +kernel⟩
abbrev N__law_right : List Str := ["_law_cell", "_law_world_here", "_law_due_here", "_law_thing", "_law_drawn", "_law_xs", "_law_second", "_law_told", "_law_fresh", "_law_word", "_law_other", "_law_equal", "_law_pair"]
abbrev P__law_right : List Str := ["_law_cell", "_law_world_here", "_law_due_here", "_law_thing", "_law_drawn"]
theorem sc__law_right : FnScope N__law_right P__law_right (defScope s__law_right) := ⟨rfl, rfl, rfl, by decide +kernel, rfl, by decide +kernel, by decide +kernel⟩
abbrev N_law : List Str := ["_law_script", "_law_world_here", "_law_drawn", "_law_due_here", "_law_thing", "_law_cell"]
abbrev P_law : List Str := ["_law_script"]
theorem sc_law : FnScope N_law P_law (defScope s_law) := ⟨rfl, rfl, rfl, by decide +kernel, rfl, by decide +kernel, by decide +kernel⟩
end T
namespace T
open PySem PySem.Spec PyProof.Rows L2 Sx Vc
/-- what the top has written -/
structure Txt (K : PySem.W.Frag) (mg : Str → Option Value) : Prop where
  c_LETTERS : ∃ t, mg "LETTERS" = some (.str (Str.ofString "abcdefghijklmnopqrstuvwxyz") t)
  cl_Case : Cls K (He.ga K "Case")
  cl_Device : Cls K (He.ga K "Device")
  d_Case___eq__ : DfR K "__eq__" "Case.__eq__" s_Case___eq__ (Meth K (He.ga K "Case") "__eq__")
  d_Case___init__ : DfM K "__init__" "Case.__init__" s_Case___init__ [("lamps" : Str), ("buttons" : Str)] (Mk K (He.ga K "Case"))
  d_Case_buttons : DfR K "buttons" "Case.buttons" s_Case_buttons ((fun g => ∃ p, PropOf K (He.ga K "Case") "buttons" p g))
  d_Case_device : DfR K "device" "Case.device" s_Case_device ((fun g => ∃ p, PropOf K (He.ga K "Case") "device" p g))
  d_Case_lamps : DfR K "lamps" "Case.lamps" s_Case_lamps ((fun g => ∃ p, PropOf K (He.ga K "Case") "lamps" p g))
  d_Case_states : DfR K "states" "Case.states" s_Case_states ((fun g => ∃ p, PropOf K (He.ga K "Case") "states" p g))
  d_Device___eq__ : DfR K "__eq__" "Device.__eq__" s_Device___eq__ (Meth K (He.ga K "Device") "__eq__")
  d_Device___init__ : DfR K "__init__" "Device.__init__" s_Device___init__ (Mk K (He.ga K "Device"))
  d_Device___len__ : DfR K "__len__" "Device.__len__" s_Device___len__ (Meth K (He.ga K "Device") "__len__")
  d_Device_buttons : DfR K "buttons" "Device.buttons" s_Device_buttons ((fun g => ∃ p, PropOf K (He.ga K "Device") "buttons" p g))
  d_Device_lamps : DfR K "lamps" "Device.lamps" s_Device_lamps ((fun g => ∃ p, PropOf K (He.ga K "Device") "lamps" p g))
  d_Device_states : DfR K "states" "Device.states" s_Device_states ((fun g => ∃ p, PropOf K (He.ga K "Device") "states" p g))
  d__law_built : Df K mg "_law_built" s__law_built
  d__law_case : Df K mg "_law_case" s__law_case
  d__law_cell_at : Df K mg "_law_cell_at" s__law_cell_at
  d__law_draws : Df K mg "_law_draws" s__law_draws
  d__law_due : Df K mg "_law_due" s__law_due
  d__law_further : Df K mg "_law_further" s__law_further
  d__law_names : Df K mg "_law_names" s__law_names
  d__law_new_step : Df K mg "_law_new_step" s__law_new_step
  d__law_other_world : Df K mg "_law_other_world" s__law_other_world
  d__law_retold : Df K mg "_law_retold" s__law_retold
  d__law_right : Df K mg "_law_right" s__law_right
  d__law_step : Df K mg "_law_step" s__law_step
  d__law_strange : Df K mg "_law_strange" s__law_strange
  d__law_world : Df K mg "_law_world" s__law_world
  d_check_names : Df K mg "check_names" s_check_names
  d_checked_steps : Df K mg "checked_steps" s_checked_steps
  d_chosen_buttons : Df K mg "chosen_buttons" s_chosen_buttons
  d_chosen_lamps : Df K mg "chosen_lamps" s_chosen_lamps
  d_is_name : Df K mg "is_name" s_is_name
  d_law : Df K mg "law" s_law
  d_shown_steps : Df K mg "shown_steps" s_shown_steps
  d_steps_of : Df K mg "steps_of" s_steps_of
  f_abs : mg "abs" = none
  f_enumerate : mg "enumerate" = none
  f_int : mg "int" = none
  f_isinstance : mg "isinstance" = none
  f_len : mg "len" = none
  f_list : mg "list" = none
  f_min : mg "min" = none
  f_range : mg "range" = none
  f_set : mg "set" = none
  f_sorted : mg "sorted" = none
  f_tuple : mg "tuple" = none
  g_Case : mg "Case" = some (.ref (He.ga K "Case"))
  g_Device : mg "Device" = some (.ref (He.ga K "Device"))
  i_Case : Vh.IsiC K (He.ga K "Case")
  i_Device : Vh.IsiC K (He.ga K "Device")
  na_Case_possible : NoAttr K (He.ga K "Case") "possible"
  na_Case_table : NoAttr K (He.ga K "Case") "table"
  na_Case_usable : NoAttr K (He.ga K "Case") "usable"
  na_Case_watched : NoAttr K (He.ga K "Case") "watched"
  na_Case_whole : NoAttr K (He.ga K "Case") "whole"
  na_Device_button_names : NoAttr K (He.ga K "Device") "button_names"
  na_Device_lamp_names : NoAttr K (He.ga K "Device") "lamp_names"
  na_Device_steps : NoAttr K (He.ga K "Device") "steps"
  ne_Case : Vh.NeC K (He.ga K "Case")
  ne_Device : Vh.NeC K (He.ga K "Device")
  o_Case : Vh.OthC K (He.ga K "Case")
  sb_Device_Case : Vh.NoSub K (He.ga K "Device") (He.ga K "Case")
  x_DoubleName : PySem.LowX.LowTxt K mg "DoubleName" (He.ga K "DoubleName") (He.ma K (He.ga K "PressError") "__init__")
  x_InvalidName : PySem.LowX.LowTxt K mg "InvalidName" (He.ga K "InvalidName") (He.ma K (He.ga K "PressError") "__init__")
  x_InvalidState : PySem.LowX.LowTxt K mg "InvalidState" (He.ga K "InvalidState") (He.ma K (He.ga K "PressError") "__init__")
  x_InvalidStep : PySem.LowX.LowTxt K mg "InvalidStep" (He.ga K "InvalidStep") (He.ma K (He.ga K "PressError") "__init__")
  x_UnknownButton : PySem.LowX.LowTxt K mg "UnknownButton" (He.ga K "UnknownButton") (He.ma K (He.ga K "PressError") "__init__")
  x_UnknownLamp : PySem.LowX.LowTxt K mg "UnknownLamp" (He.ga K "UnknownLamp") (He.ma K (He.ga K "PressError") "__init__")
end T
namespace T
abbrev level : Nat := 14
open PySem PySem.Spec PyProof.Rows L2 Sx Vc
def e_Case___eq__ : He.DefD := ⟨("Case", some "__eq__"), "__eq__", "Case.__eq__", defArgs s_Case___eq__, defBody s_Case___eq__, defScope s_Case___eq__, [], []⟩
def e_Case___init__ : He.DefD := ⟨("Case", some "__init__"), "__init__", "Case.__init__", defArgs s_Case___init__, defBody s_Case___init__, defScope s_Case___init__, [], [("lamps", .non), ("buttons", .non)]⟩
def e_Device___eq__ : He.DefD := ⟨("Device", some "__eq__"), "__eq__", "Device.__eq__", defArgs s_Device___eq__, defBody s_Device___eq__, defScope s_Device___eq__, [], []⟩
def e_Device___init__ : He.DefD := ⟨("Device", some "__init__"), "__init__", "Device.__init__", defArgs s_Device___init__, defBody s_Device___init__, defScope s_Device___init__, [], []⟩
def e_Device___len__ : He.DefD := ⟨("Device", some "__len__"), "__len__", "Device.__len__", defArgs s_Device___len__, defBody s_Device___len__, defScope s_Device___len__, [], []⟩
def e__law_built : He.DefD := ⟨("_law_built", none), "_law_built", "_law_built", defArgs s__law_built, defBody s__law_built, defScope s__law_built, [], []⟩
def e__law_case : He.DefD := ⟨("_law_case", none), "_law_case", "_law_case", defArgs s__law_case, defBody s__law_case, defScope s__law_case, [], []⟩
def e__law_cell_at : He.DefD := ⟨("_law_cell_at", none), "_law_cell_at", "_law_cell_at", defArgs s__law_cell_at, defBody s__law_cell_at, defScope s__law_cell_at, [], []⟩
def e__law_draws : He.DefD := ⟨("_law_draws", none), "_law_draws", "_law_draws", defArgs s__law_draws, defBody s__law_draws, defScope s__law_draws, [], []⟩
def e__law_due : He.DefD := ⟨("_law_due", none), "_law_due", "_law_due", defArgs s__law_due, defBody s__law_due, defScope s__law_due, [], []⟩
def e__law_further : He.DefD := ⟨("_law_further", none), "_law_further", "_law_further", defArgs s__law_further, defBody s__law_further, defScope s__law_further, [], []⟩
def e__law_names : He.DefD := ⟨("_law_names", none), "_law_names", "_law_names", defArgs s__law_names, defBody s__law_names, defScope s__law_names, [], []⟩
def e__law_new_step : He.DefD := ⟨("_law_new_step", none), "_law_new_step", "_law_new_step", defArgs s__law_new_step, defBody s__law_new_step, defScope s__law_new_step, [], []⟩
def e__law_other_world : He.DefD := ⟨("_law_other_world", none), "_law_other_world", "_law_other_world", defArgs s__law_other_world, defBody s__law_other_world, defScope s__law_other_world, [], []⟩
def e__law_retold : He.DefD := ⟨("_law_retold", none), "_law_retold", "_law_retold", defArgs s__law_retold, defBody s__law_retold, defScope s__law_retold, [], []⟩
def e__law_right : He.DefD := ⟨("_law_right", none), "_law_right", "_law_right", defArgs s__law_right, defBody s__law_right, defScope s__law_right, [], []⟩
def e__law_step : He.DefD := ⟨("_law_step", none), "_law_step", "_law_step", defArgs s__law_step, defBody s__law_step, defScope s__law_step, [], []⟩
def e__law_strange : He.DefD := ⟨("_law_strange", none), "_law_strange", "_law_strange", defArgs s__law_strange, defBody s__law_strange, defScope s__law_strange, [], []⟩
def e__law_world : He.DefD := ⟨("_law_world", none), "_law_world", "_law_world", defArgs s__law_world, defBody s__law_world, defScope s__law_world, [], []⟩
def e_check_names : He.DefD := ⟨("check_names", none), "check_names", "check_names", defArgs s_check_names, defBody s_check_names, defScope s_check_names, [], []⟩
def e_checked_steps : He.DefD := ⟨("checked_steps", none), "checked_steps", "checked_steps", defArgs s_checked_steps, defBody s_checked_steps, defScope s_checked_steps, [], []⟩
def e_chosen_buttons : He.DefD := ⟨("chosen_buttons", none), "chosen_buttons", "chosen_buttons", defArgs s_chosen_buttons, defBody s_chosen_buttons, defScope s_chosen_buttons, [], []⟩
def e_chosen_lamps : He.DefD := ⟨("chosen_lamps", none), "chosen_lamps", "chosen_lamps", defArgs s_chosen_lamps, defBody s_chosen_lamps, defScope s_chosen_lamps, [], []⟩
def e_is_name : He.DefD := ⟨("is_name", none), "is_name", "is_name", defArgs s_is_name, defBody s_is_name, defScope s_is_name, [], []⟩
def e_law : He.DefD := ⟨("law", none), "law", "law", defArgs s_law, defBody s_law, defScope s_law, [], []⟩
def e_shown_steps : He.DefD := ⟨("shown_steps", none), "shown_steps", "shown_steps", defArgs s_shown_steps, defBody s_shown_steps, defScope s_shown_steps, [], []⟩
def e_steps_of : He.DefD := ⟨("steps_of", none), "steps_of", "steps_of", defArgs s_steps_of, defBody s_steps_of, defScope s_steps_of, [], []⟩
def e_PressError___init__ : He.DefD := ⟨("PressError", some "__init__"), "__init__", "PressError.__init__", defArgs s_PressError___init__, defBody s_PressError___init__, defScope s_PressError___init__, [], []⟩
def e_Case_buttons : Vh.PrD := ⟨"Case", "buttons", "Case.buttons", defArgs s_Case_buttons, defBody s_Case_buttons, defScope s_Case_buttons, []⟩
def e_Case_device : Vh.PrD := ⟨"Case", "device", "Case.device", defArgs s_Case_device, defBody s_Case_device, defScope s_Case_device, []⟩
def e_Case_lamps : Vh.PrD := ⟨"Case", "lamps", "Case.lamps", defArgs s_Case_lamps, defBody s_Case_lamps, defScope s_Case_lamps, []⟩
def e_Case_states : Vh.PrD := ⟨"Case", "states", "Case.states", defArgs s_Case_states, defBody s_Case_states, defScope s_Case_states, []⟩
def e_Device_buttons : Vh.PrD := ⟨"Device", "buttons", "Device.buttons", defArgs s_Device_buttons, defBody s_Device_buttons, defScope s_Device_buttons, [("Case" : Str)]⟩
def e_Device_lamps : Vh.PrD := ⟨"Device", "lamps", "Device.lamps", defArgs s_Device_lamps, defBody s_Device_lamps, defScope s_Device_lamps, [("Case" : Str)]⟩
def e_Device_states : Vh.PrD := ⟨"Device", "states", "Device.states", defArgs s_Device_states, defBody s_Device_states, defScope s_Device_states, [("Case" : Str)]⟩
def fn : List He.DefD := [e_Case___eq__, e_Case___init__, e_Device___eq__, e_Device___init__, e_Device___len__, e__law_built, e__law_case, e__law_cell_at, e__law_draws, e__law_due, e__law_further, e__law_names, e__law_new_step, e__law_other_world, e__law_retold, e__law_right, e__law_step, e__law_strange, e__law_world, e_check_names, e_checked_steps, e_chosen_buttons, e_chosen_lamps, e_is_name, e_law, e_shown_steps, e_steps_of, e_PressError___init__]
def gs : List Vh.PrD := [e_Case_buttons, e_Case_device, e_Case_lamps, e_Case_states, e_Device_buttons, e_Device_lamps, e_Device_states]
def es : List Str := [("DoubleName" : Str), ("InvalidName" : Str), ("InvalidState" : Str), ("InvalidStep" : Str), ("UnknownButton" : Str), ("UnknownLamp" : Str)]
def fa : List He.Fa := [.str "LETTERS" "abcdefghijklmnopqrstuvwxyz", .cls "Case", .cls "Device", .meth "Case" "__eq__", .mkr "Case", .meth "Device" "__eq__", .mkr "Device", .meth "Device" "__len__", .glo "_law_built", .glo "_law_case", .glo "_law_cell_at", .glo "_law_draws", .glo "_law_due", .glo "_law_further", .glo "_law_names", .glo "_law_new_step", .glo "_law_other_world", .glo "_law_retold", .glo "_law_right", .glo "_law_step", .glo "_law_strange", .glo "_law_world", .glo "check_names", .glo "checked_steps", .glo "chosen_buttons", .glo "chosen_lamps", .glo "is_name", .glo "law", .glo "shown_steps", .glo "steps_of", .free "abs", .free "enumerate", .free "int", .free "isinstance", .free "len", .free "list", .free "min", .free "range", .free "set", .free "sorted", .free "tuple", .glo "Case", .glo "Device", .noat "Case" "possible", .noat "Case" "table", .noat "Case" "usable", .noat "Case" "watched", .noat "Case" "whole", .noat "Device" "button_names", .noat "Device" "lamp_names", .noat "Device" "steps", .glo "DoubleName", .glo "InvalidName", .glo "InvalidState", .glo "InvalidStep", .glo "UnknownButton", .glo "UnknownLamp"]
def names : List PySem.Str := (["_wall", "PressError", "InvalidName", "DoubleName", "UnknownButton", "UnknownLamp", "InvalidStep", "InvalidState", "chosen_lamps", "chosen_buttons", "steps_of", "Case", "LETTERS", "is_name", "check_names", "checked_steps", "shown_steps", "Device", "_law_cell_at", "_law_draws"] : List PySem.Str) ++ (["_law_further", "_law_names", "_law_step", "_law_world", "_law_case", "_law_due", "_law_built", "_law_new_step", "_law_other_world", "_law_retold", "_law_strange", "_law_right"] : List PySem.Str)
abbrev Rr : PySem.W.OpenRow := PySem.W.OpenLaw.row PySem.Challenge.rw_surepresses_k21_equal_cases
abbrev hk : PySem.W.Hook := Vh.hookV 8 fa fn gs es
def ob (s : PySem.W.SharedT) : Vh.AlV := Vh.obsVG 8 fa fn gs es (HandSHeadRun.getT s)
theorem ob_eq (s : PySem.W.SharedT) : ob s = hk.obs s.abs := Vh.obsVG_eq (HandSHeadRun.getT_eq s)
theorem run (w : World) : HandSHeadRun.RunEq Rr (PySem.W.view Rr.prog [36]) hk ob 20000 names w := by
  intro os
  kernel_rfl
theorem txt_of {K : PySem.W.Frag} {h : Heap} {mg : Str → Option Value} (X : K.In h) (G : h.Ns mainGlobals mg) (c : Vh.SaysV fa fn gs es K) : Txt K mg := by
  have df : ∀ (j i : Nat) (x : Str) (st : Stmt), fa[j]? = some (.glo x) → fn[i]? = some ⟨(x, none), x, x, defArgs st, defBody st, defScope st, [], []⟩ → Df K mg x st := fun j i x st h1 h2 => by
    obtain ⟨fd, F⟩ := c.d.def_ i h2
    exact ⟨_, fd, F, He.glo_ok X G (c.d.fact j h1)⟩
  exact ⟨He.str_ok X G (c.d.fact 0), He.cls_ok (c.d.fact 1), He.cls_ok (c.d.fact 2), by obtain ⟨fd, F⟩ := c.d.def_ 0; exact ⟨_, fd, F, He.meth_ok (c.d.fact 3)⟩, by obtain ⟨fd, F⟩ := c.d.def_ 1; exact ⟨_, fd, F, He.mkr_ok (c.d.fact 4)⟩, by obtain ⟨h, fd, F⟩ := c.prop 0; exact ⟨_, fd, F, _, h⟩, by obtain ⟨h, fd, F⟩ := c.prop 1; exact ⟨_, fd, F, _, h⟩, by obtain ⟨h, fd, F⟩ := c.prop 2; exact ⟨_, fd, F, _, h⟩, by obtain ⟨h, fd, F⟩ := c.prop 3; exact ⟨_, fd, F, _, h⟩, by obtain ⟨fd, F⟩ := c.d.def_ 2; exact ⟨_, fd, F, He.meth_ok (c.d.fact 5)⟩, by obtain ⟨fd, F⟩ := c.d.def_ 3; exact ⟨_, fd, F, He.mkr_ok (c.d.fact 6)⟩, by obtain ⟨fd, F⟩ := c.d.def_ 4; exact ⟨_, fd, F, He.meth_ok (c.d.fact 7)⟩, by obtain ⟨h, fd, F⟩ := c.prop 4; exact ⟨_, fd, F, _, h⟩, by obtain ⟨h, fd, F⟩ := c.prop 5; exact ⟨_, fd, F, _, h⟩, by obtain ⟨h, fd, F⟩ := c.prop 6; exact ⟨_, fd, F, _, h⟩, df 8 5 _ _ rfl rfl, df 9 6 _ _ rfl rfl, df 10 7 _ _ rfl rfl, df 11 8 _ _ rfl rfl, df 12 9 _ _ rfl rfl, df 13 10 _ _ rfl rfl, df 14 11 _ _ rfl rfl, df 15 12 _ _ rfl rfl, df 16 13 _ _ rfl rfl, df 17 14 _ _ rfl rfl, df 18 15 _ _ rfl rfl, df 19 16 _ _ rfl rfl, df 20 17 _ _ rfl rfl, df 21 18 _ _ rfl rfl, df 22 19 _ _ rfl rfl, df 23 20 _ _ rfl rfl, df 24 21 _ _ rfl rfl, df 25 22 _ _ rfl rfl, df 26 23 _ _ rfl rfl, df 27 24 _ _ rfl rfl, df 28 25 _ _ rfl rfl, df 29 26 _ _ rfl rfl, He.free_ok X G (c.d.fact 30), He.free_ok X G (c.d.fact 31), He.free_ok X G (c.d.fact 32), He.free_ok X G (c.d.fact 33), He.free_ok X G (c.d.fact 34), He.free_ok X G (c.d.fact 35), He.free_ok X G (c.d.fact 36), He.free_ok X G (c.d.fact 37), He.free_ok X G (c.d.fact 38), He.free_ok X G (c.d.fact 39), He.free_ok X G (c.d.fact 40), He.glo_ok X G (c.d.fact 41), He.glo_ok X G (c.d.fact 42), c.isi 0, c.isi 4, He.noat_ok (c.d.fact 43), He.noat_ok (c.d.fact 44), He.noat_ok (c.d.fact 45), He.noat_ok (c.d.fact 46), He.noat_ok (c.d.fact 47), He.noat_ok (c.d.fact 48), He.noat_ok (c.d.fact 49), He.noat_ok (c.d.fact 50), c.nec 0, c.nec 4, c.oth 0, c.sub 4 0, by obtain ⟨fd, F⟩ := c.d.def_ 27; exact Vh.lowB_ok (c.low 0) (He.glo_ok X G (c.d.fact 51)) F, by obtain ⟨fd, F⟩ := c.d.def_ 27; exact Vh.lowB_ok (c.low 1) (He.glo_ok X G (c.d.fact 52)) F, by obtain ⟨fd, F⟩ := c.d.def_ 27; exact Vh.lowB_ok (c.low 2) (He.glo_ok X G (c.d.fact 53)) F, by obtain ⟨fd, F⟩ := c.d.def_ 27; exact Vh.lowB_ok (c.low 3) (He.glo_ok X G (c.d.fact 54)) F, by obtain ⟨fd, F⟩ := c.d.def_ 27; exact Vh.lowB_ok (c.low 4) (He.glo_ok X G (c.d.fact 55)) F, by obtain ⟨fd, F⟩ := c.d.def_ 27; exact Vh.lowB_ok (c.low 5) (He.glo_ok X G (c.d.fact 56)) F⟩
end T
open PySem PySem.W PySem.Calls PyProof.Rows
theorem T_fin (okl : ∀ {P : Program} {w : World} {K : PySem.W.Frag} {mg : PySem.Str → Option Value} {base : Heap}, T.Txt K mg → Sx.Kp P w K mg base T.level "law" T.P_law Sx.F_lawB) : PySem.Challenge.rw_surepresses_k21_equal_cases.Holds := by
  w_on; o_law
  refine HandSHeadRun.head_any (r := T.Rr) (q := view T.Rr.prog [36]) (H := T.hk) (ob := T.ob) (M := 20000) (loose := T.names) (d := HandSHeadRun.topDef T.Rr.prog 36) (kwd := []) T.ob_eq
    (by kernel_rfl) (fun s => by kernel_rfl) T.run (by kernel_rfl) (by kernel_rfl) (by kernel_rfl) (by rfl) (by first | assumption | decide +kernel) (by decide +kernel) ⟨rfl, rfl, rfl, rfl, rfl, by decide +kernel⟩ ?hw ?hc
  case hw => w_witness2
  case hc =>
    refine Sx.walk_bits (l := PySem.Challenge.rw_surepresses_k21_equal_cases) (n := 63) (k := T.level) (x := "_law_script") (CX := L2.CX0) rfl (by decide) (by kernel_rfl) ⟨rfl, by decide, by decide⟩ ?F (fun _ _ _ _ z => z)
    intro w mg fa h Y G hmg0
    obtain ⟨K, KX, c⟩ := Y
    have hmg : mg ("law" : PySem.Str) = some (.ref fa) := by
      have e : (HandSHeadRun.topDef T.Rr.prog 36).name = ("law" : PySem.Str) := by kernel_rfl
      rw [← e]
      exact hmg0
    have Tx := T.txt_of KX G c
    obtain ⟨f1, fd, FD, hm⟩ := id Tx.d_law
    have ef : f1 = fa := PySem.Value.ref.inj (Option.some.inj (hm.symm.trans hmg))
    subst ef
    refine ⟨K, fd, Sx.SpD K Sx.F_lawB, ⟨KX, fun s v => L2.FunD.bindsA (ps := ["_law_script"]) FD (fun _ _ _ _ _ _ us hl => match us, hl with | [_], _ => rfl) s [v] rfl⟩, fun H a ns hl hb hS => Sx.law_inB hl hb hS, fun base _ _ => ?_⟩
    obtain ⟨f2, fd2, hm2, ki, _, ok⟩ := okl (P := (PySem.Challenge.rw_surepresses_k21_equal_cases).prog) (w := w) (base := base) Tx
    have e2 := PySem.Value.ref.inj (Option.some.inj (hm.symm.trans hm2))
    subst e2
    have e3 := Sx.KI.same (Sx.FunD.ki FD) ki
    subst e3
    exact ok
namespace T
open PySem PySem.Spec PyProof.Rows L2 Sx Vc
theorem ll_0 : (Str.ofString "abcdefghijklmnopqrstuvwxyz").length = 26 := rfl
theorem ll_1 : (Str.ofString "buttons").length = 7 := rfl
theorem ll_2 : (Str.ofString "case").length = 4 := rfl
theorem ll_3 : (Str.ofString "given").length = 5 := rfl
theorem ll_4 : (Str.ofString "lamp").length = 4 := rfl
theorem ll_5 : (Str.ofString "lamps").length = 5 := rfl
theorem ll_6 : (Str.ofString "q").length = 1 := rfl
theorem ll_7 : (Str.ofString "rows").length = 4 := rfl
theorem ll_8 : (Str.ofString "states").length = 6 := rfl
set_option hygiene false
local macro_rules | `(tactic| walk_at "fg") => `(tactic| repeat (first | exact trivial | refine ⟨.inr rfl, ?_⟩ | refine ⟨.inl rfl, ?_⟩))
local macro_rules | `(tactic| walk_at "se") => `(tactic| ((repeat (first | exact SetE.z | apply SetE.s | exact WipeE.nil | apply WipeE.cons | exact UpsE.nil | apply UpsE.cons | exact BackE.nil | apply BackE.ow | apply BackE.rf)); done))
local macro_rules | `(tactic| walk_at "eq") => `(tactic| ((repeat (first | exact Eqx.nil | ((with_reducible apply Eqx.diff); (focus rfl)) | (with_reducible apply Eqx.same))); done))
local macro_rules | `(tactic| walk_at "hs") => `(tactic| ((repeat (first | refine And.intro rfl ?_ | exact trivial)); done))
local macro_rules | `(tactic| walk_at "hu") => `(tactic| (intro i u h; (repeat (obtain ⟨_, h⟩ := h)); (first | subst h | skip); rfl))
local macro_rules | `(tactic| walk_at "dt") => `(tactic| ((repeat (first | exact DatE.nil | apply DatE.src | apply DatE.fz | (apply DatE.lst; (focus rfl); (focus (repeat (first | exact FzL.map _ | exact FzL.nil | apply FzL.cons | apply FzL.app)); done)) | (apply DatE.rf; (focus rfl); (focus rfl)))); done))
local macro_rules | `(tactic| walk_at "nd") => `(tactic| ((repeat (first | exact NdE.nil | apply NdE.no | apply NdE.src | apply NdE.fz | (apply NdE.lst; (focus (repeat (first | exact FzL.map _ | exact FzL.nil | apply FzL.cons | apply FzL.app)); done)) | (apply NdE.tup; (focus (repeat (first | exact FzL.map _ | exact FzL.nil | apply FzL.cons | apply FzL.app)); done)))); done))
local macro_rules | `(tactic| walk_at "td") => `(tactic| ((repeat (first | exact toDs_nil | exact toD_f | exact toDs_fz _ | apply toDs_c | apply toD_l | apply toD_dc)); done))
local macro_rules | `(tactic| walk_at "dx") => `(tactic| ((repeat (first | exact datX_nil | apply datX_fz | apply datX_oav | (apply datX_av; (focus rfl)) | (apply datX_rf; (focus rfl); (focus walk_at "td"); (focus (intro _ _ z; cases z))))); done))
local macro_rules | `(tactic| walk_at "len") => `(tactic| first
  | omega
  | exact nle rfl
  | (simp only [str_app_len, List.length_map, List.length_append, List.length_cons, List.length_nil, rngD_len, ll_0, ll_1, ll_2, ll_3, ll_4, ll_5, ll_6, ll_7, ll_8] at *; omega))
local macro_rules | `(tactic| walk_at "g0") => `(tactic| first
  | (with_reducible refine' g_xnil ?_)
  | (with_reducible refine' g_xdisp1 ?_)
  | (with_reducible refine' g_forKX ?_)
  | ((with_reducible apply h_dborD); (focus rfl); (focus (repeat (first | exact FzL.map _ | exact FzL.nil | apply FzL.cons | apply FzL.app)); done)))
local macro_rules | `(tactic| walk_at "g0") => `(tactic| first
  | (with_reducible refine' h_vsortSet ?_)
  | (with_reducible refine' h_vrevO ?_)
  | (with_reducible refine' g_chain ?_)
  | (with_reducible refine' h_callS ?_)
  | (with_reducible refine' h_callS0 ?_)
  | (with_reducible refine' h_methS ?_)
  | (with_reducible refine' h_methS0 ?_)
  | (with_reducible refine' h_makeS ?_)
  | (with_reducible refine' h_makeD ?_)
  | (with_reducible refine' h_makeD0 ?_)
  | (with_reducible refine' h_makeO ?_)
  | (with_reducible refine' h_methO ?_)
  | (with_reducible refine' e_tlF ?_)
  | (with_reducible refine' h_makeS0 ?_)
  | ((with_reducible apply g_varP); (focus rfl); (focus (first | exact FzAv.fz | exact FzAv.av | assumption)))
  | ((with_reducible apply g_cpy); (focus rfl); (focus (first | exact FzAv.fz | exact FzAv.av | assumption)))
  | ((with_reducible apply g_avf); (focus rfl))
  | (with_reducible refine' g_dxin ?_)
  | (with_reducible refine' g_vxnew ?_)
  | (with_reducible refine' h_setX ?_)
  | (with_reducible refine' g_ghA ?_)
  | (with_reducible refine' g_xinD ?_)
  | (with_reducible refine' g_xgetD ?_)
  | (with_reducible refine' g_xgetM ?_))
local macro_rules | `(tactic| walk_at "g0") => `(tactic| first
  | (with_reducible refine' g_methB0 ?_)
  | (with_reducible refine' g_methKwB ?_)
  | (with_reducible refine' g_methKwX ?_)
  | (with_reducible refine' g_eqOw ?_)
  | (with_reducible refine' g_cmpX ?_)
  | (with_reducible refine' g_vcat ?_)
  | (with_reducible refine' g_dinT ?_)
  | (with_reducible refine' g_dninT ?_)
  | (with_reducible refine' g_disp1 ?_)
  | (with_reducible refine' h_setT ?_)
  | (with_reducible refine' g_dnT ?_)
  | (with_reducible refine' g_isNOf ?_)
  | (with_reducible refine' g_isNOt ?_)
  | (with_reducible refine' g_idx ?_)
  | (with_reducible refine' g_dg2 ?_)
  | (with_reducible refine' h_makeX ?_)
  | (with_reducible refine' h_callBT ?_)
  | (with_reducible refine' h_callBI ?_)
  | ((with_reducible refine' g_sdA ?_ ?_); (focus exact ⟨_, _, rfl⟩))
  | (with_reducible refine' g_lc2 ?_)
  | (with_reducible refine' h_dispK ?_)
  | (with_reducible refine' h_sortSet ?_)
  | ((with_reducible apply e_datX); (focus walk_at "dx"); (focus walk_at "nu"))
  | ((with_reducible apply e_datXm); (focus walk_at "dx"); (focus rfl); (focus rfl); (focus walk_at "nu")))
local macro_rules | `(tactic| walk_at "g0") => `(tactic| first
  | (with_reducible refine' g_meth ?_)
  | ((with_reducible refine' g_draw ?_ ?_); (focus (first | exact ⟨by omega, by omega⟩ | (simp only [List.length_map]; exact ⟨by omega, by omega⟩))))
  | (with_reducible refine' g_kk ?_)
  | ((with_reducible refine' g_fldO ?_); refine ⟨_, _, rfl, _, by (first | exact look0 | exact look1 (by decide +kernel) | exact look2 (by decide +kernel) (by decide +kernel) | exact look3 (by decide +kernel) (by decide +kernel) (by decide +kernel) | exact look4 (by decide +kernel) (by decide +kernel) (by decide +kernel) (by decide +kernel)), ?_⟩)
  | (with_reducible refine' h_asgU ?_)
  | ((with_reducible refine' e_puc ?_ ?_); (focus rfl))
  | (with_reducible refine' e_pun ?_)
  | ((with_reducible apply g_frz); (focus rfl); (focus (repeat (first | exact FzL.map _ | exact FzL.nil | apply FzL.cons | apply FzL.app)); done))
  | (with_reducible refine' h_setW ?_)
  | ((with_reducible refine' g_appAt ?_ ?_); (focus exact ⟨_, rfl⟩))
  | ((with_reducible apply h_dborL); (focus rfl); (focus (repeat (first | exact FzL.map _ | exact FzL.nil | apply FzL.cons | apply FzL.app)); done))
  | ((with_reducible apply h_vborL); (focus rfl); (focus (repeat (first | exact FzL.map _ | exact FzL.nil | apply FzL.cons | apply FzL.app)); done))
  | (with_reducible refine' g_callB ?_)
  | (with_reducible refine' g_callB0 ?_)
  | (with_reducible refine' g_methB ?_)
  | (with_reducible refine' g_kwB ?_)
  | (with_reducible refine' g_lrg1 ?_)
  | (with_reducible refine' g_vlrg1 ?_)
  | (with_reducible refine' g_kwX ?_)
  | (with_reducible refine' g_kwQ ?_)
  | (with_reducible refine' g_methKwQ ?_)
  | (with_reducible refine' g_kwB0 ?_)
  | (with_reducible refine' g_methKwB0 ?_)
  | (with_reducible refine' g_methKwS0 ?_))
local macro_rules | `(tactic| walk_at "g0") => `(tactic| first
  | (with_reducible refine' g_retN ?_)
  | ((with_reducible apply h_bke); (focus walk_at "se"))
  | (with_reducible refine' h_src ?_)
  | (with_reducible refine' g_brk ?_)
  | (with_reducible refine' g_cnt ?_)
  | (with_reducible refine' g_un ?_)
  | (with_reducible refine' g_dor ?_)
  | (with_reducible refine' g_xif ?_)
  | (with_reducible refine' g_iscr ?_)
  | (with_reducible refine' g_itup ?_)
  | (with_reducible refine' g_irg2 ?_)
  | (with_reducible refine' g_izip ?_)
  | (with_reducible refine' h_call0 ?_)
  | (with_reducible refine' g_upper ?_)
  | (with_reducible refine' g_revT ?_)
  | (with_reducible refine' g_addib ?_)
  | (with_reducible refine' g_neg ?_)
  | (with_reducible refine' g_neB ?_)
  | (with_reducible refine' g_notN ?_)
  | (with_reducible refine' g_ii ?_)
  | (with_reducible refine' g_tuple ?_)
  | (with_reducible refine' g_slScr ?_)
  | (with_reducible refine' g_inI ?_)
  | (with_reducible refine' g_try ?_))
local macro_rules | `(tactic| walk_at "g0") => `(tactic| first
  | ((with_reducible refine' g_divW ?_ ?_ ?_); (focus (first | decide | omega)); (focus (first | decide | omega)))
  | ((with_reducible refine' g_div ?_ ?_ ?_); (focus (first | decide | omega)); (focus (first | decide | omega)))
  | (with_reducible refine' g_neI ?_)
  | (with_reducible refine' g_neS ?_)
  | (with_reducible refine' g_lenScr ?_)
  | ((with_reducible refine' g_lenS ?_ ?_); (focus walk_at "len"))
  | (with_reducible refine' g_abs ?_)
  | ((with_reducible refine' g_slS ?_ ?_); (focus walk_at "len"))
  | ((with_reducible refine' g_keyW ?_); refine ⟨_, rfl, ?_⟩)
  | ((with_reducible refine' g_dcK ?_); refine ⟨_, rfl, ?_⟩)
  | (with_reducible refine' g_revL ?_)
  | (with_reducible refine' h_appF ?_)
  | ((with_reducible refine' h_pop ?_); refine ⟨_, rfl, ?_⟩)
  | ((with_reducible refine' h_ins ?_ ?_); (focus exact ⟨_, rfl⟩))
  | (with_reducible refine' h_make ?_)
  | (with_reducible refine' g_callF ?_)
  | (with_reducible refine' g_tupC ?_)
  | (with_reducible refine' g_inSg ?_)
  | (with_reducible refine' g_lrg2 ?_)
  | (with_reducible refine' g_vlrg2 ?_)
  | (with_reducible refine' g_isiC ?_)
  | (with_reducible refine' g_isx ?_)
  | (with_reducible refine' h_vlc ?_)
  | (with_reducible refine' h_vlcO ?_))
local macro_rules | `(tactic| walk_at "g0") => `(tactic| first
  | (with_reducible refine' g_asgT ?_)
  | (with_reducible refine' h_setL ?_)
  | (with_reducible refine' g_xv ?_)
  | ((with_reducible refine' g_lenO ?_); refine ⟨_, rfl, ?_⟩)
  | ((with_reducible refine' g_lenF ?_); refine ⟨_, rfl, ?_⟩)
  | (with_reducible refine' h_setF ?_)
  | (with_reducible refine' g_listC ?_)
  | (with_reducible refine' g_opO ?_)
  | (with_reducible refine' g_join ?_)
  | (with_reducible refine' g_fq ?_)
  | (with_reducible refine' g_tryN ?_)
  | (with_reducible refine' g_methX ?_)
  | ((with_reducible refine' h_ext ?_ ?_); (focus exact ⟨_, rfl⟩))
  | ((with_reducible refine' h_popAt ?_ ?_); (focus exact ⟨_, rfl⟩))
  | ((with_reducible refine' e_ixL ?_); refine ⟨_, rfl, ?_⟩)
  | (with_reducible refine' g_lcG ?_)
  | (with_reducible refine' g_dinP ?_)
  | (with_reducible refine' g_dinN ?_)
  | (with_reducible refine' g_prop ?_)
  | (with_reducible refine' g_lenI ?_)
  | ((with_reducible refine' g_slT ?_ ?_); (focus rfl))
  | ((with_reducible refine' h_aug ?_ ?_); (focus rfl); refine ⟨_, rfl, ?_⟩)
  | (with_reducible refine' g_dnot ?_)
  | (with_reducible refine' g_istr ?_))
local macro_rules | `(tactic| walk_at "g0") => `(tactic| first
  | ((with_reducible apply h_dfl); (focus rfl); (focus (repeat (first | exact FzL.map _ | exact FzL.nil | apply FzL.cons | apply FzL.app)); done))
  | (with_reducible refine' g_dff ?_)
  | (with_reducible refine' g_int ?_)
  | (with_reducible refine' g_intB ?_)
  | (with_reducible refine' g_list ?_)
  | (with_reducible refine' g_listT ?_)
  | (with_reducible refine' g_dand ?_)
  | (with_reducible refine' g_ienum ?_)
  | ((with_reducible refine' g_addS ?_ ?_); (focus walk_at "len"))
  | (with_reducible refine' g_callX ?_)
  | (with_reducible refine' g_dn ?_)
  | ((with_reducible apply h_mv); (focus rfl); (focus rfl))
  | ((with_reducible refine' g_isiS true ?_ ?_); (focus decide +kernel))
  | ((with_reducible refine' g_isiS false ?_ ?_); (focus decide +kernel))
  | ((with_reducible refine' g_isiL true ?_ ?_); (focus decide +kernel))
  | ((with_reducible refine' g_isiL false ?_ ?_); (focus decide +kernel))
  | ((with_reducible refine' g_isiT true ?_ ?_); (focus decide +kernel))
  | ((with_reducible refine' g_isiT false ?_ ?_); (focus decide +kernel))
  | ((with_reducible refine' g_isiI true ?_ ?_); (focus decide +kernel))
  | ((with_reducible refine' g_isiI false ?_ ?_); (focus decide +kernel))
  | ((with_reducible refine' g_isiB true ?_ ?_); (focus decide +kernel))
  | ((with_reducible refine' g_isiB false ?_ ?_); (focus decide +kernel))
  | ((with_reducible refine' g_isiN true ?_ ?_); (focus decide +kernel))
  | ((with_reducible refine' g_isiN false ?_ ?_); (focus decide +kernel)))
local macro_rules | `(tactic| walk_at "g0") => `(tactic| first
  | (with_reducible refine' h_setD ?_)
  | (with_reducible refine' g_tand ?_)
  | (with_reducible refine' g_isN ?_)
  | (with_reducible refine' g_len ?_)
  | (with_reducible refine' g_lenT ?_)
  | ((with_reducible refine' g_vsrc ?_ ?_); (focus rfl))
  | ((with_reducible refine' g_vfz ?_); refine ⟨_, rfl, ?_⟩)
  | ((with_reducible refine' g_vl ?_); refine ⟨_, rfl, ?_⟩)
  | ((with_reducible refine' g_vdc ?_); refine ⟨_, _, rfl, ?_⟩)
  | ((with_reducible refine' g_vins ?_); refine ⟨_, _, _, rfl, ?_⟩)
  | ((with_reducible refine' g_vdit ?_); refine ⟨_, _, rfl, ?_⟩)
  | (with_reducible refine' g_vtup ?_)
  | (with_reducible refine' g_tnot ?_)
  | ((with_reducible refine' g_mul ?_ ?_); (focus (first | exact .inl ⟨by omega, by omega⟩ | exact .inr ⟨by omega, by omega⟩)))
  | (with_reducible refine' g_eqI ?_)
  | (with_reducible refine' g_eqS ?_)
  | (with_reducible refine' g_eqB ?_)
  | (with_reducible refine' h_rto ?_)
  | ((with_reducible apply h_rtf); (focus rfl); (focus rfl); (focus rfl))
  | (with_reducible refine' g_slL ?_)
  | (with_reducible refine' g_inS ?_)
  | (with_reducible refine' g_raise ?_)
  | ((with_reducible refine' g_dfz ?_); refine ⟨_, rfl, ?_⟩)
  | ((with_reducible apply h_dfdic); (focus rfl); (focus (first | exact own_tbl _ | exact own_steps _))))
local macro_rules | `(tactic| walk_at "g0") => `(tactic| first
  | (with_reducible refine' e_din ?_)
  | ((with_reducible refine' e_fld ?_); refine ⟨_, by (first | exact look0 | exact look1 (by decide +kernel) | exact look2 (by decide +kernel) (by decide +kernel) | exact look3 (by decide +kernel) (by decide +kernel) (by decide +kernel) | exact look4 (by decide +kernel) (by decide +kernel) (by decide +kernel) (by decide +kernel)), ?_⟩)
  | ((with_reducible refine' e_setF ?_); refine ⟨_, _, rfl, by decide +kernel, Nat.le_of_ble_eq_true rfl, ?_⟩)
  | (with_reducible refine' e_prop ?_)
  | (with_reducible refine' e_listL ?_)
  | (with_reducible refine' e_asgU ?_)
  | ((with_reducible refine' e_setW ?_); refine ⟨_, rfl, ?_⟩)
  | ((with_reducible refine' e_lrg2 ?_ ?_); (focus exact ⟨⟨by omega, by omega, by omega, by omega⟩, by omega⟩))
  | ((with_reducible refine' e_lrg1 ?_ ?_); (focus exact ⟨⟨by omega, by omega, by omega, by omega⟩, by omega⟩))
  | ((with_reducible apply e_datL); (focus walk_at "dt"); (focus walk_at "nd"); (focus rfl))
  | ((with_reducible apply e_dat); (focus walk_at "dt"); (focus walk_at "nd"))
  | ((with_reducible apply e_datQ); (focus walk_at "dt"); (focus rfl))
  | ((with_reducible apply e_isNO); (focus rfl); (focus rfl))
  | (with_reducible refine' Exists.intro _ ⟨rfl, ?_⟩)
  | (with_reducible refine' Exists.intro _ ⟨rfl, Nat.le_of_ble_eq_true rfl, ?_⟩)
  | (with_reducible refine' g_tyes ?_)
  | (with_reducible refine' h_lc ?_)
  | (with_reducible refine' g_dlst ?_)
  | ((with_reducible refine' g_opO' ?_ ?_); (focus rfl))
  | (with_reducible refine' g_sl ?_)
  | (with_reducible refine' g_ono ?_)
  | (with_reducible refine' g_oso ?_)
  | ((with_reducible refine' g_mod ?_ ?_); (focus (first | decide | omega)))
  | ((with_reducible refine' e_oix ?_); refine ⟨_, rfl, ?_⟩))
local macro_rules | `(tactic| walk_at "g0") => `(tactic| first
  | (with_reducible refine' so_non ?_)
  | ((with_reducible refine' e_isT ?_ ?_); (focus exact ⟨_, _, rfl⟩))
  | ((with_reducible refine' And.intro ?_ ?_); (focus exact Nat.le_of_ble_eq_true rfl))
  | (with_reducible refine' g_one ?_)
  | (with_reducible refine' h_oneO ?_)
  | ((with_reducible refine' e_ixT ?_); refine ⟨_, rfl, ?_⟩)
  | (with_reducible refine' g_tor ?_)
  | (with_reducible refine' g_irg1 ?_)
  | ((with_reducible refine' h_app ?_ ?_); (focus exact ⟨_, rfl⟩))
  | (with_reducible refine' g_tpn ?_)
  | (with_reducible refine' g_tpc ?_)
  | (with_reducible refine' h_ret ?_)
  | ((with_reducible refine' e_upper ?_ ?_); (focus walk_at "len"))
  | ((with_reducible refine' e_revT ?_ ?_); (focus walk_at "len"))
  | ((with_reducible refine' e_xv ?_ ?_); (focus exact List.mem_cons_self))
  | ((with_reducible refine' e_meth ?_); refine ⟨rfl, ?_⟩)
  | ((with_reducible apply e_lsO2); (focus rfl); (focus (repeat (first | exact FzL.map _ | exact FzL.nil | apply FzL.cons | apply FzL.app)); done))
  | ((with_reducible refine' e_lsF ?_); refine ⟨_, rfl, ?_⟩)
  | ((with_reducible apply e_arg); (focus rfl))
  | ((with_reducible apply e_asO); (focus rfl))
  | ((with_reducible refine' e_setAt ?_); refine ⟨_, rfl, _, rfl, _, rfl, ?_⟩)
  | ((with_reducible refine' e_ins ?_); refine ⟨_, rfl, ?_⟩)
  | ((with_reducible refine' e_ext ?_); refine ⟨_, rfl, ?_⟩)
  | ((with_reducible refine' e_popAt ?_); refine ⟨_, rfl, ?_⟩))
local macro_rules | `(tactic| walk_at "g0") => `(tactic| first
  | (with_reducible refine' g_forK ?_)
  | (with_reducible refine' g_ilst ?_)
  | (with_reducible refine' g_fld ?_)
  | (with_reducible refine' g_asg ?_)
  | ((with_reducible refine' h_sto ?_ ?_); (focus rfl))
  | (with_reducible refine' g_drop ?_)
  | ((with_reducible apply h_wpe); (focus walk_at "se"))
  | (with_reducible refine' g_vlst ?_)
  | (with_reducible refine' g_dtup ?_)
  | (with_reducible refine' g_dg ?_)
  | (with_reducible refine' g_IB ?_)
  | (with_reducible refine' ite_t ?_)
  | (with_reducible refine' ite_f ?_)
  | (with_reducible refine' ite_nt ?_)
  | (with_reducible refine' ite_nf ?_)
  | ((with_reducible refine' e_isL ?_ ?_); (focus exact ⟨_, rfl⟩))
  | ((with_reducible refine' e_isD ?_ ?_); (focus exact ⟨_, _, rfl⟩))
  | (with_reducible refine' sc_bl ?_)
  | (with_reducible refine' sc_int ?_)
  | (with_reducible refine' sc_str ?_)
  | (with_reducible refine' sc_non ?_)
  | (with_reducible refine' so_bl ?_)
  | (with_reducible refine' so_int ?_)
  | (with_reducible refine' so_str ?_))
local macro_rules | `(tactic| walk_at "g0") => `(tactic| first
  | ((with_reducible refine' g_var ?_); refine ⟨_, rfl, ?_⟩)
  | (with_reducible refine' g_c ?_)
  | (with_reducible refine' g_op ?_)
  | (with_reducible refine' g_lcons ?_)
  | (with_reducible refine' g_acons ?_)
  | (with_reducible refine' g_seq ?_)
  | ((with_reducible apply h_ste); (focus walk_at "se"))
  | (with_reducible refine' g_vd ?_)
  | (with_reducible refine' g_lnil ?_)
  | (with_reducible refine' g_tbl ?_)
  | (with_reducible refine' g_anil ?_)
  | ((with_reducible apply h_upe); (focus walk_at "se"); (focus walk_at "se"))
  | (with_reducible refine' g_cb ?_)
  | ((with_reducible apply h_stn); (focus walk_at "se"))
  | (with_reducible refine' g_next ?_)
  | (with_reducible refine' g_if ?_)
  | (with_reducible refine' g_dx ?_)
  | ((with_reducible refine' h_asgD ?_ ?_); (focus rfl))
  | (with_reducible refine' g_callQ ?_)
  | (with_reducible refine' g_retD ?_)
  | (with_reducible refine' g_II ?_)
  | ((with_reducible refine' h_nm ?_ ?_); (focus rfl))
  | (with_reducible refine' g_tp ?_)
  | (with_reducible refine' g_for ?_))
local macro_rules | `(tactic| walk_at "p0") => `(tactic| first
  | (with_reducible refine' g_xgetM ?_)
  | (with_reducible refine' g_xnil ?_)
  | (with_reducible refine' g_xdisp1 ?_)
  | (with_reducible refine' g_forKX ?_)
  | ((with_reducible apply h_dborD); (focus rfl); (focus (repeat (first | exact FzL.map _ | exact FzL.nil | apply FzL.cons | apply FzL.app)); done)))
local macro_rules | `(tactic| walk_at "p0") => `(tactic| first
  | ((with_reducible apply e_datXm); (focus walk_at "dx"); (focus rfl); (focus rfl); (focus walk_at "nu"))
  | (with_reducible refine' h_vsortSet ?_)
  | (with_reducible refine' h_vrevO ?_)
  | (with_reducible refine' g_chain ?_)
  | (with_reducible refine' h_callS ?_)
  | (with_reducible refine' h_callS0 ?_)
  | (with_reducible refine' h_methS ?_)
  | (with_reducible refine' h_methS0 ?_)
  | (with_reducible refine' h_makeS ?_)
  | (with_reducible refine' h_makeD ?_)
  | (with_reducible refine' h_makeD0 ?_)
  | (with_reducible refine' h_makeO ?_)
  | (with_reducible refine' h_methO ?_)
  | (with_reducible refine' e_tlF ?_)
  | (with_reducible refine' h_makeS0 ?_)
  | ((with_reducible apply g_varP); (focus rfl); (focus (first | exact FzAv.fz | exact FzAv.av | assumption)))
  | ((with_reducible apply g_cpy); (focus rfl); (focus (first | exact FzAv.fz | exact FzAv.av | assumption)))
  | ((with_reducible apply g_avf); (focus rfl))
  | (with_reducible refine' g_dxin ?_)
  | (with_reducible refine' g_vxnew ?_)
  | (with_reducible refine' h_setX ?_)
  | (with_reducible refine' g_ghA ?_)
  | (with_reducible refine' g_xinD ?_)
  | (with_reducible refine' g_xgetD ?_))
local macro_rules | `(tactic| walk_at "p0") => `(tactic| first
  | (with_reducible refine' g_methKwS0 ?_)
  | (with_reducible refine' g_methB0 ?_)
  | (with_reducible refine' g_methKwB ?_)
  | (with_reducible refine' g_methKwX ?_)
  | (with_reducible refine' g_eqOw ?_)
  | (with_reducible refine' g_cmpX ?_)
  | (with_reducible refine' g_vcat ?_)
  | (with_reducible refine' g_dinT ?_)
  | (with_reducible refine' g_dninT ?_)
  | (with_reducible refine' g_disp1 ?_)
  | (with_reducible refine' h_setT ?_)
  | (with_reducible refine' g_dnT ?_)
  | (with_reducible refine' g_isNOf ?_)
  | (with_reducible refine' g_isNOt ?_)
  | (with_reducible refine' g_idx ?_)
  | (with_reducible refine' g_dg2 ?_)
  | (with_reducible refine' h_makeX ?_)
  | (with_reducible refine' h_callBT ?_)
  | (with_reducible refine' h_callBI ?_)
  | ((with_reducible refine' g_sdA ?_ ?_); (focus exact ⟨_, _, rfl⟩))
  | (with_reducible refine' g_lc2 ?_)
  | (with_reducible refine' h_dispK ?_)
  | (with_reducible refine' h_sortSet ?_)
  | ((with_reducible apply e_datX); (focus walk_at "dx"); (focus walk_at "nu")))
local macro_rules | `(tactic| walk_at "p0") => `(tactic| first
  | (with_reducible refine' g_try ?_)
  | (with_reducible refine' g_meth ?_)
  | ((with_reducible refine' g_draw ?_ ?_); (focus (first | exact ⟨by omega, by omega⟩ | (simp only [List.length_map]; exact ⟨by omega, by omega⟩))))
  | (with_reducible refine' g_kk ?_)
  | ((with_reducible refine' g_fldO ?_); refine ⟨_, _, rfl, _, by (first | exact look0 | exact look1 (by decide +kernel) | exact look2 (by decide +kernel) (by decide +kernel) | exact look3 (by decide +kernel) (by decide +kernel) (by decide +kernel) | exact look4 (by decide +kernel) (by decide +kernel) (by decide +kernel) (by decide +kernel)), ?_⟩)
  | (with_reducible refine' h_asgU ?_)
  | ((with_reducible refine' e_puc ?_ ?_); (focus rfl))
  | (with_reducible refine' e_pun ?_)
  | ((with_reducible apply g_frz); (focus rfl); (focus (repeat (first | exact FzL.map _ | exact FzL.nil | apply FzL.cons | apply FzL.app)); done))
  | (with_reducible refine' h_setW ?_)
  | ((with_reducible refine' g_appAt ?_ ?_); (focus exact ⟨_, rfl⟩))
  | ((with_reducible apply h_dborL); (focus rfl); (focus (repeat (first | exact FzL.map _ | exact FzL.nil | apply FzL.cons | apply FzL.app)); done))
  | ((with_reducible apply h_vborL); (focus rfl); (focus (repeat (first | exact FzL.map _ | exact FzL.nil | apply FzL.cons | apply FzL.app)); done))
  | (with_reducible refine' g_callB ?_)
  | (with_reducible refine' g_callB0 ?_)
  | (with_reducible refine' g_methB ?_)
  | (with_reducible refine' g_kwB ?_)
  | (with_reducible refine' g_lrg1 ?_)
  | (with_reducible refine' g_vlrg1 ?_)
  | (with_reducible refine' g_kwX ?_)
  | (with_reducible refine' g_kwQ ?_)
  | (with_reducible refine' g_methKwQ ?_)
  | (with_reducible refine' g_kwB0 ?_)
  | (with_reducible refine' g_methKwB0 ?_))
local macro_rules | `(tactic| walk_at "p0") => `(tactic| first
  | (with_reducible refine' h_vlcO ?_)
  | (with_reducible refine' g_retN ?_)
  | ((with_reducible apply h_bke); (focus walk_at "se"))
  | (with_reducible refine' h_src ?_)
  | (with_reducible refine' g_brk ?_)
  | (with_reducible refine' g_cnt ?_)
  | (with_reducible refine' g_un ?_)
  | (with_reducible refine' g_dor ?_)
  | (with_reducible refine' g_xif ?_)
  | (with_reducible refine' g_iscr ?_)
  | (with_reducible refine' g_itup ?_)
  | (with_reducible refine' g_irg2 ?_)
  | (with_reducible refine' g_izip ?_)
  | (with_reducible refine' h_call0 ?_)
  | (with_reducible refine' g_upper ?_)
  | (with_reducible refine' g_revT ?_)
  | (with_reducible refine' g_addib ?_)
  | (with_reducible refine' g_neg ?_)
  | (with_reducible refine' g_neB ?_)
  | (with_reducible refine' g_notN ?_)
  | (with_reducible refine' g_ii ?_)
  | (with_reducible refine' g_tuple ?_)
  | (with_reducible refine' g_slScr ?_)
  | (with_reducible refine' g_inI ?_))
local macro_rules | `(tactic| walk_at "p0") => `(tactic| first
  | (with_reducible refine' g_istr ?_)
  | ((with_reducible refine' g_divW ?_ ?_ ?_); (focus (first | decide | omega)); (focus (first | decide | omega)))
  | ((with_reducible refine' g_div ?_ ?_ ?_); (focus (first | decide | omega)); (focus (first | decide | omega)))
  | (with_reducible refine' g_neI ?_)
  | (with_reducible refine' g_neS ?_)
  | (with_reducible refine' g_lenScr ?_)
  | ((with_reducible refine' g_lenS ?_ ?_); (focus walk_at "len"))
  | (with_reducible refine' g_abs ?_)
  | ((with_reducible refine' g_slS ?_ ?_); (focus walk_at "len"))
  | ((with_reducible refine' g_keyW ?_); refine ⟨_, rfl, ?_⟩)
  | ((with_reducible refine' g_dcK ?_); refine ⟨_, rfl, ?_⟩)
  | (with_reducible refine' g_revL ?_)
  | (with_reducible refine' h_appF ?_)
  | ((with_reducible refine' h_pop ?_); refine ⟨_, rfl, ?_⟩)
  | ((with_reducible refine' h_ins ?_ ?_); (focus exact ⟨_, rfl⟩))
  | (with_reducible refine' h_make ?_)
  | (with_reducible refine' g_callF ?_)
  | (with_reducible refine' g_tupC ?_)
  | (with_reducible refine' g_inSg ?_)
  | (with_reducible refine' g_lrg2 ?_)
  | (with_reducible refine' g_vlrg2 ?_)
  | (with_reducible refine' g_isiC ?_)
  | (with_reducible refine' g_isx ?_)
  | (with_reducible refine' h_vlc ?_))
local macro_rules | `(tactic| walk_at "p0") => `(tactic| first
  | ((with_reducible refine' g_isiN false ?_ ?_); (focus decide +kernel))
  | (with_reducible refine' g_asgT ?_)
  | (with_reducible refine' h_setL ?_)
  | (with_reducible refine' g_xv ?_)
  | ((with_reducible refine' g_lenO ?_); refine ⟨_, rfl, ?_⟩)
  | ((with_reducible refine' g_lenF ?_); refine ⟨_, rfl, ?_⟩)
  | (with_reducible refine' h_setF ?_)
  | (with_reducible refine' g_listC ?_)
  | (with_reducible refine' g_opO ?_)
  | (with_reducible refine' g_join ?_)
  | (with_reducible refine' g_fq ?_)
  | (with_reducible refine' g_tryN ?_)
  | (with_reducible refine' g_methX ?_)
  | ((with_reducible refine' h_ext ?_ ?_); (focus exact ⟨_, rfl⟩))
  | ((with_reducible refine' h_popAt ?_ ?_); (focus exact ⟨_, rfl⟩))
  | ((with_reducible refine' e_ixL ?_); refine ⟨_, rfl, ?_⟩)
  | (with_reducible refine' g_lcG ?_)
  | (with_reducible refine' g_dinP ?_)
  | (with_reducible refine' g_dinN ?_)
  | (with_reducible refine' g_prop ?_)
  | (with_reducible refine' g_lenI ?_)
  | ((with_reducible refine' g_slT ?_ ?_); (focus rfl))
  | ((with_reducible refine' h_aug ?_ ?_); (focus rfl); refine ⟨_, rfl, ?_⟩)
  | (with_reducible refine' g_dnot ?_))
local macro_rules | `(tactic| walk_at "p0") => `(tactic| first
  | ((with_reducible apply h_dfdic); (focus rfl); (focus (first | exact own_tbl _ | exact own_steps _)))
  | ((with_reducible apply h_dfl); (focus rfl); (focus (repeat (first | exact FzL.map _ | exact FzL.nil | apply FzL.cons | apply FzL.app)); done))
  | (with_reducible refine' g_dff ?_)
  | (with_reducible refine' g_int ?_)
  | (with_reducible refine' g_intB ?_)
  | (with_reducible refine' g_list ?_)
  | (with_reducible refine' g_listT ?_)
  | (with_reducible refine' g_dand ?_)
  | (with_reducible refine' g_ienum ?_)
  | ((with_reducible refine' g_addS ?_ ?_); (focus walk_at "len"))
  | (with_reducible refine' g_callX ?_)
  | (with_reducible refine' g_dn ?_)
  | ((with_reducible apply h_mv); (focus rfl); (focus rfl))
  | ((with_reducible refine' g_isiS true ?_ ?_); (focus decide +kernel))
  | ((with_reducible refine' g_isiS false ?_ ?_); (focus decide +kernel))
  | ((with_reducible refine' g_isiL true ?_ ?_); (focus decide +kernel))
  | ((with_reducible refine' g_isiL false ?_ ?_); (focus decide +kernel))
  | ((with_reducible refine' g_isiT true ?_ ?_); (focus decide +kernel))
  | ((with_reducible refine' g_isiT false ?_ ?_); (focus decide +kernel))
  | ((with_reducible refine' g_isiI true ?_ ?_); (focus decide +kernel))
  | ((with_reducible refine' g_isiI false ?_ ?_); (focus decide +kernel))
  | ((with_reducible refine' g_isiB true ?_ ?_); (focus decide +kernel))
  | ((with_reducible refine' g_isiB false ?_ ?_); (focus decide +kernel))
  | ((with_reducible refine' g_isiN true ?_ ?_); (focus decide +kernel)))
local macro_rules | `(tactic| walk_at "p0") => `(tactic| first
  | ((with_reducible refine' e_oix ?_); refine ⟨_, rfl, ?_⟩)
  | (with_reducible refine' h_setD ?_)
  | (with_reducible refine' g_tand ?_)
  | (with_reducible refine' g_isN ?_)
  | (with_reducible refine' g_len ?_)
  | (with_reducible refine' g_lenT ?_)
  | ((with_reducible refine' g_vsrc ?_ ?_); (focus rfl))
  | ((with_reducible refine' g_vfz ?_); refine ⟨_, rfl, ?_⟩)
  | ((with_reducible refine' g_vl ?_); refine ⟨_, rfl, ?_⟩)
  | ((with_reducible refine' g_vdc ?_); refine ⟨_, _, rfl, ?_⟩)
  | ((with_reducible refine' g_vins ?_); refine ⟨_, _, _, rfl, ?_⟩)
  | ((with_reducible refine' g_vdit ?_); refine ⟨_, _, rfl, ?_⟩)
  | (with_reducible refine' g_vtup ?_)
  | (with_reducible refine' g_tnot ?_)
  | ((with_reducible refine' g_mul ?_ ?_); (focus (first | exact .inl ⟨by omega, by omega⟩ | exact .inr ⟨by omega, by omega⟩)))
  | (with_reducible refine' g_eqI ?_)
  | (with_reducible refine' g_eqS ?_)
  | (with_reducible refine' g_eqB ?_)
  | (with_reducible refine' h_rto ?_)
  | ((with_reducible apply h_rtf); (focus rfl); (focus rfl); (focus rfl))
  | (with_reducible refine' g_slL ?_)
  | (with_reducible refine' g_inS ?_)
  | (with_reducible refine' g_raise ?_)
  | ((with_reducible refine' g_dfz ?_); refine ⟨_, rfl, ?_⟩))
local macro_rules | `(tactic| walk_at "p0") => `(tactic| first
  | ((with_reducible refine' e_popAt ?_); refine ⟨_, rfl, ?_⟩)
  | (with_reducible refine' e_din ?_)
  | ((with_reducible refine' e_fld ?_); refine ⟨_, by (first | exact look0 | exact look1 (by decide +kernel) | exact look2 (by decide +kernel) (by decide +kernel) | exact look3 (by decide +kernel) (by decide +kernel) (by decide +kernel) | exact look4 (by decide +kernel) (by decide +kernel) (by decide +kernel) (by decide +kernel)), ?_⟩)
  | ((with_reducible refine' e_setF ?_); refine ⟨_, _, rfl, by decide +kernel, Nat.le_of_ble_eq_true rfl, ?_⟩)
  | (with_reducible refine' e_prop ?_)
  | (with_reducible refine' e_listL ?_)
  | (with_reducible refine' e_asgU ?_)
  | ((with_reducible refine' e_setW ?_); refine ⟨_, rfl, ?_⟩)
  | ((with_reducible refine' e_lrg2 ?_ ?_); (focus exact ⟨⟨by omega, by omega, by omega, by omega⟩, by omega⟩))
  | ((with_reducible refine' e_lrg1 ?_ ?_); (focus exact ⟨⟨by omega, by omega, by omega, by omega⟩, by omega⟩))
  | ((with_reducible apply e_datL); (focus walk_at "dt"); (focus walk_at "nd"); (focus rfl))
  | ((with_reducible apply e_dat); (focus walk_at "dt"); (focus walk_at "nd"))
  | ((with_reducible apply e_datQ); (focus walk_at "dt"); (focus rfl))
  | ((with_reducible apply e_isNO); (focus rfl); (focus rfl))
  | (with_reducible refine' Exists.intro _ ⟨rfl, ?_⟩)
  | (with_reducible refine' Exists.intro _ ⟨rfl, Nat.le_of_ble_eq_true rfl, ?_⟩)
  | (with_reducible refine' g_tyes ?_)
  | (with_reducible refine' h_lc ?_)
  | (with_reducible refine' g_dlst ?_)
  | ((with_reducible refine' g_opO' ?_ ?_); (focus rfl))
  | (with_reducible refine' g_sl ?_)
  | (with_reducible refine' g_ono ?_)
  | (with_reducible refine' g_oso ?_)
  | ((with_reducible refine' g_mod ?_ ?_); (focus (first | decide | omega))))
local macro_rules | `(tactic| walk_at "p0") => `(tactic| first
  | (with_reducible refine' so_str ?_)
  | (with_reducible refine' so_non ?_)
  | ((with_reducible refine' e_isT ?_ ?_); (focus exact ⟨_, _, rfl⟩))
  | ((with_reducible refine' And.intro ?_ ?_); (focus exact Nat.le_of_ble_eq_true rfl))
  | (with_reducible refine' g_one ?_)
  | (with_reducible refine' h_oneO ?_)
  | ((with_reducible refine' e_ixT ?_); refine ⟨_, rfl, ?_⟩)
  | (with_reducible refine' g_tor ?_)
  | (with_reducible refine' g_irg1 ?_)
  | ((with_reducible refine' h_app ?_ ?_); (focus exact ⟨_, rfl⟩))
  | (with_reducible refine' g_tpn ?_)
  | (with_reducible refine' g_tpc ?_)
  | (with_reducible refine' h_ret ?_)
  | ((with_reducible refine' e_upper ?_ ?_); (focus walk_at "len"))
  | ((with_reducible refine' e_revT ?_ ?_); (focus walk_at "len"))
  | ((with_reducible refine' e_xv ?_ ?_); (focus exact List.mem_cons_self))
  | ((with_reducible refine' e_meth ?_); refine ⟨rfl, ?_⟩)
  | ((with_reducible apply e_lsO2); (focus rfl); (focus (repeat (first | exact FzL.map _ | exact FzL.nil | apply FzL.cons | apply FzL.app)); done))
  | ((with_reducible refine' e_lsF ?_); refine ⟨_, rfl, ?_⟩)
  | ((with_reducible apply e_arg); (focus rfl))
  | ((with_reducible apply e_asO); (focus rfl))
  | ((with_reducible refine' e_setAt ?_); refine ⟨_, rfl, _, rfl, _, rfl, ?_⟩)
  | ((with_reducible refine' e_ins ?_); refine ⟨_, rfl, ?_⟩)
  | ((with_reducible refine' e_ext ?_); refine ⟨_, rfl, ?_⟩))
local macro_rules | `(tactic| walk_at "p0") => `(tactic| first
  | (with_reducible refine' g_for ?_)
  | (with_reducible refine' g_forK ?_)
  | (with_reducible refine' g_ilst ?_)
  | (with_reducible refine' g_fld ?_)
  | (with_reducible refine' g_asg ?_)
  | ((with_reducible refine' h_sto ?_ ?_); (focus rfl))
  | (with_reducible refine' g_drop ?_)
  | ((with_reducible apply h_wpe); (focus walk_at "se"))
  | (with_reducible refine' g_vlst ?_)
  | (with_reducible refine' g_dtup ?_)
  | (with_reducible refine' g_dg ?_)
  | (with_reducible refine' g_IB ?_)
  | (with_reducible refine' ite_t ?_)
  | (with_reducible refine' ite_f ?_)
  | (with_reducible refine' ite_nt ?_)
  | (with_reducible refine' ite_nf ?_)
  | ((with_reducible refine' e_isL ?_ ?_); (focus exact ⟨_, rfl⟩))
  | ((with_reducible refine' e_isD ?_ ?_); (focus exact ⟨_, _, rfl⟩))
  | (with_reducible refine' sc_bl ?_)
  | (with_reducible refine' sc_int ?_)
  | (with_reducible refine' sc_str ?_)
  | (with_reducible refine' sc_non ?_)
  | (with_reducible refine' so_bl ?_)
  | (with_reducible refine' so_int ?_))
local macro_rules | `(tactic| walk_at "p0") => `(tactic| first
  | ((with_reducible refine' g_var ?_); refine ⟨_, rfl, ?_⟩)
  | (with_reducible refine' g_c ?_)
  | (with_reducible refine' g_op ?_)
  | (with_reducible refine' g_lcons ?_)
  | (with_reducible refine' g_acons ?_)
  | (with_reducible refine' g_seq ?_)
  | ((with_reducible apply h_ste); (focus walk_at "se"))
  | (with_reducible refine' g_vd ?_)
  | (with_reducible refine' g_lnil ?_)
  | (with_reducible refine' g_tbl ?_)
  | (with_reducible refine' g_anil ?_)
  | ((with_reducible apply h_upe); (focus walk_at "se"); (focus walk_at "se"))
  | (with_reducible refine' g_cb ?_)
  | ((with_reducible apply h_stn); (focus walk_at "se"))
  | (with_reducible refine' g_next ?_)
  | (with_reducible refine' g_ifB ?_)
  | (with_reducible refine' g_ifN ?_)
  | (with_reducible refine' g_dx ?_)
  | ((with_reducible refine' h_asgD ?_ ?_); (focus rfl))
  | (with_reducible refine' g_callQ ?_)
  | (with_reducible refine' g_retD ?_)
  | (with_reducible refine' g_II ?_)
  | ((with_reducible refine' h_nm ?_ ?_); (focus rfl))
  | (with_reducible refine' g_tp ?_))
local macro_rules | `(tactic| walk_at "go") => `(tactic| repeat walk_at "g0")
local macro_rules | `(tactic| walk_at "gp") => `(tactic| repeat walk_at "p0")
local macro_rules | `(tactic| walk_at "l0") => `(tactic| first | omega | (simp only [List.length_map, List.length_append, List.length_cons, List.length_nil, rngD_len, List.length_take, List.length_reverse, List.length_replicate]; (first | omega | (unfold FORN; omega) | (show _ ≤ 1000000; omega))) | (unfold FORN; omega))
local macro_rules | `(tactic| walk_at "nu") => `(tactic| (show nuA _ = true; first | (simp only [List.nil_append, List.cons_append, List.append_nil, nuA, Ot.nu, nuA_fz, Bool.and_self, Bool.and_true, Bool.true_and]; done) | (simp only [List.nil_append, List.cons_append, List.append_nil, nuA, Ot.nu, nuA_fz, Bool.and_self, Bool.and_true, Bool.true_and]; exact FzAv.nu (by assumption)) | (simp only [List.nil_append, List.cons_append, List.append_nil, nuA, Ot.nu, nuA_fz, Bool.and_self, Bool.and_true, Bool.true_and, FzAv.nu (by assumption)]; done)))
local macro_rules | `(tactic| walk_at "au") => `(tactic| ((with_reducible refine' And.intro ?_ ?_); (focus (first | walk_at "l0" | exact .inl rfl | (refine .inr ?_; walk_at "l0") | exact (show (_ : Bool) = true from rfl) | exact (show (_ : Nat) = _ from rfl) | walk_at "nu"))))
local macro_rules | `(tactic| walk_at "ga") => `(tactic| repeat (first | walk_at "p0" | walk_at "au"))
local macro_rules | `(tactic| walk_at "tf") => `(tactic| (walk_at "ga"; first | exact h1 trivial | exact h0 trivial | exact nn_b (h1 trivial) (h0 trivial) | (refine ite_any (fun _ => ?_) (fun _ => ?_) <;> walk_at "tf")))
abbrev SL : SrcRep := fun _ _ _ => False
section
variable {P : Program} {w : World} {K : PySem.W.Frag} {mg : Str → Option Value} {base : Heap}
def F_cell : FnW := fun os Φ _ => ∃ (ns : List Int) (k : Int), os = [.fz (.scr ns), .fz (.int k)] ∧ 0 ≤ k ∧ ∀ v, Φ (.fz (.int v)) os
theorem f__law_cell_at_len {os : List Ot} {Φ : Ot → List Ot → Prop} {Ψ : XW} (h : F_cell os Φ Ψ) : os.length = 2 := by
  obtain ⟨_, _, e, _⟩ := h
  rw [e]; rfl
theorem ok_cell (T : Txt K mg) : Kv SL P w K mg base 1 0 "_law_cell_at" P__law_cell_at F_cell := by
  refine kv_of0 (fun i => ([] : List Nat).contains i) T.d__law_cell_at sc__law_cell_at (fun _ _ _ _ _ _ us hl => match us, hl with | [_, _], _ => rfl) ?hl fun f cdv A outer s H E hr => ?_
  case hl => intro os Φ Ψ h; exact f__law_cell_at_len h
  have st0 : ∀ o0 o1 : Ot, stO0 N__law_cell_at [o0, o1] = [o0, o1] := fun _ _ => rfl
  have hu := hu_of hr
  refine ⟨_, _, pss_cons (ps_if (pt_cmpR op_lt (pv 1) (pe_callB (k_len K) (by rfl) T.f_len (by decide +kernel) (pa_cons (pv 0) pa_nil)) (nomark _)) (pss_one (ps_ret (pe_callTy call_int1 (by rfl) T.f_int (by decide +kernel) (pa_cons (pe_ix (kx_list K) (pv 0) (pv 1) (fun _ _ => rfl)) pa_nil)))) (pss_nil))
  (pss_one (ps_ret pe_int)), VS.fit (s_seq (s_if (t_test (d_op lf_IB (d_var (i := 1)) (d_cb lc_lenScr (l_cons (d_var (i := 0)) (l_nil))))) (s_retD (d_cb lc_int (l_cons (d_op lf_ixScr (d_var (i := 0)) (d_var (i := 1))) (l_nil)))) (s_next))
  (s_retD (d_int))) ?hc rfl, fun os Φ Ψ hF => ?_⟩
  case hc => first | exact Nat.le_of_ble_eq_true rfl | (unfold FORN; omega)
  obtain ⟨ns, k, rfl, hk, q⟩ := hF
  refine ⟨rfl, ?_⟩
  rw [st0]
  walk_at "go"
  refine ite_d (fun c => ?_) (fun c => ?_)
  · walk_at "go"
    obtain ⟨v, hv, _⟩ := atL (l := ns) hk (by omega)
    refine g_ixScr hv ?_
    walk_at "go"
    exact ⟨rfl, q v⟩
  · walk_at "go"
    exact ⟨rfl, q 0⟩
def F_draws : FnW := fun os Φ _ => ∃ (cell : Int) (n : Nat), os = [.fz (.int cell), .fz (.int (n : Int))] ∧ n ≤ 100 ∧ ∀ xs : List Int, xs.length = n → (∀ x ∈ xs, 0 ≤ x ∧ x < 27720) → Φ (.fz (.lst (xs.map .int))) os
theorem f__law_draws_len {os : List Ot} {Φ : Ot → List Ot → Prop} {Ψ : XW} (h : F_draws os Φ Ψ) : os.length = 2 := by
  obtain ⟨_, _, e, _⟩ := h
  rw [e]; rfl
abbrev primes : List Int := [2147483647, 2147483629, 2147483587, 2147483579, 2147483563, 2147483549, 2147483543]
theorem prime_at (i : Int) : ∃ p, atI (primes.map Dt.int) (i % 7) = some (.int p) ∧ 2147483543 ≤ p ∧ p ≤ 2147483647 := by
  obtain ⟨p, hp, _⟩ := atL (l := primes) (i := i % 7) (by omega) (show i % 7 < ((7 : Nat) : Int) by omega)
  refine ⟨p, atI_map Dt.int hp, ?_⟩
  have := atI_mem hp
  simp only [List.mem_cons, List.not_mem_nil, or_false] at this
  omega
theorem ok_draws (T : Txt K mg) : Kv SL P w K mg base 1 0 "_law_draws" P__law_draws F_draws := by
  refine kv_of0 (fun i => ([] : List Nat).contains i) T.d__law_draws sc__law_draws (fun _ _ _ _ _ _ us hl => match us, hl with | [_, _], _ => rfl) ?hl fun f cdv A outer s H E hr => ?_
  case hl => intro os Φ Ψ h; exact f__law_draws_len h
  have st0 : ∀ o0 o1 : Ot, stO0 N__law_draws [o0, o1] = [o0, o1, .no, .no, .no, .no, .no, .no, .no] := fun _ _ => rfl
  have hu := hu_of hr
  refine ⟨_, _, pss_cons (ps_set (i := 2) sc__law_draws.nd rfl (Or.inl rfl) (pe_lst (pa_cons pe_int (pa_cons pe_int (pa_cons pe_int (pa_cons pe_int (pa_cons pe_int (pa_cons pe_int (pa_cons pe_int pa_nil)))))))))
  (pss_cons (ps_set (i := 3) sc__law_draws.nd rfl (Or.inl rfl) (pe_callB call_abs (by rfl) T.f_abs (by decide +kernel) (pa_cons (pe_callTy call_int1 (by rfl) T.f_int (by decide +kernel) (pa_cons (pv 0) pa_nil)) pa_nil)))
  (pss_cons (ps_set (i := 4) sc__law_draws.nd rfl (Or.inl rfl) (pe_op op_add (pe_op op_mod (pe_callTy call_int1 (by rfl) T.f_int (by decide +kernel) (pa_cons (pv 3) pa_nil)) pe_int) (pe_op op_mod (pe_callTy call_int1 (by rfl) T.f_int (by decide +kernel) (pa_cons (pe_op op_fdivW (pv 3) pe_int) pa_nil)) pe_int)))
  (pss_cons (ps_set (i := 5) sc__law_draws.nd rfl (Or.inl rfl) (pe_cmpR op_ge (pv 3) (pe_op op_pow pe_int pe_int) (nomark _)))
  (pss_cons (ps_if (pt_val (pv 5)) (pss_one (ps_set (i := 3) sc__law_draws.nd rfl (Or.inl rfl) (pe_op op_sub (pv 3) (pe_op op_pow pe_int pe_int)))) (pss_nil))
  (pss_cons (ps_set (i := 6) sc__law_draws.nd rfl (Or.inl rfl) (pe_lst pa_nil))
  (pss_cons (ps_for PassesOwn.never rfl (pi_range1 (by rfl) T.f_range (pa_cons (pv 1) pa_nil)) (pg_name (i := 7) sc__law_draws.nd rfl (Or.inl rfl))
  (pss_cons (ps_set (i := 4) sc__law_draws.nd rfl (Or.inl rfl) (pe_op op_mod (pe_callTy call_int1 (by rfl) T.f_int (by decide +kernel) (pa_cons (pe_op op_add (pe_op op_add (pe_op op_mul (pv 4) pe_int) (pe_op op_mul pe_int (pv 7))) pe_int) pa_nil)) (pe_ix (kx_list K) (pv 2) (pe_op op_mod (pv 7) pe_int) (fun _ _ => rfl))))
  (pss_cons (ps_set (i := 8) sc__law_draws.nd rfl (Or.inl rfl) (pe_op op_mod (pe_callTy call_int1 (by rfl) T.f_int (by decide +kernel) (pa_cons (pe_op op_add (pe_op op_mul (pv 4) (pv 4)) (pv 7)) pa_nil)) (pe_ix (kx_list K) (pv 2) (pe_op op_mod (pe_op op_add (pv 7) pe_int) pe_int) (fun _ _ => rfl))))
  (pss_cons (ps_set (i := 8) sc__law_draws.nd rfl (Or.inl rfl) (pe_op op_fdiv (pe_op op_mod (pe_callTy call_int1 (by rfl) T.f_int (by decide +kernel) (pa_cons (pe_op op_mul (pe_op op_add (pv 8) (pe_op op_mul pe_int (pe_op op_add (pv 7) pe_int))) pe_int) pa_nil)) (pe_ix (kx_list K) (pv 2) (pe_op op_mod (pe_op op_add (pv 7) pe_int) pe_int) (fun _ _ => rfl))) pe_int))
  (pss_cons (ps_if (PW.pt (pw_and (pt_val (pv 5)) (pw_and1 (pt_cmpR op_gt (pv 3) pe_int (nomark _))))) (pss_cons (ps_set (i := 8) sc__law_draws.nd rfl (Or.inl rfl) (pv 3))
  (pss_one (ps_set (i := 3) sc__law_draws.nd rfl (Or.inl rfl) (pe_op op_fdiv (pv 3) pe_int)))) (pss_nil))
  (pss_one (ps_expr (k_bm K PySem.F.plainAttrs_list PySem.F.slot_list_append PySem.F.type_list_append mt_append (pv 6) (pa_cons (pe_op op_mod (pe_callTy call_int1 (by rfl) T.f_int (by decide +kernel) (pa_cons (pv 8) pa_nil)) pe_int) pa_nil)))))))))
  (pss_one (ps_ret (pv 6))))))))), VS.fit (s_seq (s_asgD (d_lst (l_cons (d_int) (l_cons (d_int) (l_cons (d_int) (l_cons (d_int) (l_cons (d_int) (l_cons (d_int) (l_cons (d_int) (l_nil))))))))))
  (s_seq (s_asgD (d_cb lc_abs (l_cons (d_cb lc_int (l_cons (d_var (i := 0)) (l_nil))) (l_nil))))
  (s_seq (s_asgD (d_op lf_II (d_op lf_mod (d_cb lc_int (l_cons (d_var (i := 3)) (l_nil))) (d_int)) (d_op lf_mod (d_cb lc_int (l_cons (d_op lf_divW (d_var (i := 3)) (d_int)) (l_nil))) (d_int))))
  (s_seq (s_asgD (d_op lf_IB (d_var (i := 3)) (d_op lf_pow (d_int) (d_int))))
  (s_seqM (s_if (t_B (d_var (i := 5))) (s_asgD (d_op lf_II (d_var (i := 3)) (d_op lf_pow (d_int) (d_int)))) (s_next))
  (s_seq (s_asg (v_lst (a_nil)))
  (s_seq (s_for (tg := .nm 7) (i_rg1 (l_cons (d_var (i := 1)) (l_nil)))
  (s_seq (s_asgD (d_op lf_mod (d_cb lc_int (l_cons (d_op lf_II (d_op lf_II (d_op lf_mul (d_var (i := 4)) (d_int)) (d_op lf_mul (d_int) (d_var (i := 7)))) (d_int)) (l_nil))) (d_op lf_ixL (d_var (i := 2)) (d_op lf_mod (d_var (i := 7)) (d_int)))))
  (s_seq (s_asgD (d_op lf_mod (d_cb lc_int (l_cons (d_op lf_II (d_op lf_mul (d_var (i := 4)) (d_var (i := 4))) (d_var (i := 7))) (l_nil))) (d_op lf_ixL (d_var (i := 2)) (d_op lf_mod (d_op lf_II (d_var (i := 7)) (d_int)) (d_int)))))
  (s_seq (s_asgD (d_op lf_div (d_op lf_mod (d_cb lc_int (l_cons (d_op lf_mul (d_op lf_II (d_var (i := 8)) (d_op lf_mul (d_int) (d_op lf_II (d_var (i := 7)) (d_int)))) (d_int)) (l_nil))) (d_op lf_ixL (d_var (i := 2)) (d_op lf_mod (d_op lf_II (d_var (i := 7)) (d_int)) (d_int)))) (d_int)))
  (s_seqM (s_if (t_and (t_B (d_var (i := 5))) (t_test (d_op lf_IB (d_var (i := 3)) (d_int)))) (s_seq (s_asgD (d_var (i := 3)))
  (s_asgD (d_op lf_div (d_var (i := 3)) (d_int)))) (s_next))
  (s_drop (v_append (i := 6) (v_d (d_op lf_mod (d_cb lc_int (l_cons (d_var (i := 8)) (l_nil))) (d_int))))))))))
  (s_retD (d_f (v_var (i := 6))))))))))) ?hc rfl, fun os Φ Ψ hF => ?_⟩
  case hc => first | exact Nat.le_of_ble_eq_true rfl | (unfold FORN; omega)
  obtain ⟨cell, n, rfl, hn, q⟩ := hF
  refine ⟨rfl, ?_⟩
  rw [st0]
  walk_at "ga"
  refine g_pow 1000000000000000000 (by decide) (by decide) ?_
  generalize (if cell < 0 then -cell else cell) = ab
  walk_at "ga"
  generalize decide (1000000000000000000 ≤ ab) = gr
  refine seqM_e [3] (fun u => ∃ r : Int, u = [(3, .fz (.int r))]) (fun N hN => ?_) (fun u ⟨r, e⟩ => ?_)
  · refine if_m True True (fun N2 h1 h0 => ?_) (fun _ => ?_) (fun _ => ?_)
    · walk_at "ga"
      cases gr
      · exact h0 trivial
      · exact h1 trivial
    · walk_at "ga"
      refine g_pow 1000000000000000000 (by decide) (by decide) ?_
      walk_at "ga"
      exact hN [(3, _)] _ (by walk_at "eq") (by walk_at "hs") ⟨_, rfl⟩
    · walk_at "ga"
      exact hN [(3, _)] _ (by walk_at "eq") (by walk_at "hs") ⟨_, rfl⟩
  subst e
  walk_at "ga"
  refine for_r [3, 4, 6, 7, 8] (fun i u => ∃ (r m : Int) (xs : List Int), xs.length = i ∧ (∀ x ∈ xs, 0 ≤ x ∧ x < 27720) ∧ (0 ≤ m ∧ m < 4294967296) ∧ u = [(3, .fz (.int r)), (4, .fz (.int m)), (6, .lst ((xs.map .int).map .fz))]) rfl ?_ (by walk_at "hu") ?_ ?_
  · exact ⟨[(3, _), (4, _), (6, _)], by walk_at "hs", r, _, [], rfl, fun _ h => (nomatch h), by omega, rfl⟩
  · intro i u hi ⟨r, m, xs, hx, hb, ⟨m0, m1⟩, e⟩
    subst e
    walk_at "ga"
    intro N hN
    walk_at "ga"
    obtain ⟨p1, hp1, a1, b1⟩ := prime_at (0 + (i : Int))
    refine g_ixL hp1 ?_
    have l1 := Int.emod_nonneg (m * 48271 + 7 * (0 + (i : Int)) + 3) (show p1 ≠ 0 by omega)
    have l2 := Int.emod_lt_of_pos (m * 48271 + 7 * (0 + (i : Int)) + 3) (show 0 < p1 by omega)
    refine g_mod (by omega) ?_
    generalize (m * 48271 + 7 * (0 + (i : Int)) + 3) % p1 = m2 at l1 l2
    walk_at "ga"
    obtain ⟨p2, hp2, a2, b2⟩ := prime_at (0 + (i : Int) + 2)
    refine g_ixL hp2 ?_
    have l3 := Int.emod_nonneg (m2 * m2 + (0 + (i : Int))) (show p2 ≠ 0 by omega)
    have l4 := Int.emod_lt_of_pos (m2 * m2 + (0 + (i : Int))) (show 0 < p2 by omega)
    refine g_mod (by omega) ?_
    generalize (m2 * m2 + (0 + (i : Int))) % p2 = d1 at l3 l4
    walk_at "ga"
    obtain ⟨p3, hp3, a3, b3⟩ := prime_at (0 + (i : Int) + 5)
    refine g_ixL hp3 ?_
    refine g_mod (by omega) ?_
    generalize ((d1 + 40692 * (0 + (i : Int) + 3)) * 69621) % p3 = d2
    walk_at "ga"
    refine seqM_e [3, 8] (fun u => ∃ r d : Int, u = [(3, .fz (.int r)), (8, .fz (.int d))]) (fun N2 hN2 => ?_) (fun u ⟨r2, d3, e⟩ => ?_)
    · refine if_m True True (fun N3 h1 h0 => ?_) (fun _ => ?_) (fun _ => ?_)
      · walk_at "ga"
        cases gr
        · refine (if_neg (fun z => by cases z)).mpr ?_
          exact h0 trivial
        · refine (if_pos rfl).mpr ?_
          walk_at "ga"
          cases decide (0 < r)
          · exact h0 trivial
          · exact h1 trivial
      · walk_at "ga"
        exact hN2 [(3, _), (8, _)] _ (by walk_at "eq") (by walk_at "hs") ⟨_, _, rfl⟩
      · walk_at "ga"
        exact hN2 [(3, _), (8, _)] _ (by walk_at "eq") (by walk_at "hs") ⟨_, _, rfl⟩
    subst e
    walk_at "ga"
    have l5 := Int.emod_nonneg d3 (show (27720 : Int) ≠ 0 by omega)
    have l6 := Int.emod_lt_of_pos d3 (show (0 : Int) < 27720 by omega)
    refine hN [(3, _), (4, _), (6, _)] _ (by walk_at "eq") (by walk_at "hs") ⟨r2, m2, xs ++ [d3 % 27720], by rw [List.length_append, hx]; rfl, fun x hm => ?_, by omega, ?_⟩
    · rcases List.mem_append.mp hm with h | h
      · exact hb x h
      · rw [List.mem_singleton.mp h]
        exact ⟨l5, l6⟩
    · rw [List.map_append, List.map_append]
      rfl
  · intro u ⟨r, m, xs, hx, hb, _, e⟩
    subst e
    walk_at "ga"
    exact q xs (by omega) hb
end
theorem cut_len2 {α : Type} {l : List α} {a b : Int} (h0 : 0 ≤ a) (h1 : a ≤ b) (h2 : b ≤ l.length) : (cutG l (some a) (some b)).length = (b - a).toNat := by
  obtain ⟨m, rfl⟩ := Int.eq_ofNat_of_zero_le h0
  obtain ⟨n, rfl⟩ := Int.eq_ofNat_of_zero_le (show 0 ≤ b by omega)
  unfold cutG
  rw [HT.sIx_nat, HT.sIx_nat, List.length_take, List.length_drop]
  omega
/-- one of the draws -/
theorem g_xs {xs : List Int} {n : Nat} {i : Int} {P : Dt → Prop} (hx : xs.length = n) (hb : ∀ x ∈ xs, 0 ≤ x ∧ x < 27720) (h0 : 0 ≤ i) (h1 : i < n) (q : ∀ v, 0 ≤ v → v < 27720 → P (.int v)) : fIxL (.lst (xs.map .int)) (.int i) P := by
  obtain ⟨v, hv, _⟩ := atL (l := xs) h0 (by omega)
  exact g_ixL (atI_map Dt.int hv) (q v (hb v (atI_mem hv)).1 (hb v (atI_mem hv)).2)
def abc : Str := Str.ofString "abcdefghijklmnopqrstuvwxyz"
/-- a name -/
def Nm (y : Str) : Prop := 1 ≤ y.length ∧ y.length ≤ 8 ∧ ∀ c ∈ y.cps.toList, c ∈ abc.cps.toList
abbrev Stp : Type := Int × List Str
abbrev Tbl : Type := List (Str × Stp)
abbrev stpD (s : Stp) : Dt := .tup [.int s.1, .lst (s.2.map .str)]
/-- a dict of steps as it is handed in -/
abbrev tblD (t : Tbl) : Dt := .dic (t.map fun p => ((.inr p.1 : Key), stpD p.2))
def litOf (ls : List Str) (s : Stp) : List Str := ls.filter fun l => decide (l ∈ s.2)
abbrev ownS (ls : List Str) (s : Stp) : Ot := .tup [.fz (.int s.1), .tup (((litOf ls s).map .str).map .fz)]
abbrev heldD (ls : List Str) (s : Stp) : Dt := .tup [.int s.1, .tup ((litOf ls s).map .str)]
/-- .. as it is held -/
abbrev heldT (ls : List Str) (t : Tbl) : Dt := .dic (t.map fun p => ((.inr p.1 : Key), heldD ls p.2))
/-- the steps of one state are right ones -/
def okT (bs ls : List Str) (many : Nat) (t : Tbl) : Prop := (t.map (·.1)).Nodup ∧ (∀ p ∈ t, p.1 ∈ bs ∧ (0 ≤ p.2.1 ∧ p.2.1 < many) ∧ ∀ l ∈ p.2.2, l ∈ ls)
theorem val_map {α : Type} {f : α → Dt} : ∀ {t : List (Str × α)} {k : Str}, valG (t.map fun p => ((Sum.inr p.1 : Key), f p.2)) (.inr k) = (t.lookup k).map f
  | [], _ => rfl
  | (x, a) :: t, k => by
    unfold valG
    rw [List.map_cons, List.find?_cons]
    by_cases h : x = k
    · subst h
      have e1 : decide ((Sum.inr x : Key) = Sum.inr x) = true := decide_eq_true rfl
      simp [List.lookup]
    · have e1 : decide ((Sum.inr x : Key) = Sum.inr k) = false := decide_eq_false fun z => h (Sum.inr.inj z)
      have e2 : (k == x) = false := beq_eq_false_iff_ne.mpr fun z => h z.symm
      simp only [e1, List.lookup, e2]
      exact val_map (t := t) (k := k)
theorem look_mem {α : Type} {k : Str} {a : α} : ∀ {t : List (Str × α)}, t.lookup k = some a → (k, a) ∈ t
  | (x, b) :: t, h => by
    cases q : (k == x) with
    | true => simp only [List.lookup, q] at h; cases h; rw [beq_iff_eq.mp q]; exact List.mem_cons_self
    | false => simp only [List.lookup, q] at h; exact List.mem_cons_of_mem _ (look_mem h)
theorem look_of {α : Type} {k : Str} {a : α} : ∀ {t : List (Str × α)}, (t.map (·.1)).Nodup → (k, a) ∈ t → t.lookup k = some a
  | (x, b) :: t, nd, h => by
    rw [List.map_cons, List.nodup_cons] at nd
    rcases List.mem_cons.mp h with e | m
    · cases e; simp [List.lookup]
    · have : (k == x) = false := beq_eq_false_iff_ne.mpr fun z => nd.1 (z ▸ List.mem_map.mpr ⟨_, m, rfl⟩)
      simp only [List.lookup, this]
      exact look_of nd.2 m
theorem look_perm {α : Type} {t t' : List (Str × α)} (p : t'.Perm t) (nd : (t.map (·.1)).Nodup) (k : Str) : t'.lookup k = t.lookup k := by
  have nd' : (t'.map (·.1)).Nodup := (p.map _).nodup_iff.mpr nd
  cases h : t.lookup k with
  | some a => exact look_of nd' (p.mem_iff.mpr (look_mem h))
  | none =>
    cases h' : t'.lookup k with
    | none => rfl
    | some a => rw [look_of nd (p.mem_iff.mp (look_mem h'))] at h; cases h
/-- a device -/
structure Dv where
  bs : List Str
  ls : List Str
  ts : List Tbl
def Dv.ok (d : Dv) : Prop := (d.bs.Nodup ∧ (∀ y ∈ d.bs, Nm y) ∧ d.bs.length ≤ 60) ∧ (d.ls.Nodup ∧ (∀ y ∈ d.ls, Nm y) ∧ d.ls.length ≤ 100) ∧ d.ts.length ≤ 100 ∧ ∀ t ∈ d.ts, okT d.bs d.ls d.ts.length t
/-- the data of an instance: the steps in some order -/
abbrev devD (C : Addr) (d : Dv) (ts' : List Tbl) : Dt := .ins C [("button_names", .lst (d.bs.map .str)), ("lamp_names", .lst (d.ls.map .str)), ("steps", .lst (ts'.map (heldT d.ls)))]
def permT (ts' ts : List Tbl) : Prop := ts'.length = ts.length ∧ ∀ (i : Nat) (a b : Tbl), ts'[i]? = some a → ts[i]? = some b → a.Perm b
/-- what is told of one state -/
def trip (ls : List Str) (t : Tbl) (b : Str) : Dt := match t.lookup b with
  | some s => .tup [.str b, .int s.1, .lst ((litOf ls s).map .str)]
  | none => .non
def shownD (bs ls : List Str) (t : Tbl) : Dt := .lst ((bs.filter fun b => (t.lookup b).isSome).map (trip ls t))
section
variable {P : Program} {w : World} {K : PySem.W.Frag} {mg : Str → Option Value} {base : Heap}
def F_isname : FnW := fun os Φ _ => ∃ y : Str, os = [.fz (.str y)] ∧ Nm y ∧ Φ (.fz (.bl true)) os
theorem f_is_name_len {os : List Ot} {Φ : Ot → List Ot → Prop} {Ψ : XW} (h : F_isname os Φ Ψ) : os.length = 1 := by
  obtain ⟨_, e, _⟩ := h
  rw [e]; rfl
theorem ok_isname (T : Txt K mg) : Kv SL P w K mg base 1 0 "is_name" P_is_name F_isname := by
  refine kv_of0 (fun i => ([] : List Nat).contains i) T.d_is_name sc_is_name (fun _ _ _ _ _ _ us hl => match us, hl with | [_], _ => rfl) ?hl fun f cdv A outer s H E hr => ?_
  case hl => intro os Φ Ψ h; exact f_is_name_len h
  have st0 : ∀ o0 : Ot, stO0 N_is_name [o0] = [o0, .no] := fun _ => rfl
  have hu := hu_of hr
  refine ⟨_, _, pss_cons (ps_if (PW.pt (pw_or (pt_cmpR op_eq (pv 0) pe_str (nomark _)) (pw_or1 (pt_cmpR op_gt (pe_callB call_len_str (by rfl) T.f_len (by decide +kernel) (pa_cons (pv 0) pa_nil)) pe_int (nomark _))))) (pss_one (ps_ret pe_bl)) (pss_nil))
  (pss_cons (ps_for PassesOwn.never rfl (pi_str (pv 0)) (pg_name (i := 1) sc_is_name.nd rfl (Or.inl rfl))
  (pss_one (ps_if (pt_cmpR op_notIn_sign (pv 1) (pe_glob (v := .str (Str.ofString "abcdefghijklmnopqrstuvwxyz")) rfl T.c_LETTERS.choose_spec ⟨_, rfl⟩) rfl) (pss_one (ps_ret pe_bl)) (pss_nil))))
  (pss_one (ps_ret pe_bl))), VS.fit (s_seq (s_if (t_or (t_test (d_op lf_eq (d_var (i := 0)) (d_str))) (t_test (d_op lf_IB (d_cb lc_lenS (l_cons (d_var (i := 0)) (l_nil))) (d_int)))) (s_retD (d_bl)) (s_next))
  (s_seq (s_for (tg := .nm 1) (i_str (d_var (i := 0)))
  (s_if (t_test (d_op lf_notInSg (d_var (i := 1)) (d_str))) (s_retD (d_bl)) (s_next)))
  (s_retD (d_bl)))) ?hc rfl, fun os Φ Ψ hF => ?_⟩
  case hc => first | exact Nat.le_of_ble_eq_true rfl | (unfold FORN; omega)
  obtain ⟨y, rfl, ⟨h1, h8, ha⟩, q⟩ := hF
  refine ⟨rfl, ?_⟩
  rw [st0]
  walk_at "go"
  refine ite_d (fun c => absurd c fun z => ?_) (fun c => ?_)
  · rw [z] at h1; exact absurd h1 (by decide)
  walk_at "go"
  refine ite_d (fun c => by omega) (fun c => ?_)
  walk_at "go"
  refine ⟨.inl rfl, ?_⟩
  refine for_e [1] (fun i u => u = []) ?_ (by walk_at "hu") ?_ ?_
  · exact ⟨[], by walk_at "hs", rfl⟩
  · intro i d u hd e
    subst e
    rw [List.getElem?_map] at hd
    cases hc : y.cps.toList[i]? with
    | none => rw [hc] at hd; cases hd
    | some c0 =>
      rw [hc] at hd
      cases hd
      walk_at "go"
      intro N hN
      walk_at "go"
      refine ite_n (fun cc => absurd (ha c0 (List.mem_of_getElem? hc)) cc) (fun cc => ?_)
      walk_at "go"
      exact hN [] _ (by walk_at "eq") (by walk_at "hs") rfl
  · intro u e
    subst e
    walk_at "go"
    exact ⟨rfl, q⟩
def F_checknames : FnW := fun os Φ _ => ∃ ns : List Str, os = [.fz (.lst (ns.map .str))] ∧ ns.Nodup ∧ (∀ y ∈ ns, Nm y) ∧ Φ (.fz .non) os
theorem f_check_names_len {os : List Ot} {Φ : Ot → List Ot → Prop} {Ψ : XW} (h : F_checknames os Φ Ψ) : os.length = 1 := by
  obtain ⟨_, e, _⟩ := h
  rw [e]; rfl
theorem ok_checknames (T : Txt K mg) : Kv SL P w K mg base 2 0 "check_names" P_check_names F_checknames := by
  have G_is_name := ok_isname (P := P) (w := w) (base := base) T
  refine kv_of (fun i => ([] : List Nat).contains i) T.d_check_names sc_check_names (fun _ _ _ _ _ _ us hl => match us, hl with | [_], _ => rfl) ?hl fun f cdv A outer s H E hr => ?_
  case hl => intro os Φ Ψ h; exact f_check_names_len h
  have st0 : ∀ o0 : Ot, stO0 N_check_names [o0] = [o0, .no, .no] := fun _ => rfl
  have hu := hu_of hr
  refine ⟨_, _, pss_one (ps_for (passes_of rfl) rfl (ki_enum K (by rfl) T.f_enumerate (pa_cons (pv 0) pa_nil)) (kg_tup K (n := 2) rfl (pgs_cons (pg_name (i := 1) sc_check_names.nd rfl (Or.inl rfl)) (pgs_cons (pg_name (i := 2) sc_check_names.nd rfl (Or.inl rfl)) pgs_nil)))
  (pss_cons (ps_if (pt_not (pt_val (k_kv G_is_name hr (by omega) (pa_cons (pv 2) pa_nil)))) (pss_one (ps_raiseLow rfl T.x_InvalidName hr (takes_of rfl rfl rfl rfl) (pa_cons (pv 2) pa_nil))) (pss_nil))
  (pss_one (ps_if (pt_cmpR (k_in K) (pv 2) (pe_slice (ks_list K) (pv 0) po_none (po_some (pv 1))) rfl) (pss_one (ps_raiseLow rfl T.x_DoubleName hr (takes_of rfl rfl rfl rfl) (pa_cons (pv 2) pa_nil))) (pss_nil))))), VS.fit (s_for (tg := .tp [.nm 1, .nm 2]) (i_enum (l_cons (d_var (i := 0)) (l_nil)))
  (s_seq (s_if (t_not (t_B (d_x (v_callQ (a_cons (v_d (d_var (i := 2))) (a_nil)))))) (s_raise (d_var (i := 2))) (s_next))
  (s_if (t_test (d_op lf_inS (d_var (i := 2)) (d_sl ls_list (d_var (i := 0)) o_none (o_some (d_var (i := 1)))))) (s_raise (d_var (i := 2))) (s_next)))) ?hc rfl, fun os Φ Ψ hF => ?_⟩
  case hc => first | exact Nat.le_of_ble_eq_true rfl | (unfold FORN; omega)
  obtain ⟨ns, rfl, nd, hn, q⟩ := hF
  refine ⟨rfl, ?_⟩
  rw [st0]
  walk_at "go"
  refine ⟨.inl rfl, ?_⟩
  refine for_e [1, 2] (fun i u => u = []) ?_ (by walk_at "hu") ?_ ?_
  · exact ⟨[], by walk_at "hs", rfl⟩
  · intro i d u hd e
    subst e
    obtain ⟨e, he, rfl⟩ := enumD_at hd
    rw [List.getElem?_map] at he
    cases hy : ns[i]? with
    | none => rw [hy] at he; cases he
    | some y =>
      rw [hy] at he
      cases he
      walk_at "go"
      intro N hN
      walk_at "go"
      refine ⟨y, rfl, hn y (List.mem_of_getElem? hy), ?_⟩
      walk_at "go"
      rw [cutG_map]
      walk_at "go"
      refine ite_d (fun cc => ?_) (fun cc => ?_)
      · exfalso
        have hlt := (List.getElem?_eq_some_iff.mp hy).1
        rw [cutG_take] at cc
        obtain ⟨j, hj, ej⟩ := List.mem_iff_getElem.mp cc
        rw [List.length_take] at hj
        rw [List.getElem_take] at ej
        have e2 := (List.getElem?_eq_some_iff.mp hy).2
        have := (List.getElem_inj nd).mp (ej.trans e2.symm)
        omega
      · walk_at "go"
        exact hN [] _ (by walk_at "eq") (by walk_at "hs") rfl
  · intro u e
    subst e
    walk_at "go"
    exact ⟨rfl, q⟩
abbrev cD (K : PySem.W.Frag) : Addr := He.ga K "Device"
/-- the fields that are there while the states are made -/
abbrev partD (C : Addr) (bs ls : List Str) (x : Dt) : Dt := .ins C [("button_names", .lst (bs.map .str)), ("lamp_names", .lst (ls.map .str)), ("steps", x)]
abbrev ownT (ls : List Str) (t : Tbl) : Ot := .dic (t.map fun p => (.inr p.1 : Key)) (t.map fun p => ownS ls p.2)
def F_checked (K : PySem.W.Frag) : FnW := fun os Φ _ => ∃ (bs ls : List Str) (x : Dt) (st : Int) (t : Tbl) (many : Nat), os = [.fz (partD (cD K) bs ls x), .fz (.int st), .fz (tblD t), .fz (.int (many : Int))] ∧ okT bs ls many t ∧ t.length < 64 ∧ ls.length ≤ 1000 ∧
  ∀ t' : Tbl, t'.Perm t → Φ (ownT ls t') os
theorem f_checked_steps_len {K : PySem.W.Frag} {os : List Ot} {Φ : Ot → List Ot → Prop} {Ψ : XW} (h : F_checked K os Φ Ψ) : os.length = 4 := by
  obtain ⟨_, _, _, _, _, _, e, _⟩ := h
  rw [e]; rfl
theorem ok_checked (T : Txt K mg) : Kv SL P w K mg base 1 0 "checked_steps" P_checked_steps (F_checked K) := by
  refine kv_of (fun i => ([] : List Nat).contains i) T.d_checked_steps sc_checked_steps (fun _ _ _ _ _ _ us hl => match us, hl with | [_, _, _, _], _ => rfl) ?hl fun f cdv A outer s H E hr => ?_
  case hl => intro os Φ Ψ h; exact f_checked_steps_len h
  have st0 : ∀ o0 o1 o2 o3 : Ot, stO0 N_checked_steps [o0, o1, o2, o3] = [o0, o1, o2, o3, .no, .no, .no, .no, .no] := fun _ _ _ _ => rfl
  have hu := hu_of hr
  refine ⟨_, _, pss_cons (ps_set (i := 4) sc_checked_steps.nd rfl (Or.inl rfl) pe_dnewK)
  (pss_cons (ps_for (passes_of rfl) rfl (ki_list K (pe_callB (call_sortedD rfl) (by rfl) T.f_sorted (by decide +kernel) (pa_cons (pv 2) pa_nil))) (pg_name (i := 5) sc_checked_steps.nd rfl (Or.inl rfl))
  (pss_cons (ps_if (pt_cmpR (k_notIn K) (pv 5) (k_fld (pv 0)) rfl) (pss_one (ps_raiseLow rfl T.x_UnknownButton hr (takes_of rfl rfl rfl rfl) (pa_cons (pv 5) pa_nil))) (pss_nil))
  (pss_cons (ps_asg (pe_dget hu (pv 2) (pv 5) (fun _ _ => rfl)) (kg_tup K (n := 2) rfl (pgs_cons (pg_name (i := 6) sc_checked_steps.nd rfl (Or.inl rfl)) (pgs_cons (pg_name (i := 7) sc_checked_steps.nd rfl (Or.inr rfl)) pgs_nil))))
  (pss_cons (ps_if (PW.pt (pw_or (pt_cmpR op_lt (pv 6) pe_int (nomark _)) (pw_or1 (pt_cmpR op_ge (pv 6) (pv 3) (nomark _))))) (pss_one (ps_raiseLow rfl T.x_InvalidStep hr (takes_of rfl rfl rfl rfl) (pa_cons (pe_tup (pa_cons (pv 1) (pa_cons (pv 5) pa_nil))) pa_nil))) (pss_nil))
  (pss_cons (ps_for (passes_of rfl) rfl (ki_list K (pv 7)) (pg_name (i := 8) sc_checked_steps.nd rfl (Or.inl rfl))
  (pss_one (ps_if (pt_cmpR (k_notIn K) (pv 8) (k_fld (pv 0)) rfl) (pss_one (ps_raiseLow rfl T.x_UnknownLamp hr (takes_of rfl rfl rfl rfl) (pa_cons (pv 8) pa_nil))) (pss_nil))))
  (pss_one (ps_dput hu (pv 4) (pv 5) (pe_tup (pa_cons (pv 6) (pa_cons (pe_callTy (k_tuple K) (by rfl) T.f_tuple (by decide +kernel) (pa_cons (pe_lc (own := [("lamp", 8)]) (g := gName 8) (by rfl) sc_checked_steps.nd (ki_list K (k_fld (pv 0))) (blkOk_by (own := [("lamp", 8)]) (N := N_checked_steps) (sc := defScope s_checked_steps) (by first | decide +kernel | rfl)) (fun _ _ _ _ _ => pg_name (i := 8) sc_checked_steps.nd rfl (Or.inl rfl)) (fun _ _ _ _ _ => pts_one (pt_cmpR (k_in K) (pv 8) (pv 7) rfl)) (fun _ _ _ _ _ => pv 8)) pa_nil)) pa_nil))) rfl)))))))
  (pss_one (ps_ret (pv 4)))), VS.fit (s_seq (s_asg (v_dn))
  (s_seq (s_for (tg := .nm 5) (i_list (d_cb lc_sortD (l_cons (d_var (i := 2)) (l_nil))))
  (s_seq (s_if (t_test (d_op lf_inS (d_var (i := 5)) (d_fld T.cl_Device T.na_Device_button_names (d_var (i := 0))))) (s_raise (d_var (i := 5))) (s_next))
  (s_seq (s_asgT (.tp [.nm 6, .nm 7]) (d_dg (d_var (i := 2)) (d_var (i := 5))))
  (s_seq (s_if (t_or (t_test (d_op lf_IB (d_var (i := 6)) (d_int))) (t_test (d_op lf_IB (d_var (i := 6)) (d_var (i := 3))))) (s_raise (d_tup (l_cons (d_var (i := 1)) (l_cons (d_var (i := 5)) (l_nil))))) (s_next))
  (s_seq (s_for (tg := .nm 8) (i_list (d_var (i := 7)))
  (s_if (t_test (d_op lf_inS (d_var (i := 8)) (d_fld T.cl_Device T.na_Device_lamp_names (d_var (i := 0))))) (s_raise (d_var (i := 8))) (s_next)))
  (s_setD (i := 4) (v_tup (a_cons (v_d (d_var (i := 6))) (a_cons (v_tupC (l_cons (d_lc (tg := .nm 8) (i_list (d_fld T.cl_Device T.na_Device_lamp_names (d_var (i := 0)))) (t_test (d_op lf_inS (d_var (i := 8)) (d_var (i := 7)))) (d_var (i := 8))) (l_nil))) (a_nil)))) (d_var (i := 5))))))))
  (s_ret (v_var (i := 4))))) ?hc rfl, fun os Φ Ψ hF => ?_⟩
  case hc => first | exact Nat.le_of_ble_eq_true rfl | (unfold FORN; omega)
  obtain ⟨bs, ls, x, st, t, many, rfl, ⟨nd, hok⟩, h64, hl, q⟩ := hF
  refine ⟨rfl, ?_⟩
  rw [st0]
  have gd : ∀ k ∈ t.map (·.1), ∃ sp, t.lookup k = some sp ∧ (k, sp) ∈ t := fun k hk => by
    obtain ⟨p, hp, rfl⟩ := List.mem_map.mp hk
    exact ⟨p.2, look_of nd hp, hp⟩
  have gt : (t.map (·.1)).map (fun k => (k, (t.lookup k).getD (0, []))) = t := by
    rw [List.map_map]
    refine (List.map_congr_left (fun p hp => ?_)).trans (List.map_id t)
    show (p.1, (t.lookup p.1).getD (0, [])) = p
    rw [look_of nd (show (p.1, p.2) ∈ t from hp)]
    rfl
  walk_at "go"
  refine g_sortD (t.map (·.1)) (by rw [List.map_map, List.map_map]; rfl) (by rw [List.length_map]; exact h64) (fun ys hp hs => ?_)
  have ynd : ys.Nodup := hp.nodup_iff.mpr nd
  walk_at "go"
  refine ⟨.inr (by rw [List.length_map, hp.length_eq, List.length_map]; unfold FORN; omega), ?_⟩
  refine for_e [4, 5, 6, 7, 8] (fun i u => u = [(4, ownT ls ((ys.take i).map fun k => (k, (t.lookup k).getD (0, []))))]) ?_ (by walk_at "hu") ?_ ?_
  · exact ⟨[(4, _)], by walk_at "hs", rfl⟩
  · intro i d u hd e
    rw [List.getElem?_map] at hd
    cases hy : ys[i]? with
    | none => rw [hy] at hd; cases hd
    | some y =>
    rw [hy] at hd
    cases hd
    subst e
    have hi := (List.getElem?_eq_some_iff.mp hy).1
    obtain ⟨sp, hl1, hm⟩ := gd y (hp.mem_iff.mp (List.mem_of_getElem? hy))
    obtain ⟨hb, ⟨ha0, ha1⟩, hlit⟩ := hok _ hm
    have ha0 : 0 ≤ sp.1 := ha0
    have ha1 : sp.1 < many := ha1
    walk_at "go"
    intro N hN
    walk_at "go"
    refine ite_n (fun c => absurd hb c) (fun _ => ?_)
    walk_at "go"
    refine e_dgS (d := stpD sp) (by rw [val_map, hl1]; rfl) ?_
    walk_at "go"
    refine ite_d (fun c => absurd c (by omega)) (fun _ => ?_)
    walk_at "go"
    refine ite_d (fun c => absurd c (by omega)) (fun _ => ?_)
    walk_at "go"
    refine ⟨.inl rfl, ?_⟩
    refine for_e [8] (fun i u => u = []) ?_ (by walk_at "hu") ?_ ?_
    · exact ⟨[], by walk_at "hs", rfl⟩
    · intro i2 d2 u2 hd2 e2
      subst e2
      rw [List.getElem?_map] at hd2
      cases hy2 : sp.2[i2]? with
      | none => rw [hy2] at hd2; cases hd2
      | some l =>
      rw [hy2] at hd2
      cases hd2
      walk_at "go"
      intro N2 hN2
      walk_at "go"
      refine ite_n (fun c => absurd (hlit l (List.mem_of_getElem? hy2)) c) (fun _ => ?_)
      walk_at "go"
      exact hN2 [] _ (by walk_at "eq") (by walk_at "hs") rfl
    · intro u2 e2
      subst e2
      walk_at "go"
      refine ⟨by rw [List.length_map]; show _ ≤ 1000000; omega, .inl rfl, rfl, ?_⟩
      walk_at "go"
      refine lcD_map ls .str (fun l => decide (l ∈ sp.2)) .str rfl (fun l hl0 N1 N0 h1 h0 => ?_) ?_
      · walk_at "go"
        refine ite_d (fun c => ?_) (fun c => ?_)
        · walk_at "go"
          exact h1 (decide_eq_true c)
        · exact h0 (decide_eq_false c)
      walk_at "go"
      have tk : ys.take (i + 1) = ys.take i ++ [y] := by rw [List.take_add_one, hy]; rfl
      refine e_setDS rfl ?_ ?_ ?_
      · intro hm2
        obtain ⟨p, hp2, e⟩ := List.mem_map.mp hm2
        obtain ⟨k, hk, rfl⟩ := List.mem_map.mp hp2
        have e2 : k = y := Sum.inr.inj e
        subst e2
        obtain ⟨j, hj, ej⟩ := List.mem_iff_getElem.mp hk
        rw [List.length_take] at hj
        rw [List.getElem_take] at ej
        have := (List.getElem_inj ynd).mp (ej.trans (List.getElem?_eq_some_iff.mp hy).2.symm)
        omega
      · rw [List.length_map, List.length_map, List.length_take]
        have := hp.length_eq
        rw [List.length_map] at this
        omega
      walk_at "go"
      refine hN [(4, _)] _ (by walk_at "eq") (by walk_at "hs") ?_
      rw [tk, List.map_append, List.map_cons, List.map_nil, hl1]
      simp only [ownT, List.map_append]
      rfl
  · intro u e
    subst e
    rw [List.length_map, List.take_length]
    walk_at "go"
    refine ⟨rfl, q _ ?_⟩
    have := hp.map (fun k => (k, (t.lookup k).getD (0, [])))
    rwa [gt] at this
end
section
variable {P : Program} {w : World} {K : PySem.W.Frag} {mg : Str → Option Value} {base : Heap}
def F_init (K : PySem.W.Frag) : FnW := fun os Φ _ => ∃ d : Dv, os = [.ins (cD K) [] [], .fz (.lst (d.bs.map .str)), .fz (.lst (d.ls.map .str)), .fz (.lst (d.ts.map tblD))] ∧ d.ok ∧
  ∀ ts' : List Tbl, permT ts' d.ts → Φ (.fz .non) [.ins (cD K) ["button_names", "lamp_names", "steps"] [.fz (.lst (d.bs.map .str)), .fz (.lst (d.ls.map .str)), .lst ((ts'.map (heldT d.ls)).map .fz)], .fz (.lst (d.bs.map .str)), .fz (.lst (d.ls.map .str)), .fz (.lst (d.ts.map tblD))]
theorem f_Device___init___len {K : PySem.W.Frag} {os : List Ot} {Φ : Ot → List Ot → Prop} {Ψ : XW} (h : F_init K os Φ Ψ) : os.length = 4 := by
  obtain ⟨_, e, _⟩ := h
  rw [e]; rfl
theorem nodup_sub {α : Type} [DecidableEq α] : ∀ {xs ys : List α}, xs.Nodup → (∀ x ∈ xs, x ∈ ys) → xs.length ≤ ys.length
  | [], _, _, _ => Nat.zero_le _
  | x :: xs, ys, nd, h => by
    rw [List.nodup_cons] at nd
    have hx := h x List.mem_cons_self
    have := nodup_sub (ys := ys.erase x) nd.2 fun z hz => (List.mem_erase_of_ne fun e => nd.1 (by rw [← e]; exact hz)).mpr (h z (List.mem_cons_of_mem _ hz))
    rw [List.length_erase_of_mem hx] at this
    have := List.length_pos_of_mem hx
    rw [List.length_cons]
    omega
theorem held_own (ls : List Str) : ∀ t : Tbl, toD (ownT ls t) = some (heldT ls t) := by
  intro t
  have h : ∀ t : Tbl, toDs (t.map fun p => ownS ls p.2) = some (t.map fun p => heldD ls p.2) := fun t => by
    induction t with
    | nil => rfl
    | cons p t ih =>
      rw [List.map_cons, List.map_cons]
      unfold toDs
      rw [ih]
      have : toD (ownS ls p.2) = some (heldD ls p.2) := by
        unfold toD toDs
        simp only [toD, toDs, toDs_fz, Option.map_some]
      rw [this]
  show (toDs (t.map fun p => ownS ls p.2)).map (fun ds => Dt.dic ((t.map fun p => (.inr p.1 : Key)).zip ds)) = _
  rw [h t]
  show some (Dt.dic ((t.map fun p => (.inr p.1 : Key)).zip (t.map fun p => heldD ls p.2))) = _
  rw [List.zip_map', heldT]
theorem sc_own (ls : List Str) (t : Tbl) : (ownT ls t).sc = true := by
  have hs : ∀ ys : List Str, scA ((ys.map Dt.str).map .fz) = true := fun ys => by
    induction ys with
    | nil => rfl
    | cons y ys ih => rw [List.map_cons, List.map_cons]; unfold scA; rw [ih]; rfl
  show scA (t.map fun p => ownS ls p.2) = true
  induction t with
  | nil => rfl
  | cons p t ih =>
    rw [List.map_cons]
    unfold scA
    rw [ih]
    show (scA [.fz (.int p.2.1), .tup (((litOf ls p.2).map .str).map .fz)] && true) = true
    simp [scA, Ot.sc]
    have := hs (litOf ls p.2)
    rwa [List.map_map] at this
theorem ok_init (T : Txt K mg) : KvR SL P w K mg base 3 0 (Mk K (cD K)) P_Device___init__ (F_init K) := by
  have G_check_names := ok_checknames (P := P) (w := w) (base := base) T
  have G_checked_steps := ok_checked (P := P) (w := w) (base := base) T
  refine kvr_of (fun i => ([0] : List Nat).contains i) T.d_Device___init__ sc_Device___init__ (fun _ _ _ _ _ _ us hl => match us, hl with | [_, _, _, _], _ => rfl) ?hl fun f cdv A outer s H E hr => ?_
  case hl => intro os Φ Ψ h; exact f_Device___init___len h
  have st0 : ∀ o0 o1 o2 o3 : Ot, stO0 N_Device___init__ [o0, o1, o2, o3] = [o0, o1, o2, o3, .no, .no] := fun _ _ _ _ => rfl
  have hu := hu_of hr
  refine ⟨_, _, pss_cons (ps_expr (k_kv G_check_names hr (by omega) (pa_cons (pv 1) pa_nil)))
  (pss_cons (ps_expr (k_kv G_check_names hr (by omega) (pa_cons (pv 2) pa_nil)))
  (pss_cons (k_sfld (pv 0) (pe_callTy (k_list K) (by rfl) T.f_list (by decide +kernel) (pa_cons (pv 1) pa_nil)))
  (pss_cons (k_sfld (pv 0) (pe_callTy (k_list K) (by rfl) T.f_list (by decide +kernel) (pa_cons (pv 2) pa_nil)))
  (pss_cons (k_sfld (pv 0) (pe_lst pa_nil))
  (pss_one (ps_for (passes_of rfl) rfl (ki_enum K (by rfl) T.f_enumerate (pa_cons (pv 3) pa_nil)) (kg_tup K (n := 2) rfl (pgs_cons (pg_name (i := 4) sc_Device___init__.nd rfl (Or.inl rfl)) (pgs_cons (pg_name (i := 5) sc_Device___init__.nd rfl (Or.inl rfl)) pgs_nil)))
  (pss_one (ps_expr (k_bm K PySem.F.plainAttrs_list PySem.F.slot_list_append PySem.F.type_list_append mt_append (k_fld (pv 0)) (pa_cons (k_kv G_checked_steps hr (by omega) (pa_cons (pv 0) (pa_cons (pv 4) (pa_cons (pv 5) (pa_cons (pe_callB (k_len K) (by rfl) T.f_len (by decide +kernel) (pa_cons (pv 3) pa_nil)) pa_nil))))) pa_nil)))))))))), VS.fit (s_seq (s_drop (v_callQ (a_cons (v_d (d_var (i := 1))) (a_nil))))
  (s_seq (s_drop (v_callQ (a_cons (v_d (d_var (i := 2))) (a_nil))))
  (s_seq (s_setF (i := 0) T.cl_Device T.na_Device_button_names (v_d (d_cb lc_list (l_cons (d_var (i := 1)) (l_nil)))))
  (s_seq (s_setF (i := 0) T.cl_Device T.na_Device_lamp_names (v_d (d_cb lc_list (l_cons (d_var (i := 2)) (l_nil)))))
  (s_seq (s_setF (i := 0) T.cl_Device T.na_Device_steps (v_lst (a_nil)))
  (s_for (tg := .tp [.nm 4, .nm 5]) (i_enum (l_cons (d_var (i := 3)) (l_nil)))
  (s_drop (v_appF (i := 0) T.cl_Device T.na_Device_steps (v_d (d_fq (v_callF (a_cons (v_var (i := 0)) (a_cons (v_d (d_var (i := 4))) (a_cons (v_d (d_var (i := 5))) (a_cons (v_d (d_cb lc_len (l_cons (d_var (i := 3)) (l_nil)))) (a_nil)))))))))))))))) ?hc rfl, fun os Φ Ψ hF => ?_⟩
  case hc => first | exact Nat.le_of_ble_eq_true rfl | (unfold FORN; omega)
  obtain ⟨d, rfl, ⟨⟨b1, b2, b3⟩, ⟨l1, l2, l3⟩, t1, t2⟩, q⟩ := hF
  refine ⟨rfl, ?_⟩
  rw [st0]
  walk_at "go"
  refine ⟨d.bs, rfl, b1, b2, ?_⟩
  walk_at "go"
  refine ⟨d.ls, rfl, l1, l2, ?_⟩
  walk_at "go"
  refine ⟨.inl rfl, ?_⟩
  refine for_e [0, 4, 5] (fun i u => ∃ ts' : List Tbl, ts'.length = i ∧ (∀ (j : Nat) (a b : Tbl), ts'[j]? = some a → d.ts[j]? = some b → a.Perm b) ∧
    u = [(0, .ins (cD K) ["button_names", "lamp_names", "steps"] [.fz (.lst (d.bs.map .str)), .fz (.lst (d.ls.map .str)), .lst ((ts'.map (heldT d.ls)).map .fz)])]) ?_ (by walk_at "hu") ?_ ?_
  · exact ⟨[(0, _)], by walk_at "hs", [], rfl, fun _ _ _ h => by simp at h, rfl⟩
  · intro i dd u hd ⟨ts', e1, hp, e⟩
    subst e1 e
    obtain ⟨x, hx, rfl⟩ := enumD_at hd
    rw [List.getElem?_map] at hx
    cases ht : d.ts[ts'.length]? with
    | none => rw [ht] at hx; cases hx
    | some t =>
    rw [ht] at hx
    cases hx
    have ok := t2 t (List.mem_of_getElem? ht)
    have hlt := (List.getElem?_eq_some_iff.mp ht).1
    have tl : t.length ≤ 60 := by
      have := nodup_sub (ys := d.bs) ok.1 fun x hx => by
        obtain ⟨p, hp, rfl⟩ := List.mem_map.mp hx
        exact (ok.2 p hp).1
      rw [List.length_map] at this
      omega
    walk_at "go"
    intro N hN
    walk_at "go"
    refine ⟨["button_names", "lamp_names"], [], [.fz (.lst (d.bs.map .str)), .fz (.lst (d.ls.map .str))], (ts'.map (heldT d.ls)).map .fz, [], rfl, by decide +kernel, rfl, by rw [List.length_map, List.length_map]; omega, ?_⟩
    walk_at "go"
    refine ⟨[partD (cD K) d.bs d.ls (.lst (ts'.map (heldT d.ls))), .int (ts'.length : Int), tblD t, .int (d.ts.length : Int)], ?_, ?_, ?_⟩
    · simp only [datO, toD, toDs, toDs_fz, Option.map_some, List.getElem?_cons_zero, List.length_map]
      rfl
    · simp [ndA, Ot.nd]
      have := nd_fz (ts'.map (heldT d.ls))
      rwa [List.map_map] at this
    refine ⟨d.bs, d.ls, _, _, t, d.ts.length, rfl, ok, by omega, by omega, fun t' hp' => ?_⟩
    refine ⟨sc_own _ _, _, _, rfl, held_own _ _, ?_⟩
    walk_at "go"
    refine hN [(0, _)] _ (by walk_at "eq") (by walk_at "hs") ⟨ts' ++ [t'], by rw [List.length_append]; rfl, fun j a b h1 h2 => ?_, ?_⟩
    · by_cases hj : j < ts'.length
      · rw [List.getElem?_append_left hj] at h1
        exact hp j a b h1 h2
      · rw [List.getElem?_append_right (by omega)] at h1
        have : j - ts'.length = 0 := by
          refine Nat.le_antisymm ?_ (Nat.zero_le _)
          have := (List.getElem?_eq_some_iff.mp h1).1
          simp at this
          omega
        rw [this] at h1
        cases h1
        have ej : j = ts'.length := by omega
        rw [ej, ht] at h2
        cases h2
        exact hp'
    · simp only [List.map_append]; rfl
  · intro u ⟨ts', e1, hp, e⟩
    rw [enumD_len, List.length_map] at e1
    subst e
    walk_at "go"
    exact ⟨rfl, q ts' ⟨e1, hp⟩⟩
end
section
variable {P : Program} {w : World} {K : PySem.W.Frag} {mg : Str → Option Value} {base : Heap}
def F_names1 (K : PySem.W.Frag) (g : Dv → List Str) : FnW := fun os Φ _ => ∃ (d : Dv) (ts' : List Tbl), os = [.fz (devD (cD K) d ts')] ∧ Φ (.lst (((g d).map .str).map .fz)) os
theorem f_Device_buttons_len {K : PySem.W.Frag} {os : List Ot} {Φ : Ot → List Ot → Prop} {Ψ : XW} {g : Dv → List Str} (h : F_names1 K g os Φ Ψ) : os.length = 1 := by
  obtain ⟨_, _, e, _⟩ := h
  rw [e]; rfl
theorem f_Device_lamps_len {K : PySem.W.Frag} {os : List Ot} {Φ : Ot → List Ot → Prop} {Ψ : XW} {g : Dv → List Str} (h : F_names1 K g os Φ Ψ) : os.length = 1 := by
  obtain ⟨_, _, e, _⟩ := h
  rw [e]; rfl
theorem ok_buttons (T : Txt K mg) : KvR SL P w K mg base 1 0 (fun g => ∃ p, PropOf K (cD K) "buttons" p g) P_Device_buttons (F_names1 K Dv.bs) := by
  refine kvr_of0 (fun i => ([] : List Nat).contains i) T.d_Device_buttons sc_Device_buttons (fun _ _ _ _ _ _ us hl => match us, hl with | [_], _ => rfl) ?hl fun f cdv A outer s H E hr => ?_
  case hl => intro os Φ Ψ h; exact f_Device_buttons_len h
  have st0 : ∀ o0 : Ot, stO0 N_Device_buttons [o0] = [o0] := fun _ => rfl
  have hu := hu_of hr
  refine ⟨_, _, pss_one (ps_ret (pe_callTy (k_list K) (by rfl) T.f_list (by decide +kernel) (pa_cons (k_fld (pv 0)) pa_nil))), VS.fit (s_ret (v_listC (l_cons (d_fld T.cl_Device T.na_Device_button_names (d_var (i := 0))) (l_nil)))) ?hc rfl, fun os Φ Ψ hF => ?_⟩
  case hc => first | exact Nat.le_of_ble_eq_true rfl | (unfold FORN; omega)
  obtain ⟨d, ts', rfl, q⟩ := hF
  refine ⟨rfl, ?_⟩
  rw [st0]
  walk_at "go"
  exact ⟨rfl, q⟩
theorem ok_lamps (T : Txt K mg) : KvR SL P w K mg base 1 0 (fun g => ∃ p, PropOf K (cD K) "lamps" p g) P_Device_lamps (F_names1 K Dv.ls) := by
  refine kvr_of0 (fun i => ([] : List Nat).contains i) T.d_Device_lamps sc_Device_lamps (fun _ _ _ _ _ _ us hl => match us, hl with | [_], _ => rfl) ?hl fun f cdv A outer s H E hr => ?_
  case hl => intro os Φ Ψ h; exact f_Device_lamps_len h
  have st0 : ∀ o0 : Ot, stO0 N_Device_lamps [o0] = [o0] := fun _ => rfl
  have hu := hu_of hr
  refine ⟨_, _, pss_one (ps_ret (pe_callTy (k_list K) (by rfl) T.f_list (by decide +kernel) (pa_cons (k_fld (pv 0)) pa_nil))), VS.fit (s_ret (v_listC (l_cons (d_fld T.cl_Device T.na_Device_lamp_names (d_var (i := 0))) (l_nil)))) ?hc rfl, fun os Φ Ψ hF => ?_⟩
  case hc => first | exact Nat.le_of_ble_eq_true rfl | (unfold FORN; omega)
  obtain ⟨d, ts', rfl, q⟩ := hF
  refine ⟨rfl, ?_⟩
  rw [st0]
  walk_at "go"
  exact ⟨rfl, q⟩
def F_shown : FnW := fun os Φ _ => ∃ (bs ls : List Str) (t : Tbl), os = [.fz (.lst (bs.map .str)), .fz (heldT ls t)] ∧ bs.length ≤ 1000 ∧ Φ (.fz (shownD bs ls t)) os
theorem f_shown_steps_len {os : List Ot} {Φ : Ot → List Ot → Prop} {Ψ : XW} (h : F_shown os Φ Ψ) : os.length = 2 := by
  obtain ⟨_, _, _, e, _⟩ := h
  rw [e]; rfl
theorem ok_shown (T : Txt K mg) : Kv SL P w K mg base 1 0 "shown_steps" P_shown_steps F_shown := by
  refine kv_of0 (fun i => ([] : List Nat).contains i) T.d_shown_steps sc_shown_steps (fun _ _ _ _ _ _ us hl => match us, hl with | [_, _], _ => rfl) ?hl fun f cdv A outer s H E hr => ?_
  case hl => intro os Φ Ψ h; exact f_shown_steps_len h
  have st0 : ∀ o0 o1 : Ot, stO0 N_shown_steps [o0, o1] = [o0, o1, .no] := fun _ _ => rfl
  have hu := hu_of hr
  refine ⟨_, _, pss_one (ps_ret (pe_lc (own := [("button", 2)]) (g := gName 2) (by rfl) sc_shown_steps.nd (ki_list K (pv 0)) (blkOk_by (own := [("button", 2)]) (N := N_shown_steps) (sc := defScope s_shown_steps) (by first | decide +kernel | rfl)) (fun _ _ _ _ _ => pg_name (i := 2) sc_shown_steps.nd rfl (Or.inl rfl)) (fun _ _ _ _ _ => pts_one (pt_cmp (pc_din hu (pv 2) (pv 1)))) (fun _ _ _ _ _ => pe_tup (pa_cons (pv 2) (pa_cons (pe_ix (kx_tup K) (pe_dget hu (pv 1) (pv 2) (fun _ _ => rfl)) pe_int (fun _ _ => rfl)) (pa_cons (pe_callTy (k_list K) (by rfl) T.f_list (by decide +kernel) (pa_cons (pe_ix (kx_tup K) (pe_dget hu (pv 1) (pv 2) (fun _ _ => rfl)) pe_int (fun _ _ => rfl)) pa_nil)) pa_nil)))))), VS.fit (s_retD (d_lc (tg := .nm 2) (i_list (d_var (i := 0))) (t_test (d_din (d_var (i := 2)) (d_var (i := 1)))) (d_tup (l_cons (d_var (i := 2)) (l_cons (d_op lf_ixT (d_dg (d_var (i := 1)) (d_var (i := 2))) (d_int)) (l_cons (d_cb lc_list (l_cons (d_op lf_ixT (d_dg (d_var (i := 1)) (d_var (i := 2))) (d_int)) (l_nil))) (l_nil))))))) ?hc rfl, fun os Φ Ψ hF => ?_⟩
  case hc => first | exact Nat.le_of_ble_eq_true rfl | (unfold FORN; omega)
  obtain ⟨bs, ls, t, rfl, hb, q⟩ := hF
  refine ⟨rfl, ?_⟩
  rw [st0]
  walk_at "go"
  refine ⟨by rw [List.length_map]; show _ ≤ 1000000; omega, .inl rfl, rfl, ?_⟩
  walk_at "go"
  refine lcD_map bs .str (fun b => (t.lookup b).isSome) (trip ls t) rfl (fun y hy N1 N0 h1 h0 => ?_) ?_
  · walk_at "go"
    rw [val_map, Option.isSome_map]
    refine ite_b (fun c => ?_) (fun c => h0 c)
    obtain ⟨sp, hs⟩ := Option.isSome_iff_exists.mp c
    have hv : valG (t.map fun p => ((Sum.inr p.1 : Key), heldD ls p.2)) (.inr y) = some (heldD ls sp) := by rw [val_map, hs]; rfl
    walk_at "go"
    refine e_dgS hv ?_
    walk_at "go"
    refine e_dgS hv ?_
    walk_at "go"
    have e : trip ls t y = .tup [.str y, .int sp.1, .lst ((litOf ls sp).map .str)] := by unfold trip; rw [hs]
    rw [e] at h1
    exact h1 c
  · walk_at "go"
    exact ⟨rfl, q⟩
theorem shown_congr {bs ls : List Str} {a b : Tbl} (h : ∀ k, a.lookup k = b.lookup k) : shownD bs ls a = shownD bs ls b := by
  unfold shownD
  have e1 : (fun k => (a.lookup k).isSome) = fun k => (b.lookup k).isSome := funext fun k => by rw [h]
  have e2 : trip ls a = trip ls b := funext fun k => by unfold trip; rw [h]
  rw [e1, e2]
theorem map_perm {β : Type} {f : Tbl → β} {ts' ts : List Tbl} (hp : permT ts' ts) (hf : ∀ a b : Tbl, b ∈ ts → a.Perm b → f a = f b) : ts'.map f = ts.map f := by
  refine List.ext_getElem? fun i => ?_
  rw [List.getElem?_map, List.getElem?_map]
  cases h1 : ts'[i]? with
  | none =>
    have : ts[i]? = none := List.getElem?_eq_none_iff.mpr (hp.1 ▸ List.getElem?_eq_none_iff.mp h1)
    rw [this]
  | some a =>
    have hl := (List.getElem?_eq_some_iff.mp h1).1
    have hl2 : i < ts.length := hp.1 ▸ hl
    rw [List.getElem?_eq_getElem hl2]
    show some (f a) = some (f ts[i])
    rw [hf a ts[i] (List.getElem_mem hl2) (hp.2 i a ts[i] h1 (List.getElem?_eq_getElem hl2))]
def F_states (K : PySem.W.Frag) : FnW := fun os Φ _ => ∃ (d : Dv) (ts' : List Tbl), os = [.fz (devD (cD K) d ts')] ∧ d.ok ∧ permT ts' d.ts ∧ Φ (.fz (.lst (d.ts.map (shownD d.bs d.ls)))) os
theorem f_Device_states_len {K : PySem.W.Frag} {os : List Ot} {Φ : Ot → List Ot → Prop} {Ψ : XW} (h : F_states K os Φ Ψ) : os.length = 1 := by
  obtain ⟨_, _, e, _⟩ := h
  rw [e]; rfl
theorem ok_states (T : Txt K mg) : KvR SL P w K mg base 2 0 (fun g => ∃ p, PropOf K (cD K) "states" p g) P_Device_states (F_states K) := by
  have G_shown_steps := ok_shown (P := P) (w := w) (base := base) T
  refine kvr_of0 (fun i => ([] : List Nat).contains i) T.d_Device_states sc_Device_states (fun _ _ _ _ _ _ us hl => match us, hl with | [_], _ => rfl) ?hl fun f cdv A outer s H E hr => ?_
  case hl => intro os Φ Ψ h; exact f_Device_states_len h
  have st0 : ∀ o0 : Ot, stO0 N_Device_states [o0] = [o0, .no] := fun _ => rfl
  have hu := hu_of hr
  refine ⟨_, _, pss_one (ps_ret (pe_lc (own := [("steps", 1)]) (g := gName 1) (tt := tYes) (by rfl) sc_Device_states.nd (ki_list K (k_fld (pv 0))) (blkOk_by (own := [("steps", 1)]) (N := N_Device_states) (sc := defScope s_Device_states) (by first | decide +kernel | rfl)) (fun _ _ _ _ _ => pg_name (i := 1) sc_Device_states.nd rfl (Or.inl rfl)) (fun _ _ _ _ _ => pts_nil) (fun _ _ _ _ _ => k_kv G_shown_steps hr (by omega) (pa_cons (k_fld (pv 0)) (pa_cons (pv 1) pa_nil))))), VS.fit (s_retD (d_lc (tg := .nm 1) (i_list (d_fld T.cl_Device T.na_Device_steps (d_var (i := 0)))) t_yes (d_x (v_callQ (a_cons (v_d (d_fld T.cl_Device T.na_Device_button_names (d_var (i := 0)))) (a_cons (v_d (d_var (i := 1))) (a_nil))))))) ?hc rfl, fun os Φ Ψ hF => ?_⟩
  case hc => first | exact Nat.le_of_ble_eq_true rfl | (unfold FORN; omega)
  obtain ⟨d, ts', rfl, ok, hp, q⟩ := hF
  refine ⟨rfl, ?_⟩
  rw [st0]
  walk_at "go"
  have l1 := hp.1
  have l2 := ok.2.2.1
  have l3 := ok.1.2.2
  refine ⟨by rw [List.length_map]; show _ ≤ 1000000; omega, .inl rfl, rfl, ?_⟩
  walk_at "go"
  refine lcD_map ts' (heldT d.ls) (fun _ => true) (shownD d.bs d.ls) rfl (fun t ht N1 N0 h1 h0 => ?_) ?_
  · walk_at "go"
    refine ⟨d.bs, d.ls, t, rfl, by omega, ?_⟩
    walk_at "go"
    exact h1 rfl
  · rw [Sx.filter_tt, map_perm hp fun a b hb p => shown_congr (look_perm p (ok.2.2.2 b hb).1)]
    walk_at "go"
    exact ⟨rfl, q⟩
end
theorem abc_at {i : Int} (h0 : 0 ≤ i) (h : i < 26) : atI abc.cps.toList i = some (97 + i.toNat) := by
  have key : ∀ n : Nat, n < 26 → abc.cps.toList[n]? = some (97 + n) := by decide +kernel
  unfold atI ixN
  rw [if_pos h0, if_pos (by rw [Array.length_toList]; exact h)]
  exact key i.toNat (by omega)
theorem abc_mem (i : Nat) (h : i < 26) : 97 + i ∈ abc.cps.toList := by
  have key : ∀ n : Nat, n < 26 → 97 + n ∈ abc.cps.toList := by decide +kernel
  exact key i h
theorem nm_of {y : Str} {l : List Nat} (e : cs y = l) (h1 : 1 ≤ l.length) (h8 : l.length ≤ 8) (ha : ∀ c ∈ l, c ∈ abc.cps.toList) : Nm y :=
  ⟨by rw [← cs_len, e]; exact h1, by rw [← cs_len, e]; exact h8, fun c hc => ha c (by rw [← e]; exact hc)⟩
/-- nine words of one letter each -/
def moreL (d : Int) (L : Nat) : List Str := (List.range 9).map fun j : Nat => Txt.mul (sgn (97 + (((j : Int) + d) % 26).toNat)) L
theorem moreL_nd (d : Int) (L : Nat) (h : 1 ≤ L) : (moreL d L).Nodup := by
  unfold moreL
  refine List.pairwise_map.mpr (List.Pairwise.imp_of_mem (R := fun a b : Nat => a < b) (fun {i j} hi hj hij e => ?_) List.pairwise_lt_range)
  have hi := List.mem_range.mp hi
  have hj := List.mem_range.mp hj
  have e1 := congrArg cs e
  rw [cs_mul, cs_mul] at e1
  have e2 := congrArg (fun l : List Nat => l[0]?) e1
  simp only [List.getElem?_replicate] at e2
  rw [if_pos (by omega), if_pos (by omega)] at e2
  have e3 := Option.some.inj e2
  omega
theorem moreL_nm {d : Int} {L : Nat} (h : 1 ≤ L) (h8 : L ≤ 8) : ∀ y ∈ moreL d L, Nm y := fun y hy => by
  obtain ⟨j, _, rfl⟩ := List.mem_map.mp hy
  refine nm_of (cs_mul _ L) (by simp; omega) (by simp; omega) fun c hc => ?_
  rw [(List.mem_replicate.mp hc).2]
  exact abc_mem _ (by omega)
section
variable {P : Program} {w : World} {K : PySem.W.Frag} {mg : Str → Option Value} {base : Heap}
def F_names : FnW := fun os Φ _ => ∃ (xs : List Int) (f : Int), os = [.fz (.lst (xs.map .int)), .fz (.int f)] ∧ (∀ x ∈ xs, 0 ≤ x) ∧ xs.length ≤ 8 ∧ ∀ ns : List Str, ns.length = xs.length → ns.Nodup → (∀ y ∈ ns, Nm y) → Φ (.fz (.lst (ns.map .str))) os
theorem f__law_names_len {os : List Ot} {Φ : Ot → List Ot → Prop} {Ψ : XW} (h : F_names os Φ Ψ) : os.length = 2 := by
  obtain ⟨_, _, e, _⟩ := h
  rw [e]; rfl
theorem ok_names (T : Txt K mg) : Kv SL P w K mg base 1 0 "_law_names" P__law_names F_names := by
  refine kv_of0 (fun i => ([] : List Nat).contains i) T.d__law_names sc__law_names (fun _ _ _ _ _ _ us hl => match us, hl with | [_, _], _ => rfl) ?hl fun f cdv A outer s H E hr => ?_
  case hl => intro os Φ Ψ h; exact f__law_names_len h
  have st0 : ∀ o0 o1 : Ot, stO0 N__law_names [o0, o1] = [o0, o1, .no, .no, .no, .no, .no, .no, .no, .no, .no, .no] := fun _ _ => rfl
  have hu := hu_of hr
  refine ⟨_, _, pss_cons (ps_set (i := 2) sc__law_names.nd rfl (Or.inr rfl) pe_str)
  (pss_cons (ps_set (i := 3) sc__law_names.nd rfl (Or.inl rfl) (pe_ix ix_str (pv 2) (pe_op op_mod (pe_callTy call_int1 (by rfl) T.f_int (by decide +kernel) (pa_cons (pv 1) pa_nil)) pe_int) (fun _ _ => rfl)))
  (pss_cons (ps_set (i := 4) sc__law_names.nd rfl (Or.inr rfl) (pe_lst pa_nil))
  (pss_cons (ps_for PassesOwn.never rfl (ki_list K (pv 0)) (pg_name (i := 5) sc__law_names.nd rfl (Or.inr rfl))
  (pss_cons (ps_set (i := 6) sc__law_names.nd rfl (Or.inr rfl) (pe_op op_add pe_int (pe_op op_mod (pe_callTy call_int1 (by rfl) T.f_int (by decide +kernel) (pa_cons (pe_op op_fdiv (pv 5) pe_int) pa_nil)) pe_int)))
  (pss_cons (ps_set (i := 7) sc__law_names.nd rfl (Or.inl rfl) (pe_op op_mod (pe_callTy call_int1 (by rfl) T.f_int (by decide +kernel) (pa_cons (pe_op op_fdiv (pv 5) pe_int) pa_nil)) (pv 6)))
  (pss_cons (ps_set (i := 8) sc__law_names.nd rfl (Or.inl rfl) (pe_op op_add_str (pe_op op_repS (pv 3) (pv 7)) (pe_ix ix_str (pv 2) (pe_op op_mod (pe_callTy call_int1 (by rfl) T.f_int (by decide +kernel) (pa_cons (pv 5) pa_nil)) pe_int) (fun _ _ => rfl))))
  (pss_cons (ps_set (i := 8) sc__law_names.nd rfl (Or.inl rfl) (pe_op op_add_str (pv 8) (pe_op op_repS (pv 3) (pe_op op_sub (pe_op op_sub (pv 6) pe_int) (pv 7)))))
  (pss_cons (ps_setLc (i := 9) (own := [("_law_j", 10)]) (g := gName 10) (tt := tYes) rfl sc__law_names.nd rfl rfl (sw_true rfl rfl rfl (by decide +kernel)) (pi_range1 (by rfl) T.f_range (pa_cons pe_int pa_nil)) (blkOk_by (own := [("_law_j", 10)]) (N := N__law_names) (sc := defScope s__law_names) (by first | decide +kernel | rfl)) (fun _ _ _ _ _ => pg_name (i := 10) sc__law_names.nd rfl (Or.inl rfl)) (fun _ _ _ _ _ => pts_nil) (fun _ _ _ _ _ => pe_op op_repS (pe_ix ix_str (pv 2) (pe_op op_mod (pe_callTy call_int1 (by rfl) T.f_int (by decide +kernel) (pa_cons (pe_op op_add (pv 10) (pv 5)) pa_nil)) pe_int) (fun _ _ => rfl)) (pv 6)))
  (pss_one (ps_expr (k_bm K PySem.F.plainAttrs_list PySem.F.slot_list_append PySem.F.type_list_append mt_append (pv 4) (pa_cons (pe_ix (kx_list K) (pe_lc (own := [("_law_one", 11)]) (g := gName 11) (by rfl) sc__law_names.nd (ki_list K (pe_op op_cat (pe_lst (pa_cons (pv 8) pa_nil)) (pv 9))) (blkOk_by (own := [("_law_one", 11)]) (N := N__law_names) (sc := defScope s__law_names) (by first | decide +kernel | rfl)) (fun _ _ _ _ _ => pg_name (i := 11) sc__law_names.nd rfl (Or.inl rfl)) (fun _ _ _ _ _ => pts_one (pt_cmpR (k_notIn K) (pv 11) (pv 4) rfl)) (fun _ _ _ _ _ => pv 11)) pe_int (fun _ _ => rfl)) pa_nil))))))))))
  (pss_one (ps_ret (pv 4)))))), VS.fit (s_seq (s_asgD (d_str))
  (s_seq (s_asgD (d_op lf_ixS (d_var (i := 2)) (d_op lf_mod (d_cb lc_int (l_cons (d_var (i := 1)) (l_nil))) (d_int))))
  (s_seq (s_asg (v_lst (a_nil)))
  (s_seq (s_for (tg := .nm 5) (i_list (d_var (i := 0)))
  (s_seq (s_asgD (d_op lf_II (d_int) (d_op lf_mod (d_cb lc_int (l_cons (d_op lf_div (d_var (i := 5)) (d_int)) (l_nil))) (d_int))))
  (s_seq (s_asgD (d_op lf_mod (d_cb lc_int (l_cons (d_op lf_div (d_var (i := 5)) (d_int)) (l_nil))) (d_var (i := 6))))
  (s_seq (s_asgD (d_op lf_addS (d_op lf_repS (d_var (i := 3)) (d_var (i := 7))) (d_op lf_ixS (d_var (i := 2)) (d_op lf_mod (d_cb lc_int (l_cons (d_var (i := 5)) (l_nil))) (d_int)))))
  (s_seq (s_asgD (d_op lf_addS (d_var (i := 8)) (d_op lf_repS (d_var (i := 3)) (d_op lf_II (d_op lf_II (d_var (i := 6)) (d_int)) (d_var (i := 7))))))
  (s_seq (s_asgD (d_lc (tg := .nm 10) (i_rg1 (l_cons (d_int) (l_nil))) t_yes (d_op lf_repS (d_op lf_ixS (d_var (i := 2)) (d_op lf_mod (d_cb lc_int (l_cons (d_op lf_II (d_var (i := 10)) (d_var (i := 5))) (l_nil))) (d_int))) (d_var (i := 6)))))
  (s_drop (v_append (i := 4) (v_d (d_op lf_ixL (d_lc (tg := .nm 11) (i_list (d_op lf_cat (d_lst (l_cons (d_var (i := 8)) (l_nil))) (d_var (i := 9)))) (t_test (d_opO (i := 4) lo_inS (d_var (i := 11)))) (d_var (i := 11))) (d_int)))))))))))
  (s_retD (d_f (v_var (i := 4)))))))) ?hc rfl, fun os Φ Ψ hF => ?_⟩
  case hc => first | exact Nat.le_of_ble_eq_true rfl | (unfold FORN; omega)
  obtain ⟨xs, f, rfl, h0, h8, q⟩ := hF
  refine ⟨rfl, ?_⟩
  rw [st0]
  walk_at "ga"
  refine g_ixS (nle rfl) (abc_at (Int.emod_nonneg _ (by omega)) (Int.emod_lt_of_pos _ (by omega))) ?_
  have fab := abc_mem (f % 26).toNat (by omega)
  generalize (f % 26).toNat = st at fab
  walk_at "ga"
  refine for_x xs .int [4, 5, 6, 7, 8, 9] (fun a u => ∃ ys : List Str, ys.length = a.length ∧ ys.Nodup ∧ (∀ y ∈ ys, Nm y) ∧ u = [(4, .lst ((ys.map .str).map .fz))]) rfl ?_ (by walk_at "hu") ?_ ?_
  · exact ⟨[(4, _)], by walk_at "hs", [], rfl, List.nodup_nil, fun _ h => (nomatch h), rfl⟩
  · intro a x b u sp ⟨ys, yl, ynd, yn, e⟩
    subst e
    have x0 : 0 ≤ x := h0 x (by rw [sp]; simp)
    have hl : a.length < 8 := by
      have := congrArg List.length sp
      rw [List.length_append, List.length_cons] at this
      omega
    walk_at "ga"
    intro N hN
    walk_at "ga"
    obtain ⟨L, hL, hL1, hL8⟩ : ∃ L : Nat, 1 + x / 26 % 8 = (L : Int) ∧ 1 ≤ L ∧ L ≤ 8 := ⟨(1 + x / 26 % 8).toNat, by omega, by omega, by omega⟩
    rw [hL]
    have p0 := Int.emod_nonneg (x / 208) (show (L : Int) ≠ 0 by omega)
    have p1 := Int.emod_lt_of_pos (x / 208) (show (0 : Int) < (L : Int) by omega)
    obtain ⟨pn, hpn⟩ := Int.eq_ofNat_of_zero_le p0
    rw [hpn] at p1 ⊢
    have fl : (sgn (97 + st)).length = 1 := rfl
    refine g_repS (by omega) (by omega) (by rw [fl]; decide) ?_
    have l1 := txt_mul_len (sgn (97 + st)) pn
    rw [fl, Nat.one_mul] at l1
    walk_at "ga"
    refine g_ixS (nle rfl) (abc_at (Int.emod_nonneg _ (by omega)) (Int.emod_lt_of_pos _ (by omega))) ?_
    have qab := abc_mem (x % 26).toNat (by omega)
    generalize (x % 26).toNat = qc at qab
    have ql : (sgn (97 + qc)).length = 1 := rfl
    refine g_addS (by rw [l1, ql]; omega) ?_
    have l2 : (Txt.mul (sgn (97 + st)) (pn : Int) ++ sgn (97 + qc)).length = pn + 1 := by rw [str_app_len, l1, ql]
    walk_at "ga"
    obtain ⟨dn, hdn⟩ := Int.eq_ofNat_of_zero_le (show 0 ≤ (L : Int) - 1 - (pn : Int) by omega)
    rw [hdn]
    refine g_repS (by omega) (by omega) (by rw [fl]; decide) ?_
    have l3 := txt_mul_len (sgn (97 + st)) dn
    rw [fl, Nat.one_mul] at l3
    refine g_addS (by rw [l2, l3]; omega) ?_
    have ew : cs (Txt.mul (sgn (97 + st)) (pn : Int) ++ sgn (97 + qc) ++ Txt.mul (sgn (97 + st)) (dn : Int)) = List.replicate pn (97 + st) ++ [97 + qc] ++ List.replicate dn (97 + st) := by
      rw [cs_app, cs_app, cs_mul, cs_mul, cs_sgn]
    have wn : Nm (Txt.mul (sgn (97 + st)) (pn : Int) ++ sgn (97 + qc) ++ Txt.mul (sgn (97 + st)) (dn : Int)) := by
      refine nm_of ew (by simp; omega) (by simp; omega) fun c hc => ?_
      simp only [List.mem_append, List.mem_replicate, List.mem_singleton] at hc
      rcases hc with (⟨_, rfl⟩ | rfl) | ⟨_, rfl⟩
      · exact fab
      · exact qab
      · exact fab
    generalize Txt.mul (sgn (97 + st)) (pn : Int) ++ sgn (97 + qc) ++ Txt.mul (sgn (97 + st)) (dn : Int) = wd at wn
    walk_at "ga"
    refine lcD_map (List.range 9) (fun k => .int (0 + (k : Int))) (fun _ => true) (fun j : Nat => .str (Txt.mul (sgn (97 + (((j : Int) + x) % 26).toNat)) L)) rfl (fun j hj N1 N0 h1 h0 => ?_) ?_
    · have hj9 := List.mem_range.mp hj
      walk_at "ga"
      refine g_ixS (nle rfl) (abc_at (Int.emod_nonneg _ (by omega)) (Int.emod_lt_of_pos _ (by omega))) ?_
      rw [Int.zero_add]
      walk_at "ga"
      exact g_repS (by omega) (by omega) (by show 1 ≤ 1000; decide) (h1 rfl)
    rw [Sx.filter_tt]
    have em : (List.range 9).map (fun j : Nat => Dt.str (Txt.mul (sgn (97 + (((j : Int) + x) % 26).toNat)) L)) = (moreL x L).map .str := by unfold moreL; rw [List.map_map]; rfl
    rw [em]
    have nd := moreL_nd x L hL1
    have ml : (moreL x L).length = 9 := by unfold moreL; rw [List.length_map, List.length_range]
    have m8 := moreL_nm (d := x) hL1 hL8
    generalize moreL x L = mo at nd ml m8 ⊢
    walk_at "ga"
    refine g_cat (ds := [Dt.str wd]) (by rw [List.length_map]; show 1 + mo.length ≤ _; omega) ?_
    walk_at "ga"
    refine lcD_map (wd :: mo) .str (fun x => !decide (x ∈ ys)) .str rfl (fun x _ N1 N0 h1 h0 => ?_) ?_
    · walk_at "ga"
      refine g_oinS ?_
      walk_at "ga"
      refine ite_n (fun cc => ?_) (fun cc => ?_)
      · walk_at "ga"
        exact h1 (by rw [decide_eq_false cc]; rfl)
      · exact h0 (by rw [decide_eq_true cc]; rfl)
    obtain ⟨x0, hx0, hn0⟩ := spare_left (xs := mo) (ys := ys) nd (by omega)
    have hpos := len_of_mem_filter (f := fun x => !decide (x ∈ ys)) (l := wd :: mo) (List.mem_cons_of_mem wd hx0) (by rw [decide_eq_false hn0]; rfl)
    obtain ⟨u, hu1, _⟩ := atL (l := (wd :: mo).filter fun x => !decide (x ∈ ys)) (i := 0) (by omega) (by omega)
    have ul : Nm u := by
      rcases List.mem_cons.mp (List.mem_filter.mp (atI_mem hu1)).1 with e | m
      · rw [e]; exact wn
      · exact m8 u m
    have uo : u ∉ ys := by
      have := (List.mem_filter.mp (atI_mem hu1)).2
      simpa using this
    walk_at "ga"
    refine g_ixL (atI_map Dt.str hu1) ?_
    walk_at "ga"
    refine hN [(4, _)] _ (by walk_at "eq") (by walk_at "hs") ⟨ys ++ [u], by rw [List.length_append, List.length_append, yl]; rfl, ?_, fun y hy => ?_, by simp only [List.map_append]; rfl⟩
    · exact List.nodup_append.mpr ⟨ynd, List.nodup_cons.mpr ⟨by simp, List.nodup_nil⟩, fun a ha b hb e => uo (by rw [← List.mem_singleton.mp hb, ← e]; exact ha)⟩
    · rcases List.mem_append.mp hy with m | m
      · exact yn y m
      · rw [List.mem_singleton.mp m]; exact ul
  · intro u ⟨ys, yl, ynd, yn, e⟩
    subst e
    walk_at "ga"
    exact q ys yl ynd yn
end
abbrev dS (ns : List Str) : Dt := .lst (ns.map .str)
/-- the lamps as they are handed in -/
def ordL (o : Int) (l : List Str) : List Str := if o = 0 then l else if o = 1 then l.reverse else l ++ l.take 1
theorem mem_ordL {o : Int} {l : List Str} {x : Str} : x ∈ ordL o l ↔ x ∈ l := by
  unfold ordL
  split
  · exact .rfl
  · split
    · exact List.mem_reverse
    · rw [List.mem_append]
      exact ⟨fun h => h.elim id fun h => List.mem_of_mem_take h, .inl⟩
abbrev hanT (o : Int) (t : Tbl) : Tbl := t.map fun p => (p.1, (p.2.1, ordL o p.2.2))
/-- right steps: the buttons and the lamps in order -/
def lawT (bs ls : List Str) (many : Nat) (t : Tbl) : Prop := (t.map (·.1)).Sublist bs ∧ ∀ p ∈ t, (0 ≤ p.2.1 ∧ p.2.1 < many) ∧ p.2.2.Sublist ls
structure DwP (d : Dv) : Prop where
  bn : d.bs.Nodup ∧ ∀ y ∈ d.bs, Nm y
  bl : 1 ≤ d.bs.length ∧ d.bs.length ≤ 4
  ln : d.ls.Nodup ∧ ∀ y ∈ d.ls, Nm y
  ll : d.ls.length ≤ 3
  tl : 1 ≤ d.ts.length ∧ d.ts.length ≤ 5
  tt : ∀ t ∈ d.ts, lawT d.bs d.ls d.ts.length t
theorem lawT.ok {bs ls : List Str} {many : Nat} {t : Tbl} (h : lawT bs ls many t) (nb : bs.Nodup) : okT bs ls many t :=
  ⟨h.1.nodup nb, fun p hp => ⟨h.1.subset (List.mem_map.mpr ⟨p, hp, rfl⟩), (h.2 p hp).1, fun l hl => (h.2 p hp).2.subset hl⟩⟩
theorem DwP.ok {d : Dv} (h : DwP d) : d.ok := ⟨⟨h.bn.1, h.bn.2, by have := h.bl; omega⟩, ⟨h.ln.1, h.ln.2, by have := h.ll; omega⟩, by have := h.tl; omega, fun t ht => (h.tt t ht).ok h.bn.1⟩
abbrev hanV (d : Dv) (o : Int) : Dv := ⟨d.bs, d.ls, d.ts.map (hanT o)⟩
theorem han_okT {bs ls : List Str} {many : Nat} {t : Tbl} {o : Int} (h : okT bs ls many t) : okT bs ls many (hanT o t) := by
  refine ⟨by rw [List.map_map]; exact h.1, fun p hp => ?_⟩
  obtain ⟨q, hq, rfl⟩ := List.mem_map.mp hp
  have := h.2 q hq
  exact ⟨this.1, this.2.1, fun l hl => this.2.2 l (mem_ordL.mp hl)⟩
theorem DwP.hok {d : Dv} (h : DwP d) (o : Int) : (hanV d o).ok := by
  obtain ⟨a, b, c, e⟩ := h.ok
  refine ⟨a, b, by show (d.ts.map _).length ≤ _; rw [List.length_map]; exact c, fun t ht => ?_⟩
  obtain ⟨t0, h0, rfl⟩ := List.mem_map.mp ht
  show okT d.bs d.ls (d.ts.map _).length _
  rw [List.length_map]
  exact han_okT (e t0 h0)
abbrev worldD (d : Dv) (o : Int) : Dt := .dic [(.inr (Str.ofString "buttons"), dS d.bs), (.inr (Str.ofString "lamps"), dS d.ls), (.inr (Str.ofString "rows"), .lst (d.ts.map tblD)), (.inr (Str.ofString "given"), .lst ((d.ts.map (hanT o)).map tblD))]
theorem wd_buttons (d : Dv) (o : Int) : valG [(.inr (Str.ofString "buttons"), dS d.bs), (.inr (Str.ofString "lamps"), dS d.ls), (.inr (Str.ofString "rows"), .lst (d.ts.map tblD)), (.inr (Str.ofString "given"), .lst ((d.ts.map (hanT o)).map tblD))] (.inr (Str.ofString "buttons") : Key) = some (dS d.bs) := rfl
theorem wd_lamps (d : Dv) (o : Int) : valG [(.inr (Str.ofString "buttons"), dS d.bs), (.inr (Str.ofString "lamps"), dS d.ls), (.inr (Str.ofString "rows"), .lst (d.ts.map tblD)), (.inr (Str.ofString "given"), .lst ((d.ts.map (hanT o)).map tblD))] (.inr (Str.ofString "lamps") : Key) = some (dS d.ls) := rfl
theorem wd_rows (d : Dv) (o : Int) : valG [(.inr (Str.ofString "buttons"), dS d.bs), (.inr (Str.ofString "lamps"), dS d.ls), (.inr (Str.ofString "rows"), .lst (d.ts.map tblD)), (.inr (Str.ofString "given"), .lst ((d.ts.map (hanT o)).map tblD))] (.inr (Str.ofString "rows") : Key) = some (.lst (d.ts.map tblD)) := rfl
theorem wd_given (d : Dv) (o : Int) : valG [(.inr (Str.ofString "buttons"), dS d.bs), (.inr (Str.ofString "lamps"), dS d.ls), (.inr (Str.ofString "rows"), .lst (d.ts.map tblD)), (.inr (Str.ofString "given"), .lst ((d.ts.map (hanT o)).map tblD))] (.inr (Str.ofString "given") : Key) = some (.lst ((d.ts.map (hanT o)).map tblD)) := rfl
abbrev ownK (t : Tbl) : Ot := .dic (t.map fun p => (.inr p.1 : Key)) (t.map fun p => .fz (stpD p.2))
theorem own_tbl (t : Tbl) : toD (ownK t) = some (tblD t) := by
  show (toDs (t.map fun p => Ot.fz (stpD p.2))).map (fun ds => Dt.dic ((t.map fun p => (.inr p.1 : Key)).zip ds)) = _
  have e : (t.map fun p => Ot.fz (stpD p.2)) = (t.map fun p => stpD p.2).map .fz := by rw [List.map_map]; rfl
  rw [e, toDs_fz]
  show some (Dt.dic ((t.map fun p => (.inr p.1 : Key)).zip (t.map fun p => stpD p.2))) = _
  rw [List.zip_map']
section
variable {P : Program} {w : World} {K : PySem.W.Frag} {mg : Str → Option Value} {base : Heap}
def F_step : FnW := fun os Φ _ => ∃ (x : Int) (many : Nat) (ls : List Str) (dim : Int), os = [.fz (.int x), .fz (.int (many : Int)), .fz (dS ls), .fz (.int dim)] ∧ 0 ≤ x ∧ (1 ≤ many ∧ many ≤ 1000) ∧ ls.length ≤ 3 ∧
  ∀ (after : Int) (lit : List Str), 0 ≤ after → after < many → lit.Sublist ls → Φ (.fz (stpD (after, lit))) os
theorem f__law_step_len {os : List Ot} {Φ : Ot → List Ot → Prop} {Ψ : XW} (h : F_step os Φ Ψ) : os.length = 4 := by
  obtain ⟨_, _, _, _, e, _⟩ := h
  rw [e]; rfl
theorem ok_step (T : Txt K mg) : Kv SL P w K mg base 1 0 "_law_step" P__law_step F_step := by
  refine kv_of0 (fun i => ([] : List Nat).contains i) T.d__law_step sc__law_step (fun _ _ _ _ _ _ us hl => match us, hl with | [_, _, _, _], _ => rfl) ?hl fun f cdv A outer s H E hr => ?_
  case hl => intro os Φ Ψ h; exact f__law_step_len h
  have st0 : ∀ o0 o1 o2 o3 : Ot, stO0 N__law_step [o0, o1, o2, o3] = [o0, o1, o2, o3, .no, .no, .no, .no] := fun _ _ _ _ => rfl
  have hu := hu_of hr
  refine ⟨_, _, pss_cons (ps_set (i := 4) sc__law_step.nd rfl (Or.inr rfl) (pe_op op_mod (pe_callTy call_int1 (by rfl) T.f_int (by decide +kernel) (pa_cons (pe_op op_fdiv (pv 0) (pe_op op_mul pe_int (pv 1))) pa_nil)) pe_int))
  (pss_cons (ps_if (PW.pt (pw_or (PW.pt (pw_and (pt_cmpR op_eq (pv 3) pe_int (nomark _)) (pw_and1 (pt_cmpR op_lt (pv 4) pe_int (nomark _))))) (pw_or1 (PW.pt (pw_and (pt_cmpR op_eq (pv 3) pe_int (nomark _)) (pw_and1 (pt_cmpR op_lt (pv 4) pe_int (nomark _)))))))) (pss_one (ps_set (i := 4) sc__law_step.nd rfl (Or.inr rfl) pe_int)) (pss_nil))
  (pss_cons (ps_set (i := 5) sc__law_step.nd rfl (Or.inr rfl) (pe_lst (pa_cons pe_int (pa_cons pe_int (pa_cons pe_int pa_nil)))))
  (pss_cons (ps_setLc (i := 6) (own := [("_law_k", 7)]) (g := gName 7) rfl sc__law_step.nd rfl rfl (sw_true rfl rfl rfl (by decide +kernel)) (pi_range1 (by rfl) T.f_range (pa_cons (pe_callB (k_len K) (by rfl) T.f_len (by decide +kernel) (pa_cons (pv 2) pa_nil)) pa_nil)) (blkOk_by (own := [("_law_k", 7)]) (N := N__law_step) (sc := defScope s__law_step) (by first | decide +kernel | rfl)) (fun _ _ _ _ _ => pg_name (i := 7) sc__law_step.nd rfl (Or.inl rfl)) (fun _ _ _ _ _ => pts_one (pt_cmpR op_eq (pe_op op_mod (pe_callTy call_int1 (by rfl) T.f_int (by decide +kernel) (pa_cons (pe_op op_fdiv (pv 4) (pe_ix (kx_list K) (pv 5) (pv 7) (fun _ _ => rfl))) pa_nil)) pe_int) pe_int (nomark _))) (fun _ _ _ _ _ => pe_ix (kx_list K) (pv 2) (pv 7) (fun _ _ => rfl)))
  (pss_one (ps_ret (pe_tup (pa_cons (pe_op op_mod (pe_callTy call_int1 (by rfl) T.f_int (by decide +kernel) (pa_cons (pe_op op_fdiv (pv 0) pe_int) pa_nil)) (pv 1)) (pa_cons (pv 6) pa_nil)))))))), VS.fit (s_seq (s_asgD (d_op lf_mod (d_cb lc_int (l_cons (d_op lf_div (d_var (i := 0)) (d_op lf_mul (d_int) (d_var (i := 1)))) (l_nil))) (d_int)))
  (s_seqM (s_if (t_or (t_and (t_test (d_op lf_eq (d_var (i := 3)) (d_int))) (t_test (d_op lf_IB (d_var (i := 4)) (d_int)))) (t_and (t_test (d_op lf_eq (d_var (i := 3)) (d_int))) (t_test (d_op lf_IB (d_var (i := 4)) (d_int))))) (s_asgD (d_int)) (s_next))
  (s_seq (s_asgD (d_lst (l_cons (d_int) (l_cons (d_int) (l_cons (d_int) (l_nil))))))
  (s_seq (s_asgD (d_lc (tg := .nm 7) (i_rg1 (l_cons (d_cb lc_len (l_cons (d_var (i := 2)) (l_nil))) (l_nil))) (t_test (d_op lf_eq (d_op lf_mod (d_cb lc_int (l_cons (d_op lf_div (d_var (i := 4)) (d_op lf_ixL (d_var (i := 5)) (d_var (i := 7)))) (l_nil))) (d_int)) (d_int))) (d_op lf_ixL (d_var (i := 2)) (d_var (i := 7)))))
  (s_retD (d_tup (l_cons (d_op lf_mod (d_cb lc_int (l_cons (d_op lf_div (d_var (i := 0)) (d_int)) (l_nil))) (d_var (i := 1))) (l_cons (d_var (i := 6)) (l_nil))))))))) ?hc rfl, fun os Φ Ψ hF => ?_⟩
  case hc => first | exact Nat.le_of_ble_eq_true rfl | (unfold FORN; omega)
  obtain ⟨x, many, ls, dim, rfl, x0, ⟨m1, m2⟩, hl, q⟩ := hF
  refine ⟨rfl, ?_⟩
  rw [st0]
  walk_at "ga"
  generalize x / (6 * (many : Int)) % 24 = b0
  refine seqM_e [4] (fun u => ∃ b : Int, u = [(4, .fz (.int b))]) (fun N hN => ?_) (fun u ⟨b, e⟩ => ?_)
  · refine if_m True True (fun N2 h1 h0 => ?_) (fun _ => ?_) (fun _ => ?_)
    · walk_at "tf"
    · walk_at "ga"
      exact hN [(4, _)] _ (by walk_at "eq") (by walk_at "hs") ⟨_, rfl⟩
    · walk_at "ga"
      exact hN [(4, _)] _ (by walk_at "eq") (by walk_at "hs") ⟨_, rfl⟩
  subst e
  walk_at "ga"
  refine lcD_inv (fun i acc => ∃ lit : List Str, acc = lit.map .str ∧ lit.Sublist (ls.take i)) ⟨[], rfl, List.nil_sublist _⟩ (fun i d acc N1 N0 hd _ ⟨lit, e1, e2⟩ k1 k0 => ?_) fun acc ⟨lit, e1, e2⟩ => ?_
  · subst e1
    obtain ⟨hi, rfl⟩ := rngD_at hd
    rw [List.length_map, Int.toNat_natCast] at hi
    obtain ⟨y, hy⟩ : ∃ y, ls[i]? = some y := ⟨ls[i], List.getElem?_eq_getElem hi⟩
    have tk : ls.take (i + 1) = ls.take i ++ [y] := by rw [List.take_add_one, hy]; rfl
    walk_at "ga"
    obtain ⟨pv, hpv, _⟩ := atL (l := [(1 : Int), 2, 4]) (i := 0 + (i : Int)) (by omega) (show 0 + (i : Int) < ((3 : Nat) : Int) by omega)
    have pb : 1 ≤ pv ∧ pv ≤ 4 := by
      have := atI_mem hpv
      simp only [List.mem_cons, List.not_mem_nil, or_false] at this
      omega
    refine g_ixL (atI_map Dt.int hpv) ?_
    walk_at "ga"
    refine ite_d (fun c => ?_) (fun c => ?_)
    · walk_at "ga"
      obtain ⟨z, hz, hz2⟩ := atL (l := ls) (i := 0 + (i : Int)) (by omega) (by omega)
      have ez : z = y := by
        rw [show (0 + (i : Int)).toNat = i by omega, hy] at hz2
        exact (Option.some.inj hz2).symm
      subst ez
      refine g_ixL (atI_map Dt.str hz) ?_
      refine k1 _ ⟨lit ++ [z], by rw [List.map_append]; rfl, ?_⟩
      rw [tk]
      exact e2.append (List.Sublist.refl _)
    · refine k0 ⟨lit, rfl, ?_⟩
      rw [tk]
      exact e2.trans (List.sublist_append_left _ _)
  · rw [rngD_len, List.length_map, Int.toNat_natCast, List.take_length] at e2
    subst e1
    walk_at "ga"
    exact q _ lit (Int.emod_nonneg _ (by omega)) (Int.emod_lt_of_pos _ (by omega)) e2
theorem ord_at {o : Int} (h0 : 0 ≤ o) (h3 : o < 3) (l : List Str) : atI [dS l, .lst (l.map Dt.str).reverse, .lst (l.map Dt.str ++ cutG (l.map Dt.str) none (some 1))] o = some (dS (ordL o l)) := by
  have e1 : (some (1 : Int)) = some ((1 : Nat) : Int) := rfl
  rw [cutG_map, e1, cutG_take]
  unfold ordL
  have : o = 0 ∨ o = 1 ∨ o = 2 := by omega
  rcases this with rfl | rfl | rfl
  · rfl
  · show some (Dt.lst (l.map Dt.str).reverse) = some (dS l.reverse)
    rw [← List.map_reverse]
  · show some (Dt.lst (l.map Dt.str ++ (l.take 1).map Dt.str)) = some (dS (l ++ l.take 1))
    rw [← List.map_append]
theorem keys_fresh {bs : List Str} {j : Nat} {y : Str} {t : Tbl} (nd : bs.Nodup) (hy : bs[j]? = some y) (h : (t.map (·.1)).Sublist (bs.take j)) : (Sum.inr y : Key) ∉ t.map fun p => (.inr p.1 : Key) := fun hm => by
  obtain ⟨p, hp, e⟩ := List.mem_map.mp hm
  have e2 : p.1 = y := Sum.inr.inj e
  have hk := h.subset (List.mem_map.mpr ⟨p, hp, rfl⟩)
  rw [e2] at hk
  obtain ⟨k, hk, ek⟩ := List.mem_iff_getElem.mp hk
  rw [List.length_take] at hk
  rw [List.getElem_take] at ek
  have := (List.getElem_inj nd).mp (ek.trans (List.getElem?_eq_some_iff.mp hy).2.symm)
  omega
def F_world : FnW := fun os Φ _ => ∃ cell : Int, os = [.fz (.int cell)] ∧ ∀ (d : Dv) (o : Int), DwP d → 0 ≤ o → o < 3 → Φ (.fz (worldD d o)) os
theorem f__law_world_len {os : List Ot} {Φ : Ot → List Ot → Prop} {Ψ : XW} (h : F_world os Φ Ψ) : os.length = 1 := by
  obtain ⟨_, e, _⟩ := h
  rw [e]; rfl
theorem ok_world (T : Txt K mg) : Kv SL P w K mg base 2 0 "_law_world" P__law_world F_world := by
  have G__law_draws := ok_draws (P := P) (w := w) (base := base) T
  have G__law_names := ok_names (P := P) (w := w) (base := base) T
  have G__law_step := ok_step (P := P) (w := w) (base := base) T
  refine kv_of0 (fun i => ([] : List Nat).contains i) T.d__law_world sc__law_world (fun _ _ _ _ _ _ us hl => match us, hl with | [_], _ => rfl) ?hl fun f cdv A outer s H E hr => ?_
  case hl => intro os Φ Ψ h; exact f__law_world_len h
  have st0 : ∀ o0 : Ot, stO0 N__law_world [o0] = [o0, .no, .no, .no, .no, .no, .no, .no, .no, .no, .no, .no, .no, .no, .no, .no, .no] := fun _ => rfl
  have hu := hu_of hr
  refine ⟨_, _, pss_cons (ps_set (i := 1) sc__law_world.nd rfl (Or.inl rfl) (k_kv G__law_draws hr (by omega) (pa_cons (pv 0) (pa_cons pe_int pa_nil))))
  (pss_cons (ps_set (i := 2) sc__law_world.nd rfl (Or.inl rfl) (pe_op op_add pe_int (pe_op op_mod (pe_callTy call_int1 (by rfl) T.f_int (by decide +kernel) (pa_cons (pe_ix (kx_list K) (pv 1) pe_int (fun _ _ => rfl)) pa_nil)) pe_int)))
  (pss_cons (ps_set (i := 3) sc__law_world.nd rfl (Or.inl rfl) (k_kv G__law_names hr (by omega) (pa_cons (pe_slice (ks_list K) (pv 1) (po_some pe_int) (po_some (pe_op op_add pe_int (pe_op op_mod (pe_callTy call_int1 (by rfl) T.f_int (by decide +kernel) (pa_cons (pe_ix (kx_list K) (pv 1) pe_int (fun _ _ => rfl)) pa_nil)) pe_int)))) (pa_cons (pe_ix (kx_list K) (pv 1) pe_int (fun _ _ => rfl)) pa_nil))))
  (pss_cons (ps_set (i := 4) sc__law_world.nd rfl (Or.inl rfl) (k_kv G__law_names hr (by omega) (pa_cons (pe_slice (ks_list K) (pv 1) (po_some pe_int) (po_some (pe_op op_add pe_int (pe_op op_mod (pe_callTy call_int1 (by rfl) T.f_int (by decide +kernel) (pa_cons (pe_ix (kx_list K) (pv 1) pe_int (fun _ _ => rfl)) pa_nil)) pe_int)))) (pa_cons (pe_ix (kx_list K) (pv 1) pe_int (fun _ _ => rfl)) pa_nil))))
  (pss_cons (ps_set (i := 5) sc__law_world.nd rfl (Or.inl rfl) (pe_op op_mod (pe_callTy call_int1 (by rfl) T.f_int (by decide +kernel) (pa_cons (pe_ix (kx_list K) (pv 1) pe_int (fun _ _ => rfl)) pa_nil)) pe_int))
  (pss_cons (ps_set (i := 6) sc__law_world.nd rfl (Or.inl rfl) (pe_op op_mod (pe_callTy call_int1 (by rfl) T.f_int (by decide +kernel) (pa_cons (pe_op op_fdiv (pe_ix (kx_list K) (pv 1) pe_int (fun _ _ => rfl)) pe_int) pa_nil)) pe_int))
  (pss_cons (ps_set (i := 7) sc__law_world.nd rfl (Or.inl rfl) (pe_op op_mod (pe_callTy call_int1 (by rfl) T.f_int (by decide +kernel) (pa_cons (pe_op op_fdiv (pe_ix (kx_list K) (pv 1) pe_int (fun _ _ => rfl)) pe_int) pa_nil)) pe_int))
  (pss_cons (ps_set (i := 8) sc__law_world.nd rfl (Or.inl rfl) (pe_lst pa_nil))
  (pss_cons (ps_set (i := 9) sc__law_world.nd rfl (Or.inl rfl) (pe_lst pa_nil))
  (pss_cons (ps_for PassesOwn.never rfl (pi_range1 (by rfl) T.f_range (pa_cons (pv 2) pa_nil)) (pg_name (i := 10) sc__law_world.nd rfl (Or.inl rfl))
  (pss_cons (ps_set (i := 11) sc__law_world.nd rfl (Or.inl rfl) pe_dnewK)
  (pss_cons (ps_set (i := 12) sc__law_world.nd rfl (Or.inl rfl) pe_dnewK)
  (pss_cons (ps_for PassesOwn.never rfl (pi_range1 (by rfl) T.f_range (pa_cons (pe_callB (k_len K) (by rfl) T.f_len (by decide +kernel) (pa_cons (pv 3) pa_nil)) pa_nil)) (pg_name (i := 13) sc__law_world.nd rfl (Or.inl rfl))
  (pss_cons (ps_set (i := 14) sc__law_world.nd rfl (Or.inl rfl) (pe_ix (kx_list K) (pv 1) (pe_op op_add (pe_op op_add pe_int (pe_op op_mul pe_int (pv 10))) (pv 13)) (fun _ _ => rfl)))
  (pss_one (ps_if (pt_cmpR op_ge (pe_op op_mod (pe_callTy call_int1 (by rfl) T.f_int (by decide +kernel) (pa_cons (pv 14) pa_nil)) pe_int) (pv 5) (nomark _)) (pss_cons (ps_asg (k_kv G__law_step hr (by omega) (pa_cons (pv 14) (pa_cons (pv 2) (pa_cons (pv 4) (pa_cons (pv 6) pa_nil))))) (kg_tup K (n := 2) rfl (pgs_cons (pg_name (i := 15) sc__law_world.nd rfl (Or.inl rfl)) (pgs_cons (pg_name (i := 16) sc__law_world.nd rfl (Or.inl rfl)) pgs_nil))))
  (pss_cons (ps_dput hu (pv 11) (pe_ix (kx_list K) (pv 3) (pv 13) (fun _ _ => rfl)) (pe_tup (pa_cons (pv 15) (pa_cons (pv 16) pa_nil))) rfl)
  (pss_one (ps_dput hu (pv 12) (pe_ix (kx_list K) (pv 3) (pv 13) (fun _ _ => rfl)) (pe_tup (pa_cons (pv 15) (pa_cons (pe_ix (kx_list K) (pe_lst (pa_cons (pe_callTy (k_list K) (by rfl) T.f_list (by decide +kernel) (pa_cons (pv 16) pa_nil)) (pa_cons (k_revL K (pv 16)) (pa_cons (pe_op op_cat (pv 16) (pe_slice (ks_list K) (pv 16) po_none (po_some pe_int))) pa_nil)))) (pv 7) (fun _ _ => rfl)) pa_nil))) rfl)))) (pss_nil)))))
  (pss_cons (ps_expr (k_bm K PySem.F.plainAttrs_list PySem.F.slot_list_append PySem.F.type_list_append mt_append (pv 8) (pa_cons (pv 11) pa_nil)))
  (pss_one (ps_expr (k_bm K PySem.F.plainAttrs_list PySem.F.slot_list_append PySem.F.type_list_append mt_append (pv 9) (pa_cons (pv 12) pa_nil)))))))))
  (pss_one (ps_ret (pe_dispN [Str.ofString "buttons", Str.ofString "lamps", Str.ofString "rows", Str.ofString "given"] [(Str.ofString "buttons", _), (Str.ofString "lamps", _), (Str.ofString "rows", _), (Str.ofString "given", _)] rfl (pps_cons pe_str (pv 3) (pps_cons pe_str (pv 4) (pps_cons pe_str (pv 8) (pps_cons pe_str (pv 9) pps_nil)))) (by decide) (by decide) (by decide))))))))))))), VS.fit (s_seq (s_asgD (d_x (v_callQ (a_cons (v_d (d_var (i := 0))) (a_cons (v_d (d_int)) (a_nil))))))
  (s_seq (s_asgD (d_op lf_II (d_int) (d_op lf_mod (d_cb lc_int (l_cons (d_op lf_ixL (d_var (i := 1)) (d_int)) (l_nil))) (d_int))))
  (s_seq (s_asgD (d_x (v_callQ (a_cons (v_d (d_sl ls_list (d_var (i := 1)) (o_some (d_int)) (o_some (d_op lf_II (d_int) (d_op lf_mod (d_cb lc_int (l_cons (d_op lf_ixL (d_var (i := 1)) (d_int)) (l_nil))) (d_int)))))) (a_cons (v_d (d_op lf_ixL (d_var (i := 1)) (d_int))) (a_nil))))))
  (s_seq (s_asgD (d_x (v_callQ (a_cons (v_d (d_sl ls_list (d_var (i := 1)) (o_some (d_int)) (o_some (d_op lf_II (d_int) (d_op lf_mod (d_cb lc_int (l_cons (d_op lf_ixL (d_var (i := 1)) (d_int)) (l_nil))) (d_int)))))) (a_cons (v_d (d_op lf_ixL (d_var (i := 1)) (d_int))) (a_nil))))))
  (s_seq (s_asgD (d_op lf_mod (d_cb lc_int (l_cons (d_op lf_ixL (d_var (i := 1)) (d_int)) (l_nil))) (d_int)))
  (s_seq (s_asgD (d_op lf_mod (d_cb lc_int (l_cons (d_op lf_div (d_op lf_ixL (d_var (i := 1)) (d_int)) (d_int)) (l_nil))) (d_int)))
  (s_seq (s_asgD (d_op lf_mod (d_cb lc_int (l_cons (d_op lf_div (d_op lf_ixL (d_var (i := 1)) (d_int)) (d_int)) (l_nil))) (d_int)))
  (s_seq (s_asg (v_lst (a_nil)))
  (s_seq (s_asg (v_lst (a_nil)))
  (s_seq (s_for (tg := .nm 10) (i_rg1 (l_cons (d_var (i := 2)) (l_nil)))
  (s_seq (s_asg (v_dn))
  (s_seq (s_asg (v_dn))
  (s_seq (s_for (tg := .nm 13) (i_rg1 (l_cons (d_cb lc_len (l_cons (d_var (i := 3)) (l_nil))) (l_nil)))
  (s_seq (s_asgD (d_op lf_ixL (d_var (i := 1)) (d_op lf_II (d_op lf_II (d_int) (d_op lf_mul (d_int) (d_var (i := 10)))) (d_var (i := 13)))))
  (s_if (t_test (d_op lf_IB (d_op lf_mod (d_cb lc_int (l_cons (d_var (i := 14)) (l_nil))) (d_int)) (d_var (i := 5)))) (s_seq (s_asgT (.tp [.nm 15, .nm 16]) (d_x (v_callQ (a_cons (v_d (d_var (i := 14))) (a_cons (v_d (d_var (i := 2))) (a_cons (v_d (d_var (i := 4))) (a_cons (v_d (d_var (i := 6))) (a_nil))))))))
  (s_seq (s_setD (i := 11) (v_d (d_tup (l_cons (d_var (i := 15)) (l_cons (d_var (i := 16)) (l_nil))))) (d_op lf_ixL (d_var (i := 3)) (d_var (i := 13))))
  (s_setD (i := 12) (v_d (d_tup (l_cons (d_var (i := 15)) (l_cons (d_op lf_ixL (d_lst (l_cons (d_cb lc_list (l_cons (d_var (i := 16)) (l_nil))) (l_cons (d_revL (d_var (i := 16))) (l_cons (d_op lf_cat (d_var (i := 16)) (d_sl ls_list (d_var (i := 16)) o_none (o_some (d_int)))) (l_nil))))) (d_var (i := 7))) (l_nil))))) (d_op lf_ixL (d_var (i := 3)) (d_var (i := 13)))))) (s_next))))
  (s_seq (s_drop (v_append (i := 8) (v_d (d_f (v_var (i := 11))))))
  (s_drop (v_append (i := 9) (v_d (d_f (v_var (i := 12)))))))))))
  (s_retD (d_f (v_dispK (ks := [Str.ofString "buttons", Str.ofString "lamps", Str.ofString "rows", Str.ofString "given"]) (a_cons (v_d (d_var (i := 3))) (a_cons (v_d (d_var (i := 4))) (a_cons (v_d (d_f (v_var (i := 8)))) (a_cons (v_d (d_f (v_var (i := 9)))) (a_nil)))))))))))))))))) ?hc rfl, fun os Φ Ψ hF => ?_⟩
  case hc => first | exact Nat.le_of_ble_eq_true rfl | (unfold FORN; omega)
  obtain ⟨cell, rfl, q⟩ := hF
  refine ⟨rfl, ?_⟩
  rw [st0]
  walk_at "ga"
  refine ⟨cell, 33, rfl, by omega, fun xs hx hb => ?_⟩
  walk_at "ga"
  refine g_xs hx hb (by omega) (by omega) fun v0 a0 b0 => ?_
  walk_at "ga"
  refine g_xs hx hb (by omega) (by omega) fun v1 a1 b1 => ?_
  walk_at "ga"
  refine g_xs hx hb (by omega) (by omega) fun v4 a4 b4 => ?_
  rw [cutG_map]
  walk_at "ga"
  have cl1 := cut_len2 (l := xs) (a := 6) (b := 7 + v1 % 4) (by omega) (by omega) (by omega)
  refine ⟨_, v4, rfl, fun x hx2 => (hb x (cutG_mem hx2)).1, by omega, fun bs hbs bnd bnm => ?_⟩
  walk_at "ga"
  refine g_xs hx hb (by omega) (by omega) fun v2 a2 b2 => ?_
  walk_at "ga"
  refine g_xs hx hb (by omega) (by omega) fun v5 a5 b5 => ?_
  rw [cutG_map]
  walk_at "ga"
  have cl2 := cut_len2 (l := xs) (a := 10) (b := 10 + v2 % 4) (by omega) (by omega) (by omega)
  refine ⟨_, v5, rfl, fun x hx2 => (hb x (cutG_mem hx2)).1, by omega, fun ls hls lnd lnm => ?_⟩
  walk_at "ga"
  refine g_xs hx hb (by omega) (by omega) fun v3 a3 b3 => ?_
  walk_at "ga"
  refine g_xs hx hb (by omega) (by omega) fun v3' a3' b3' => ?_
  walk_at "ga"
  refine g_xs hx hb (by omega) (by omega) fun v3'' a3'' b3'' => ?_
  walk_at "ga"
  obtain ⟨many, hmany, m1, m5⟩ : ∃ many : Nat, 1 + v0 % 5 = (many : Int) ∧ 1 ≤ many ∧ many ≤ 5 := ⟨(1 + v0 % 5).toNat, by omega, by omega, by omega⟩
  rw [hmany]
  generalize v3 % 4 = harm
  generalize v3' / 4 % 3 = dim
  obtain ⟨o, ho⟩ : ∃ o, v3'' / 12 % 3 = o := ⟨_, rfl⟩
  rw [ho]
  have o0 : 0 ≤ o := by omega
  have o3 : o < 3 := by omega
  rw [cl1] at hbs
  rw [cl2] at hls
  have bl4 : 1 ≤ bs.length ∧ bs.length ≤ 4 := by omega
  have ll3 : ls.length ≤ 3 := by omega
  clear hmany ho cl1 cl2 hbs hls
  refine for_r [8, 9, 10, 11, 12, 13, 14, 15, 16] (fun i u => ∃ ts : List Tbl, ts.length = i ∧ (∀ t ∈ ts, lawT bs ls many t) ∧ u = [(8, .lst ((ts.map tblD).map .fz)), (9, .lst (((ts.map (hanT o)).map tblD).map .fz))]) rfl ?_ (by walk_at "hu") ?_ ?_
  · exact ⟨[(8, _), (9, _)], by walk_at "hs", [], rfl, fun _ h => (nomatch h), rfl⟩
  · intro i u hi ⟨ts, tl, tt, e⟩
    subst e
    walk_at "ga"
    intro N hN
    walk_at "ga"
    refine for_r [11, 12, 13, 14, 15, 16] (fun j u => ∃ t : Tbl, lawT (bs.take j) ls many t ∧ u = [(11, ownK t), (12, ownK (hanT o t))]) rfl ?_ (by walk_at "hu") ?_ ?_
    · exact ⟨[(11, _), (12, _)], by walk_at "hs", [], ⟨List.nil_sublist _, fun _ h => (nomatch h)⟩, rfl⟩
    · intro j u2 hj ⟨t, tw, e⟩
      subst e
      rw [List.length_map, Int.toNat_natCast] at hj
      walk_at "ga"
      intro N2 hN2
      walk_at "ga"
      refine g_xs hx hb (by omega) (by omega) fun x x0 x1 => ?_
      walk_at "ga"
      obtain ⟨y, hyI, hy⟩ := atL (l := bs) (i := 0 + (j : Int)) (by omega) (by omega)
      rw [show (0 + (j : Int)).toNat = j by omega] at hy
      have tk : bs.take (j + 1) = bs.take j ++ [y] := by rw [List.take_add_one, hy]; rfl
      have tl4 : t.length ≤ 4 := by
        have := tw.1.length_le
        rw [List.length_map, List.length_take] at this
        omega
      refine ite_d (fun c => ?_) (fun c => ?_)
      · walk_at "ga"
        refine ⟨x, many, ls, dim, rfl, x0, ⟨m1, by omega⟩, ll3, fun after lit h1 h2 h3 => ?_⟩
        have litl := h3.length_le
        walk_at "ga"
        refine g_ixL (atI_map Dt.str hyI) ?_
        refine e_setDS rfl (keys_fresh bnd hy tw.1) (by rw [List.length_map]; omega) ?_
        walk_at "ga"
        refine g_cat (by have := cutG_len (lit.map Dt.str) none (some 1); simp only [List.length_map] at this ⊢; omega) ?_
        walk_at "ga"
        refine g_ixL (ord_at o0 o3 lit) ?_
        walk_at "ga"
        refine g_ixL (atI_map Dt.str hyI) ?_
        refine e_setDS rfl (by
          have := keys_fresh (t := hanT o t) bnd hy (by rw [List.map_map]; exact tw.1)
          exact this) (by rw [List.length_map, List.length_map]; omega) ?_
        walk_at "ga"
        refine hN2 [(11, _), (12, _)] _ (by walk_at "eq") (by walk_at "hs") ⟨t ++ [(y, (after, lit))], ⟨?_, fun p hp => ?_⟩, ?_⟩
        · rw [tk, List.map_append]
          exact tw.1.append (List.Sublist.refl _)
        · rcases List.mem_append.mp hp with m | m
          · exact tw.2 p m
          · rw [List.mem_singleton.mp m]
            exact ⟨⟨h1, h2⟩, h3⟩
        · simp only [ownK, hanT, List.map_append, List.map_map, List.map_cons, List.map_nil]
      · walk_at "ga"
        refine hN2 [(11, _), (12, _)] _ (by walk_at "eq") (by walk_at "hs") ⟨t, ⟨?_, tw.2⟩, rfl⟩
        rw [tk]
        exact tw.1.trans (List.sublist_append_left _ _)
    · intro u2 ⟨t, tw, e⟩
      subst e
      rw [List.length_map, Int.toNat_natCast, List.take_length] at tw
      walk_at "ga"
      refine hN [(8, _), (9, _)] _ (by walk_at "eq") (by walk_at "hs") ⟨ts ++ [t], by rw [List.length_append, tl]; rfl, fun t2 ht2 => ?_, by simp only [List.map_append]; rfl⟩
      rcases List.mem_append.mp ht2 with m | m
      · exact tt t2 m
      · rw [List.mem_singleton.mp m]
        exact tw
  · intro u ⟨ts, tl, tt, e⟩
    subst e
    walk_at "ga"
    exact q ⟨bs, ls, ts⟩ o ⟨⟨bnd, bnm⟩, bl4, ⟨lnd, lnm⟩, ll3, by show 1 ≤ ts.length ∧ ts.length ≤ 5; omega, fun t ht => by show lawT bs ls ts.length t; rw [show ts.length = many by omega]; exact tt t ht⟩ o0 o3
end
abbrev cC (K : PySem.W.Frag) : Addr := He.ga K "Case"
/-- the steps in the order of the buttons, the lamps in their order -/
def normT (bs ls : List Str) (t : Tbl) : Tbl := bs.filterMap fun b => (t.lookup b).map fun s => (b, (s.1, litOf ls s))
abbrev entD (p : Str × Stp) : Dt := .tup [.str p.1, .int p.2.1, .lst (p.2.2.map .str)]
theorem shown_norm (ls : List Str) (t : Tbl) : ∀ bs : List Str, shownD bs ls t = .lst ((normT bs ls t).map entD)
  | [] => rfl
  | b :: bs => by
    have ih := shown_norm ls t bs
    unfold shownD normT at ih ⊢
    rw [List.filter_cons, List.filterMap_cons]
    cases h : t.lookup b with
    | none => exact ih
    | some s =>
      show Dt.lst (trip ls t b :: _) = Dt.lst (entD (b, (s.1, litOf ls s)) :: _)
      have e : trip ls t b = entD (b, (s.1, litOf ls s)) := by unfold trip; rw [h]
      rw [e]
      injection ih with ih
      rw [ih]
theorem norm_keys (ls : List Str) (t : Tbl) : ∀ bs : List Str, ((normT bs ls t).map (·.1)).Sublist bs
  | [] => List.Sublist.refl _
  | b :: bs => by
    have ih := norm_keys ls t bs
    unfold normT at ih ⊢
    rw [List.filterMap_cons]
    cases h : t.lookup b with
    | none => exact ih.cons b
    | some s => exact ih.cons₂ b
theorem norm_lit {ls : List Str} {t : Tbl} {bs : List Str} : ∀ p ∈ normT bs ls t, p.2.2.length ≤ ls.length := fun p hp => by
  obtain ⟨b, _, h⟩ := List.mem_filterMap.mp hp
  cases h2 : t.lookup b with
  | none => rw [h2] at h; cases h
  | some s => rw [h2] at h; cases h; exact List.length_filter_le _ _
/-- what of the lamps is watched -/
def watT (wl : List Str) (t : Tbl) : Tbl := t.map fun p => (p.1, (p.2.1, p.2.2.filter fun l => decide (l ∈ wl)))
abbrev valD (s : Stp) : Dt := .tup [.int s.1, .tup (s.2.map .str)]
abbrev tabD (t : Tbl) : Dt := .dic (t.map fun p => ((.inr p.1 : Key), valD p.2))
abbrev tabO (t : Tbl) : Ot := .dic (t.map fun p => (.inr p.1 : Key)) (t.map fun p => .fz (valD p.2))
theorem tab_own (t : Tbl) : toD (tabO t) = some (tabD t) := by
  show (toDs (t.map fun p => Ot.fz (valD p.2))).map (fun ds => Dt.dic ((t.map fun p => (.inr p.1 : Key)).zip ds)) = _
  have e : (t.map fun p => Ot.fz (valD p.2)) = (t.map fun p => valD p.2).map .fz := by rw [List.map_map]; rfl
  rw [e, toDs_fz]
  show some (Dt.dic ((t.map fun p => (.inr p.1 : Key)).zip (t.map fun p => valD p.2))) = _
  rw [List.zip_map']
theorem tabs_own : ∀ ts : List Tbl, toDs (ts.map tabO) = some (ts.map tabD)
  | [] => rfl
  | t :: ts => by
    show (match toD (tabO t), toDs (ts.map tabO) with | some d, some ds => some (d :: ds) | _, _ => none) = _
    rw [tab_own, tabs_own ts]
    rfl
theorem scPA_strs : ∀ l : List Str, scPA (l.map .str) = true
  | [] => rfl
  | _ :: l => by rw [List.map_cons]; unfold scPA; rw [scPA_strs l]; rfl
theorem val_sc (s : Stp) : scP (valD s) = true := by
  unfold scP scPA scP scPA
  unfold scP
  rw [scPA_strs]
  rfl
theorem sxA_fz {ρ : List Ot} : ∀ ds : List Dt, (∀ d ∈ ds, scP d = true) → sxA ρ (ds.map .fz)
  | [], _ => by unfold sxA; trivial
  | d :: ds, h => by
    rw [List.map_cons]
    unfold sxA Ot.sx
    exact ⟨h d List.mem_cons_self, sxA_fz ds fun x hx => h x (List.mem_cons_of_mem _ hx)⟩
theorem sx_strs {ρ : List Ot} (l : List Str) : Ot.sx ρ (.lst ((l.map .str).map .fz)) := by
  unfold Ot.sx
  exact sxA_fz _ fun d hd => by
    obtain ⟨x, _, rfl⟩ := List.mem_map.mp hd
    rfl
theorem sx_ints {ρ : List Ot} (l : List Int) : Ot.sx ρ (.lst ((l.map .int).map .fz)) := by
  unfold Ot.sx
  exact sxA_fz _ fun d hd => by
    obtain ⟨x, _, rfl⟩ := List.mem_map.mp hd
    rfl
theorem sx_tab {ρ : List Ot} (t : Tbl) : Ot.sx ρ (tabO t) := by
  unfold Ot.sx
  have e : (t.map fun p => Ot.fz (valD p.2)) = (t.map fun p => valD p.2).map .fz := by rw [List.map_map]; rfl
  rw [e]
  exact sxA_fz _ fun d hd => by
    obtain ⟨x, _, rfl⟩ := List.mem_map.mp hd
    exact val_sc _
theorem sxA_tabs {ρ : List Ot} : ∀ ts : List Tbl, sxA ρ (ts.map tabO)
  | [] => by unfold sxA; trivial
  | t :: ts => by
    rw [List.map_cons]
    unfold sxA
    exact ⟨sx_tab t, sxA_tabs ts⟩
theorem sx_tabs {ρ : List Ot} (ts : List Tbl) : Ot.sx ρ (.lst (ts.map tabO)) := by
  unfold Ot.sx
  exact sxA_tabs ts
/-- None, or a list of names -/
def optD : Option (List Str) → Dt
  | none => .non
  | some xs => .lst (xs.map .str)
def chosen (known : List Str) : Option (List Str) → Except Str (List Str)
  | none => .ok known
  | some xs => match xs.find? (fun y => !decide (y ∈ known)) with
    | some y => .error y
    | none => .ok (known.filter fun l => decide (l ∈ xs))
theorem find_first {known xs a b : List Str} {y : Str} (sp : xs = a ++ y :: b) (ha : ∀ z ∈ a, z ∈ known) (c : y ∉ known) : xs.find? (fun y => !decide (y ∈ known)) = some y := by
  have h : a.find? (fun y => !decide (y ∈ known)) = none := List.find?_eq_none.mpr fun z hz => by simp [ha z hz]
  rw [sp, List.find?_append, h, List.find?_cons]
  simp [c]
theorem find_none {known xs : List Str} (ha : ∀ z ∈ xs, z ∈ known) : xs.find? (fun y => !decide (y ∈ known)) = none := List.find?_eq_none.mpr fun z hz => by simp [ha z hz]
theorem chosen_bad {known xs a b : List Str} {y : Str} (sp : xs = a ++ y :: b) (ha : ∀ z ∈ a, z ∈ known) (c : y ∉ known) : chosen known (some xs) = .error y := by
  unfold chosen
  simp only [find_first sp ha c]
theorem chosen_ok {known xs : List Str} (ha : ∀ z ∈ xs, z ∈ known) : chosen known (some xs) = .ok (known.filter fun l => decide (l ∈ xs)) := by
  unfold chosen
  simp only [find_none ha]
section
variable {P : Program} {w : World} {K : PySem.W.Frag} {mg : Str → Option Value} {base : Heap}
def F_chosen (K : PySem.W.Frag) (g : Dv → List Str) (X : Str) : FnW := fun os Φ Ψ => ∃ (d : Dv) (ts' : List Tbl) (x : Option (List Str)), os = [.fz (devD (cD K) d ts'), .fz (optD x)] ∧ (g d).length ≤ 1000 ∧
  match chosen (g d) x with
  | .ok r => Φ (.lst ((r.map .str).map .fz)) os
  | .error y => Ψ (He.ga K X) (.str y) os
theorem f_chosen_lamps_len {g : Dv → List Str} {X : Str} {os : List Ot} {Φ : Ot → List Ot → Prop} {Ψ : XW} (h : F_chosen K g X os Φ Ψ) : os.length = 2 := by
  obtain ⟨_, _, _, e, _⟩ := h
  rw [e]; rfl
theorem f_chosen_buttons_len {g : Dv → List Str} {X : Str} {os : List Ot} {Φ : Ot → List Ot → Prop} {Ψ : XW} (h : F_chosen K g X os Φ Ψ) : os.length = 2 := by
  obtain ⟨_, _, _, e, _⟩ := h
  rw [e]; rfl
theorem ok_chosenL (T : Txt K mg) : Kv SL P w K mg base 3 0 "chosen_lamps" P_chosen_lamps (F_chosen K Dv.ls "UnknownLamp") := by
  have G_Device_lamps := ok_lamps (P := P) (w := w) (base := base) T
  refine kv_of (fun i => ([] : List Nat).contains i) T.d_chosen_lamps sc_chosen_lamps (fun _ _ _ _ _ _ us hl => match us, hl with | [_, _], _ => rfl) ?hl fun f cdv A outer s H E hr => ?_
  case hl => intro os Φ Ψ h; exact f_chosen_lamps_len h
  have st0 : ∀ o0 o1 : Ot, stO0 N_chosen_lamps [o0, o1] = [o0, o1, .no, .no] := fun _ _ => rfl
  have hu := hu_of hr
  refine ⟨_, _, pss_cons (ps_set (i := 2) sc_chosen_lamps.nd rfl (Or.inl rfl) (k_prop G_Device_lamps hr (by omega) (pv 0) T.cl_Device))
  (pss_cons (ps_if (pt_cmpR op_isN (pv 1) pe_non (nomark _)) (pss_one (ps_ret (pv 2))) (pss_nil))
  (pss_cons (ps_for (passes_of rfl) rfl (ki_list K (pv 1)) (pg_name (i := 3) sc_chosen_lamps.nd rfl (Or.inl rfl))
  (pss_one (ps_if (pt_cmpR (k_notIn K) (pv 3) (pv 2) rfl) (pss_one (ps_raiseLow rfl T.x_UnknownLamp hr (takes_of rfl rfl rfl rfl) (pa_cons (pv 3) pa_nil))) (pss_nil))))
  (pss_one (ps_ret (pe_lc (own := [("lamp", 3)]) (g := gName 3) (by rfl) sc_chosen_lamps.nd (ki_list K (pv 2)) (blkOk_by (own := [("lamp", 3)]) (N := N_chosen_lamps) (sc := defScope s_chosen_lamps) (by first | decide +kernel | rfl)) (fun _ _ _ _ _ => pg_name (i := 3) sc_chosen_lamps.nd rfl (Or.inl rfl)) (fun _ _ _ _ _ => pts_one (pt_cmpR (k_in K) (pv 3) (pv 1) rfl)) (fun _ _ _ _ _ => pv 3)))))), VS.fit (s_seq (s_asg (v_prop (d_var (i := 0))))
  (s_seq (s_if (t_test (d_op lf_isN (d_var (i := 1)) (d_non))) (s_ret (v_var (i := 2))) (s_next))
  (s_seq (s_for (tg := .nm 3) (i_list (d_var (i := 1)))
  (s_if (t_test (d_opO (i := 2) lo_inS (d_var (i := 3)))) (s_raise (d_var (i := 3))) (s_next)))
  (s_ret (v_lc (tg := .nm 3) (i_list (d_f (v_var (i := 2)))) (t_test (d_op lf_inS (d_var (i := 3)) (d_var (i := 1)))) (v_d (d_var (i := 3)))))))) ?hc rfl, fun os Φ Ψ hF => ?_⟩
  case hc => first | exact Nat.le_of_ble_eq_true rfl | (unfold FORN; omega)
  obtain ⟨d, ts', x, rfl, hl, q⟩ := hF
  refine ⟨rfl, ?_⟩
  rw [st0]
  walk_at "ga"
  refine ⟨d, ts', rfl, ?_⟩
  walk_at "ga"
  cases x with
  | none =>
    rw [show optD none = .non from rfl] at q ⊢
    refine (if_pos rfl).mpr ?_
    walk_at "ga"
    exact q
  | some xs =>
    rw [show optD (some xs) = .lst (xs.map .str) from rfl] at q ⊢
    refine (if_neg (fun z => by cases z)).mpr ?_
    walk_at "ga"
    refine for_x xs .str [3] (fun a u => (∀ y ∈ a, y ∈ d.ls) ∧ u = []) rfl ?_ (by walk_at "hu") ?_ ?_
    · exact ⟨[], by walk_at "hs", fun _ h => (nomatch h), rfl⟩
    · intro a y b u sp ⟨ha, e⟩
      subst e
      walk_at "ga"
      intro N hN
      walk_at "ga"
      refine g_oinS ?_
      walk_at "ga"
      refine ite_n (fun c => ?_) (fun c => ?_)
      · walk_at "ga"
        rw [chosen_bad sp ha c] at q
        exact q
      · walk_at "ga"
        refine hN [] _ (by walk_at "eq") (by walk_at "hs") ⟨fun z hz => ?_, rfl⟩
        rcases List.mem_append.mp hz with m | m
        · exact ha z m
        · rw [List.mem_singleton.mp m]; exact c
    · intro u ⟨ha, e⟩
      subst e
      rw [chosen_ok ha] at q
      walk_at "ga"
      refine lcD_map d.ls .str (fun l => decide (l ∈ xs)) .str rfl (fun l hl0 N1 N0 h1 h0 => ?_) ?_
      · walk_at "ga"
        refine ite_d (fun c => ?_) (fun c => ?_)
        · walk_at "ga"
          exact h1 (decide_eq_true c)
        · exact h0 (decide_eq_false c)
      walk_at "ga"
      exact q
theorem ok_chosenB (T : Txt K mg) : Kv SL P w K mg base 3 0 "chosen_buttons" P_chosen_buttons (F_chosen K Dv.bs "UnknownButton") := by
  have G_Device_buttons := ok_buttons (P := P) (w := w) (base := base) T
  refine kv_of (fun i => ([] : List Nat).contains i) T.d_chosen_buttons sc_chosen_buttons (fun _ _ _ _ _ _ us hl => match us, hl with | [_, _], _ => rfl) ?hl fun f cdv A outer s H E hr => ?_
  case hl => intro os Φ Ψ h; exact f_chosen_buttons_len h
  have st0 : ∀ o0 o1 : Ot, stO0 N_chosen_buttons [o0, o1] = [o0, o1, .no, .no] := fun _ _ => rfl
  have hu := hu_of hr
  refine ⟨_, _, pss_cons (ps_set (i := 2) sc_chosen_buttons.nd rfl (Or.inl rfl) (k_prop G_Device_buttons hr (by omega) (pv 0) T.cl_Device))
  (pss_cons (ps_if (pt_cmpR op_isN (pv 1) pe_non (nomark _)) (pss_one (ps_ret (pv 2))) (pss_nil))
  (pss_cons (ps_for (passes_of rfl) rfl (ki_list K (pv 1)) (pg_name (i := 3) sc_chosen_buttons.nd rfl (Or.inl rfl))
  (pss_one (ps_if (pt_cmpR (k_notIn K) (pv 3) (pv 2) rfl) (pss_one (ps_raiseLow rfl T.x_UnknownButton hr (takes_of rfl rfl rfl rfl) (pa_cons (pv 3) pa_nil))) (pss_nil))))
  (pss_one (ps_ret (pe_lc (own := [("button", 3)]) (g := gName 3) (by rfl) sc_chosen_buttons.nd (ki_list K (pv 2)) (blkOk_by (own := [("button", 3)]) (N := N_chosen_buttons) (sc := defScope s_chosen_buttons) (by first | decide +kernel | rfl)) (fun _ _ _ _ _ => pg_name (i := 3) sc_chosen_buttons.nd rfl (Or.inl rfl)) (fun _ _ _ _ _ => pts_one (pt_cmpR (k_in K) (pv 3) (pv 1) rfl)) (fun _ _ _ _ _ => pv 3)))))), VS.fit (s_seq (s_asg (v_prop (d_var (i := 0))))
  (s_seq (s_if (t_test (d_op lf_isN (d_var (i := 1)) (d_non))) (s_ret (v_var (i := 2))) (s_next))
  (s_seq (s_for (tg := .nm 3) (i_list (d_var (i := 1)))
  (s_if (t_test (d_opO (i := 2) lo_inS (d_var (i := 3)))) (s_raise (d_var (i := 3))) (s_next)))
  (s_ret (v_lc (tg := .nm 3) (i_list (d_f (v_var (i := 2)))) (t_test (d_op lf_inS (d_var (i := 3)) (d_var (i := 1)))) (v_d (d_var (i := 3)))))))) ?hc rfl, fun os Φ Ψ hF => ?_⟩
  case hc => first | exact Nat.le_of_ble_eq_true rfl | (unfold FORN; omega)
  obtain ⟨d, ts', x, rfl, hl, q⟩ := hF
  refine ⟨rfl, ?_⟩
  rw [st0]
  walk_at "ga"
  refine ⟨d, ts', rfl, ?_⟩
  walk_at "ga"
  cases x with
  | none =>
    rw [show optD none = .non from rfl] at q ⊢
    refine (if_pos rfl).mpr ?_
    walk_at "ga"
    exact q
  | some xs =>
    rw [show optD (some xs) = .lst (xs.map .str) from rfl] at q ⊢
    refine (if_neg (fun z => by cases z)).mpr ?_
    walk_at "ga"
    refine for_x xs .str [3] (fun a u => (∀ y ∈ a, y ∈ d.bs) ∧ u = []) rfl ?_ (by walk_at "hu") ?_ ?_
    · exact ⟨[], by walk_at "hs", fun _ h => (nomatch h), rfl⟩
    · intro a y b u sp ⟨ha, e⟩
      subst e
      walk_at "ga"
      intro N hN
      walk_at "ga"
      refine g_oinS ?_
      walk_at "ga"
      refine ite_n (fun c => ?_) (fun c => ?_)
      · walk_at "ga"
        rw [chosen_bad sp ha c] at q
        exact q
      · walk_at "ga"
        refine hN [] _ (by walk_at "eq") (by walk_at "hs") ⟨fun z hz => ?_, rfl⟩
        rcases List.mem_append.mp hz with m | m
        · exact ha z m
        · rw [List.mem_singleton.mp m]; exact c
    · intro u ⟨ha, e⟩
      subst e
      rw [chosen_ok ha] at q
      walk_at "ga"
      refine lcD_map d.bs .str (fun l => decide (l ∈ xs)) .str rfl (fun l hl0 N1 N0 h1 h0 => ?_) ?_
      · walk_at "ga"
        refine ite_d (fun c => ?_) (fun c => ?_)
        · walk_at "ga"
          exact h1 (decide_eq_true c)
        · exact h0 (decide_eq_false c)
      walk_at "ga"
      exact q
def F_stepsOf (K : PySem.W.Frag) : FnW := fun os Φ _ => ∃ (d : Dv) (ts' : List Tbl) (wl : List Str), os = [.fz (devD (cD K) d ts'), .fz (.lst (wl.map .str))] ∧ d.ok ∧ permT ts' d.ts ∧
  Φ (.lst ((d.ts.map fun t => watT wl (normT d.bs d.ls t)).map tabO)) os
theorem f_steps_of_len {os : List Ot} {Φ : Ot → List Ot → Prop} {Ψ : XW} (h : F_stepsOf K os Φ Ψ) : os.length = 2 := by
  obtain ⟨_, _, _, e, _⟩ := h
  rw [e]; rfl
theorem ok_stepsOf (T : Txt K mg) : Kv SL P w K mg base 4 0 "steps_of" P_steps_of (F_stepsOf K) := by
  have G_Device_states := ok_states (P := P) (w := w) (base := base) T
  refine kv_of0 (fun i => ([] : List Nat).contains i) T.d_steps_of sc_steps_of (fun _ _ _ _ _ _ us hl => match us, hl with | [_, _], _ => rfl) ?hl fun f cdv A outer s H E hr => ?_
  case hl => intro os Φ Ψ h; exact f_steps_of_len h
  have st0 : ∀ o0 o1 : Ot, stO0 N_steps_of [o0, o1] = [o0, o1, .no, .no, .no, .no, .no, .no, .no] := fun _ _ => rfl
  have hu := hu_of hr
  refine ⟨_, _, pss_cons (ps_set (i := 2) sc_steps_of.nd rfl (Or.inl rfl) (pe_lst pa_nil))
  (pss_cons (ps_for PassesOwn.never rfl (ki_list K (k_prop G_Device_states hr (by omega) (pv 0) T.cl_Device)) (pg_name (i := 3) sc_steps_of.nd rfl (Or.inl rfl))
  (pss_cons (ps_set (i := 4) sc_steps_of.nd rfl (Or.inl rfl) pe_dnewK)
  (pss_cons (ps_for PassesOwn.never rfl (ki_list K (pv 3)) (kg_tup K (n := 3) rfl (pgs_cons (pg_name (i := 5) sc_steps_of.nd rfl (Or.inl rfl)) (pgs_cons (pg_name (i := 6) sc_steps_of.nd rfl (Or.inl rfl)) (pgs_cons (pg_name (i := 7) sc_steps_of.nd rfl (Or.inl rfl)) pgs_nil))))
  (pss_one (ps_dput hu (pv 4) (pv 5) (pe_tup (pa_cons (pv 6) (pa_cons (pe_callTy (k_tuple K) (by rfl) T.f_tuple (by decide +kernel) (pa_cons (pe_lc (own := [("lamp", 8)]) (g := gName 8) (by rfl) sc_steps_of.nd (ki_list K (pv 7)) (blkOk_by (own := [("lamp", 8)]) (N := N_steps_of) (sc := defScope s_steps_of) (by first | decide +kernel | rfl)) (fun _ _ _ _ _ => pg_name (i := 8) sc_steps_of.nd rfl (Or.inl rfl)) (fun _ _ _ _ _ => pts_one (pt_cmpR (k_in K) (pv 8) (pv 1) rfl)) (fun _ _ _ _ _ => pv 8)) pa_nil)) pa_nil))) rfl)))
  (pss_one (ps_expr (k_bm K PySem.F.plainAttrs_list PySem.F.slot_list_append PySem.F.type_list_append mt_append (pv 2) (pa_cons (pv 4) pa_nil)))))))
  (pss_one (ps_ret (pv 2)))), VS.fit (s_seq (s_asg (v_lst (a_nil)))
  (s_seq (s_for (tg := .nm 3) (i_list (d_x (v_prop (d_var (i := 0)))))
  (s_seq (s_asg (v_dn))
  (s_seq (s_for (tg := .tp [.nm 5, .nm 6, .nm 7]) (i_list (d_var (i := 3)))
  (s_setD (i := 4) (v_d (d_tup (l_cons (d_var (i := 6)) (l_cons (d_cb lc_tuple (l_cons (d_lc (tg := .nm 8) (i_list (d_var (i := 7))) (t_test (d_op lf_inS (d_var (i := 8)) (d_var (i := 1)))) (d_var (i := 8))) (l_nil))) (l_nil))))) (d_var (i := 5))))
  (s_drop (v_append (i := 2) (v_mv (i := 4)))))))
  (s_ret (v_var (i := 2))))) ?hc rfl, fun os Φ Ψ hF => ?_⟩
  case hc => first | exact Nat.le_of_ble_eq_true rfl | (unfold FORN; omega)
  obtain ⟨d, ts', wl, rfl, ok, hp, q⟩ := hF
  have l2 := ok.2.2.1
  have l3 := ok.1.2.2
  have l4 := ok.2.1.2.2
  refine ⟨rfl, ?_⟩
  rw [st0]
  walk_at "ga"
  refine ⟨d, ts', rfl, ok, hp, ?_⟩
  walk_at "ga"
  refine for_x d.ts (shownD d.bs d.ls) [2, 3, 4, 5, 6, 7, 8] (fun a u => u = [(2, .lst ((a.map fun t => watT wl (normT d.bs d.ls t)).map tabO))]) rfl ?_ (by walk_at "hu") ?_ ?_
  · exact ⟨[(2, _)], by walk_at "hs", rfl⟩
  · intro a t b u sp e
    subst e
    have la : a.length ≤ 100 := by
      have := congrArg List.length sp
      rw [List.length_append, List.length_cons] at this
      omega
    walk_at "ga"
    intro N hN
    rw [shown_norm]
    walk_at "ga"
    have nk := norm_keys d.ls t d.bs
    have nlen : (normT d.bs d.ls t).length ≤ 60 := by
      have := nk.length_le
      rw [List.length_map] at this
      omega
    have nnd := nk.nodup ok.1.1
    have nlit := norm_lit (ls := d.ls) (t := t) (bs := d.bs)
    generalize hnt : normT d.bs d.ls t = nt at nlen nnd nlit
    refine for_x nt entD [4, 5, 6, 7, 8] (fun a2 u => u = [(4, tabO (watT wl a2))]) rfl ?_ (by walk_at "hu") ?_ ?_
    · exact ⟨[(4, _)], by walk_at "hs", rfl⟩
    · intro a2 p b2 u2 sp2 e
      subst e
      have lp := nlit p (by rw [sp2]; simp)
      walk_at "ga"
      intro N2 hN2
      walk_at "ga"
      refine lcD_map p.2.2 .str (fun l => decide (l ∈ wl)) .str rfl (fun l hl0 N1 N0 h1 h0 => ?_) ?_
      · walk_at "ga"
        refine ite_d (fun c => ?_) (fun c => ?_)
        · walk_at "ga"
          exact h1 (decide_eq_true c)
        · exact h0 (decide_eq_false c)
      walk_at "ga"
      refine e_setDS rfl (fun hm => ?_) (by unfold watT; rw [List.length_map, List.length_map]; have := congrArg List.length sp2; rw [List.length_append] at this; omega) ?_
      · obtain ⟨p2, hp2, e⟩ := List.mem_map.mp hm
        have e2 : p2.1 = p.1 := Sum.inr.inj e
        obtain ⟨p3, hp3, rfl⟩ := List.mem_map.mp hp2
        rw [sp2, List.map_append, List.nodup_append] at nnd
        exact nnd.2.2 _ (List.mem_map.mpr ⟨p3, hp3, rfl⟩) _ (by simp) e2
      walk_at "ga"
      refine hN2 [(4, _)] _ (by walk_at "eq") (by walk_at "hs") ?_
      simp only [tabO, watT, List.map_append, List.map_map, List.map_cons, List.map_nil]
    · intro u2 e
      subst e
      walk_at "ga"
      refine hN [(2, _)] _ (by walk_at "eq") (by walk_at "hs") ?_
      simp only [List.map_append, List.map_cons, List.map_nil, hnt]
  · intro u e
    subst e
    walk_at "ga"
    exact q
def F_lenDev (K : PySem.W.Frag) : FnW := fun os Φ _ => ∃ (d : Dv) (ts' : List Tbl), os = [.fz (devD (cD K) d ts')] ∧ Φ (.fz (.int (ts'.length : Int))) os
theorem f_Device___len___len {K : PySem.W.Frag} {os : List Ot} {Φ : Ot → List Ot → Prop} {Ψ : XW} (h : F_lenDev K os Φ Ψ) : os.length = 1 := by
  obtain ⟨_, _, e, _⟩ := h
  rw [e]; rfl
theorem ok_lenDev (T : Txt K mg) : KvR SL P w K mg base 1 0 (fun g => Meth K (cD K) "__len__" g) P_Device___len__ (F_lenDev K) := by
  refine kvr_of0 (fun i => ([] : List Nat).contains i) T.d_Device___len__ sc_Device___len__ (fun _ _ _ _ _ _ us hl => match us, hl with | [_], _ => rfl) ?hl fun f cdv A outer s H E hr => ?_
  case hl => intro os Φ Ψ h; exact f_Device___len___len h
  have st0 : ∀ o0 : Ot, stO0 N_Device___len__ [o0] = [o0] := fun _ => rfl
  have hu := hu_of hr
  refine ⟨_, _, pss_one (ps_ret (pe_callB (k_len K) (by rfl) T.f_len (by decide +kernel) (pa_cons (k_fld (pv 0)) pa_nil))), VS.fit (s_retD (d_cb lc_len (l_cons (d_fld T.cl_Device T.na_Device_steps (d_var (i := 0))) (l_nil)))) ?hc rfl, fun os Φ Ψ hF => ?_⟩
  case hc => first | exact Nat.le_of_ble_eq_true rfl | (unfold FORN; omega)
  obtain ⟨d, ts', rfl, q⟩ := hF
  refine ⟨rfl, ?_⟩
  rw [st0]
  walk_at "gp"
  rw [List.length_map]
  exact ⟨rfl, q⟩
end
def initR (d : Dv) (ss : List Int) (lx bx : Option (List Str)) : Except (Str × Dt) (List Str × List Str) :=
  match ss.find? (fun s : Int => !(decide (0 ≤ s) && decide (s < (d.ts.length : Int)))) with
  | some s => .error ("InvalidState", .int s)
  | none => match chosen d.ls lx with
    | .error y => .error ("UnknownLamp", .str y)
    | .ok wl => match chosen d.bs bx with
      | .error y => .error ("UnknownButton", .str y)
      | .ok ul => .ok (wl, ul)
abbrev caseO (K : PySem.W.Frag) (od : Ot) (ps : List Int) (wl ul : List Str) (tb : List Tbl) : Ot := .ins (cC K) ["whole", "possible", "watched", "usable", "table"] [od, .lst ((ps.map .int).map .fz), .lst ((wl.map .str).map .fz), .lst ((ul.map .str).map .fz), .lst (tb.map tabO)]
abbrev caseD (K : PySem.W.Frag) (dev : Dt) (ps : List Int) (wl ul : List Str) (tb : List Tbl) : Dt := .ins (cC K) [("whole", dev), ("possible", .lst (ps.map .int)), ("watched", .lst (wl.map .str)), ("usable", .lst (ul.map .str)), ("table", .lst (tb.map tabD))]
theorem part_nu {C : Addr} {ks : List Str} {od : Ot} {d : Dt} (h : FzAv od d) (a b c : List Dt) : (Ot.ins C ks [od, .lst (a.map .fz), .lst (b.map .fz), .lst (c.map .fz)]).nu = true := by
  simp only [Ot.nu, nuA, nuA_fz, h.nu, Bool.and_self]
theorem part_td {C : Addr} {k1 k2 k3 k4 : Str} {od : Ot} {d : Dt} (h : FzAv od d) (a b c : List Dt) : toD (Ot.ins C [k1, k2, k3, k4] [od, .lst (a.map .fz), .lst (b.map .fz), .lst (c.map .fz)]) = some (.ins C [(k1, d), (k2, .lst a), (k3, .lst b), (k4, .lst c)]) := by
  simp only [toD, toDs, h.td, toDs_fz, Option.map_some]
  rfl
theorem case_own {K : PySem.W.Frag} {od : Ot} {d : Dt} (h : FzAv od d) (ps : List Int) (wl ul : List Str) (tb : List Tbl) : toD (caseO K od ps wl ul tb) = some (caseD K d ps wl ul tb) := by
  simp only [toD, toDs, h.td, toDs_fz, tabs_own, Option.map_some]
  rfl
theorem case_sx {ρ : List Ot} {K : PySem.W.Frag} {od : Ot} (h : Ot.sx ρ od) (ps : List Int) (wl ul : List Str) (tb : List Tbl) : Ot.sx ρ (caseO K od ps wl ul tb) := by
  unfold Ot.sx sxA
  refine ⟨h, ?_⟩
  unfold sxA
  refine ⟨sx_ints _, ?_⟩
  unfold sxA
  refine ⟨sx_strs _, ?_⟩
  unfold sxA
  refine ⟨sx_strs _, ?_⟩
  unfold sxA
  refine ⟨sx_tabs _, ?_⟩
  unfold sxA
  trivial
abbrev tabsOf (d : Dv) (wl : List Str) : List Tbl := d.ts.map fun t => watT wl (normT d.bs d.ls t)
section
variable {P : Program} {w : World} {K : PySem.W.Frag} {mg : Str → Option Value} {base : Heap}
def F_cinit (K : PySem.W.Frag) : FnW := fun os Φ Ψ => ∃ (d : Dv) (ts' : List Tbl) (od : Ot) (ss : List Int) (lx bx : Option (List Str)), os = [.ins (cC K) [] [], od, .fz (.lst (ss.map .int)), .fz (optD lx), .fz (optD bx)] ∧ FzAv od (devD (cD K) d ts') ∧ d.ok ∧ permT ts' d.ts ∧ ss.length < 64 ∧
  match initR d ss lx bx with
  | .ok r => Φ (.fz .non) [caseO K od (sset ss) r.1 r.2 (tabsOf d r.1), od, .fz (.lst (ss.map .int)), .fz (optD lx), .fz (optD bx)]
  | .error x => ∀ o, Ψ (He.ga K x.1) x.2 [o, od, .fz (.lst (ss.map .int)), .fz (optD lx), .fz (optD bx)]
theorem f_Case___init___len {os : List Ot} {Φ : Ot → List Ot → Prop} {Ψ : XW} (h : F_cinit K os Φ Ψ) : os.length = 5 := by
  obtain ⟨_, _, _, _, _, _, e, _⟩ := h
  rw [e]; rfl
theorem init_bad {d : Dv} {ss a b : List Int} {y : Int} {lx bx : Option (List Str)} (sp : ss = a ++ y :: b) (ha : ∀ z ∈ a, 0 ≤ z ∧ z < d.ts.length) (c : ¬ (0 ≤ y ∧ y < d.ts.length)) : initR d ss lx bx = .error ("InvalidState", .int y) := by
  have h : a.find? (fun s : Int => !(decide (0 ≤ s) && decide (s < (d.ts.length : Int)))) = none := List.find?_eq_none.mpr fun z hz => by simp [ha z hz]
  have e : ss.find? (fun s : Int => !(decide (0 ≤ s) && decide (s < (d.ts.length : Int)))) = some y := by
    rw [sp, List.find?_append, h, List.find?_cons]
    have : (!(decide (0 ≤ y) && decide (y < (d.ts.length : Int)))) = true := by
      rw [Bool.not_eq_true', ← Bool.not_eq_true, Bool.and_eq_true, decide_eq_true_iff, decide_eq_true_iff]
      exact c
    rw [this]
    rfl
  unfold initR
  rw [e]
theorem init_st {d : Dv} {ss : List Int} {lx bx : Option (List Str)} (ha : ∀ z ∈ ss, 0 ≤ z ∧ z < d.ts.length) : initR d ss lx bx = match chosen d.ls lx with
    | .error y => .error ("UnknownLamp", .str y)
    | .ok wl => match chosen d.bs bx with
      | .error y => .error ("UnknownButton", .str y)
      | .ok ul => .ok (wl, ul) := by
  have h : ss.find? (fun s : Int => !(decide (0 ≤ s) && decide (s < (d.ts.length : Int)))) = none := List.find?_eq_none.mpr fun z hz => by simp [ha z hz]
  unfold initR
  rw [h]
theorem ok_cinit (T : Txt K mg) : KnR SL P w K mg base 5 0 (Mk K (cC K)) P_Case___init__ (F_cinit K) := by
  have G_Device___len__ := ok_lenDev (P := P) (w := w) (base := base) T
  have G_chosen_lamps := ok_chosenL (P := P) (w := w) (base := base) T
  have G_chosen_buttons := ok_chosenB (P := P) (w := w) (base := base) T
  have G_steps_of := ok_stepsOf (P := P) (w := w) (base := base) T
  refine knr_of (fun i => ([0] : List Nat).contains i) T.d_Case___init__ sc_Case___init__ ?hl fun f cdv A outer s H E hr => ?_
  case hl => intro os Φ Ψ h; exact f_Case___init___len h
  have st0 : ∀ o0 o1 o2 o3 o4 : Ot, stO0 N_Case___init__ [o0, o1, o2, o3, o4] = [o0, o1, o2, o3, o4, .no] := fun _ _ _ _ _ => rfl
  have hu := hu_of hr
  refine ⟨_, _, pss_cons (ps_for (passes_of rfl) rfl (ki_list K (pv 2)) (pg_name (i := 5) sc_Case___init__.nd rfl (Or.inl rfl))
  (pss_one (ps_if (pt_not (pt_chain op_le op_lt pe_int (pv 5) (k_lenI G_Device___len__ hr (by omega) (by rfl) T.f_len (pa_cons (pv 1) pa_nil)))) (pss_one (ps_raiseLow rfl T.x_InvalidState hr (takes_of rfl rfl rfl rfl) (pa_cons (pv 5) pa_nil))) (pss_nil))))
  (pss_cons (k_sfld (pv 0) (pv 1))
  (pss_cons (k_sfld (pv 0) (pe_callB (cr_sortedSet rfl) (by rfl) T.f_sorted (by decide +kernel) (pa_cons (pe_callTy (cr_setL rfl) (by rfl) T.f_set (by decide +kernel) (pa_cons (pv 2) pa_nil)) pa_nil)))
  (pss_cons (k_sfld (pv 0) (k_kvX G_chosen_lamps hr (by omega) (takes_of rfl rfl rfl rfl) (pa_cons (pv 1) (pa_cons (pv 3) pa_nil))))
  (pss_cons (k_sfld (pv 0) (k_kvX G_chosen_buttons hr (by omega) (takes_of rfl rfl rfl rfl) (pa_cons (pv 1) (pa_cons (pv 4) pa_nil))))
  (pss_one (k_sfld (pv 0) (k_kv G_steps_of hr (by omega) (pa_cons (pv 1) (pa_cons (k_fld (pv 0)) pa_nil))))))))), VS.fit (s_seq (s_for (tg := .nm 5) (i_list (d_var (i := 2)))
  (s_if (t_not (t_test (d_chain lf_IB lf_IB (d_int) (d_var (i := 5)) (d_x (v_lenI (d_varP (i := 1))))))) (s_raise (d_var (i := 5))) (s_next)))
  (s_seq (s_setF (i := 0) T.cl_Case T.na_Case_whole (v_cpy (i := 1)))
  (s_seq (s_setF (i := 0) T.cl_Case T.na_Case_possible (v_sortSet (d_var (i := 2))))
  (s_seq (s_setF (i := 0) T.cl_Case T.na_Case_watched (v_callS (a_cons (v_d (d_varP (i := 1))) (a_cons (v_d (d_var (i := 3))) (a_nil)))))
  (s_seq (s_setF (i := 0) T.cl_Case T.na_Case_usable (v_callS (a_cons (v_d (d_varP (i := 1))) (a_cons (v_d (d_var (i := 4))) (a_nil)))))
  (s_setF (i := 0) T.cl_Case T.na_Case_table (v_borX (i := 0) (v_callS1 (a_cons (v_d (d_varP (i := 1))) (a_cons (v_d (d_fld T.cl_Case T.na_Case_watched (d_var (i := 0)))) (a_nil))))))))))) ?hc rfl, fun os Φ Ψ hF => ?_⟩
  case hc => first | exact Nat.le_of_ble_eq_true rfl | (unfold FORN; omega)
  obtain ⟨d, ts', od, ss, lx, bx, rfl, hod, ok, hp, hss, q⟩ := hF
  have l2 := ok.2.2.1
  have l3 := ok.1.2.2
  have l4 := ok.2.1.2.2
  have l1 := hp.1
  refine ⟨by rcases hod with rfl | ⟨v, rfl⟩ <;> rfl, ?_⟩
  rw [st0]
  walk_at "ga"
  refine for_x ss .int [5] (fun a u => (∀ y ∈ a, 0 ≤ y ∧ y < d.ts.length) ∧ u = []) rfl ?_ (by walk_at "hu") ?_ ?_
  · exact ⟨[], by walk_at "hs", fun _ h => (nomatch h), rfl⟩
  · intro a y b u sp ⟨ha, e⟩
    subst e
    walk_at "ga"
    intro N hN
    walk_at "ga"
    refine ite_d (fun c => ?_) (fun c => ?_)
    · walk_at "ga"
      refine ⟨d, ts', rfl, ?_⟩
      walk_at "ga"
      rw [l1]
      refine ite_n (fun c2 => ?_) (fun c2 => ?_)
      · walk_at "ga"
        rw [init_bad sp ha (fun z => c2 z.2)] at q
        exact q _
      · walk_at "ga"
        refine hN [] _ (by walk_at "eq") (by walk_at "hs") ⟨fun z hz => ?_, rfl⟩
        rcases List.mem_append.mp hz with m | m
        · exact ha z m
        · rw [List.mem_singleton.mp m]; exact ⟨c, c2⟩
    · walk_at "ga"
      rw [init_bad sp ha (fun z => c z.1)] at q
      exact q _
  · intro u ⟨ha, e⟩
    subst e
    walk_at "ga"
    refine ⟨d, ts', lx, rfl, by omega, ?_⟩
    rw [init_st ha] at q
    cases hL : chosen d.ls lx with
    | error y =>
      rw [hL] at q
      walk_at "ga"
      exact q _
    | ok wl =>
    rw [hL] at q
    refine ⟨sx_strs _, ?_⟩
    walk_at "ga"
    refine ⟨d, ts', bx, rfl, by omega, ?_⟩
    cases hB : chosen d.bs bx with
    | error y =>
      rw [hB] at q
      walk_at "ga"
      exact q _
    | ok ul =>
    rw [hB] at q
    refine ⟨sx_strs _, ?_⟩
    walk_at "ga"
    refine h_vborX rfl (part_nu hod _ _ _) (part_td hod _ _ _) ?_
    walk_at "ga"
    refine ⟨d, ts', wl, rfl, ok, hp, ?_⟩
    refine ⟨sx_tabs _, _, rfl, sx_tabs _, ?_⟩
    walk_at "ga"
    exact q
abbrev caseP (K : PySem.W.Frag) (dev : Dt) (ps : List Int) (wl ul : List Str) (tb : List Dt) : Dt := .ins (cC K) [("whole", dev), ("possible", .lst (ps.map .int)), ("watched", .lst (wl.map .str)), ("usable", .lst (ul.map .str)), ("table", .lst tb)]
def F_cprop (K : PySem.W.Frag) (r : Dt → List Int → List Str → List Str → Ot) : FnW := fun os Φ _ => ∃ (dev : Dt) (ps : List Int) (wl ul : List Str) (tb : List Dt), os = [.fz (caseP K dev ps wl ul tb)] ∧ ps.length ≤ 1000 ∧ Φ (r dev ps wl ul) os
theorem f_Case_device_len {r : Dt → List Int → List Str → List Str → Ot} {os : List Ot} {Φ : Ot → List Ot → Prop} {Ψ : XW} (h : F_cprop K r os Φ Ψ) : os.length = 1 := by
  obtain ⟨_, _, _, _, _, e, _⟩ := h
  rw [e]; rfl
theorem ok_cdevice (T : Txt K mg) : KvR SL P w K mg base 1 0 (fun g => ∃ p, PropOf K (cC K) "device" p g) P_Case_device (F_cprop K fun dev _ _ _ => .fz dev) := by
  refine kvr_of0 (fun i => ([] : List Nat).contains i) T.d_Case_device sc_Case_device (fun _ _ _ _ _ _ us hl => match us, hl with | [_], _ => rfl) ?hl fun f cdv A outer s H E hr => ?_
  case hl => intro os Φ Ψ h; exact f_Case_device_len h
  have st0 : ∀ o0 : Ot, stO0 N_Case_device [o0] = [o0] := fun _ => rfl
  have hu := hu_of hr
  refine ⟨_, _, pss_one (ps_ret (k_fld (pv 0))), VS.fit (s_retD (d_fld T.cl_Case T.na_Case_whole (d_var (i := 0)))) ?hc rfl, fun os Φ Ψ hF => ?_⟩
  case hc => first | exact Nat.le_of_ble_eq_true rfl | (unfold FORN; omega)
  obtain ⟨dev, ps, wl, ul, tb, rfl, hl, q⟩ := hF
  refine ⟨rfl, ?_⟩
  rw [st0]
  walk_at "ga"
  exact q
end
/-- states, lamps, buttons as they are handed in -/
structure Cz where
  ss : List Int
  lx : Option (List Str)
  bx : Option (List Str)
abbrev czKs : List Key := [.inr (Str.ofString "states"), .inr (Str.ofString "lamps"), .inr (Str.ofString "buttons")]
abbrev czO (c : Cz) : Ot := .dic czKs ([.lst (c.ss.map .int), optD c.lx, optD c.bx].map .fz)
structure CzP (d : Dv) (most : Nat) (c : Cz) : Prop where
  s1 : 1 ≤ c.ss.length
  s6 : c.ss.length ≤ most + 1
  sn : (sset c.ss).length ≤ most
  st : ∀ s ∈ c.ss, 0 ≤ s ∧ s < d.ts.length
  ll : ∀ xs, c.lx = some xs → xs.length ≤ 4 ∧ ∀ x ∈ xs, x ∈ d.ls
  bl : ∀ xs, c.bx = some xs → xs.length ≤ 5 ∧ ∀ x ∈ xs, x ∈ d.bs
section
variable {P : Program} {w : World} {K : PySem.W.Frag} {mg : Str → Option Value} {base : Heap}
def F_lcase : FnW := fun os Φ _ => ∃ (cell : Int) (d : Dv) (o : Int) (most : Nat), os = [.fz (.int cell), .fz (worldD d o), .fz (.int (most : Int))] ∧ DwP d ∧ 1 ≤ most ∧ most ≤ 5 ∧ ∀ c : Cz, CzP d most c → Φ (czO c) os
theorem f__law_case_len {os : List Ot} {Φ : Ot → List Ot → Prop} {Ψ : XW} (h : F_lcase os Φ Ψ) : os.length = 3 := by
  obtain ⟨_, _, _, _, e, _⟩ := h
  rw [e]; rfl
theorem rng_ints (n : Nat) : ∃ p : List Int, rngD 0 n = p.map .int ∧ p.length = n ∧ ∀ x ∈ p, 0 ≤ x ∧ x < n := by
  refine ⟨(List.range n).map fun i : Nat => (0 : Int) + (i : Int), ?_, by simp, fun x hx => ?_⟩
  · unfold rngD
    rw [List.map_map]
    rfl
  · obtain ⟨k, hk, rfl⟩ := List.mem_map.mp hx
    have := List.mem_range.mp hk
    omega
theorem map_erase {α β : Type} (f : α → β) : ∀ (l : List α) (i : Nat), (l.map f).eraseIdx i = (l.eraseIdx i).map f
  | [], _ => rfl
  | _ :: _, 0 => rfl
  | a :: l, i + 1 => congrArg (f a :: ·) (map_erase f l i)
theorem sset_len {q r : List Int} (h : ∀ x ∈ q, x ∈ r) : (sset q).length ≤ r.length := nodup_sub (asc_nodup (sset_sorted q)) fun x hx => h x (mem_sset.mp hx)
theorem ok_lcase (T : Txt K mg) : Kv SL P w K mg base 2 0 "_law_case" P__law_case F_lcase := by
  have G__law_draws := ok_draws (P := P) (w := w) (base := base) T
  refine kv_of0 (fun i => ([] : List Nat).contains i) T.d__law_case sc__law_case (fun _ _ _ _ _ _ us hl => match us, hl with | [_, _, _], _ => rfl) ?hl fun f cdv A outer s H E hr => ?_
  case hl => intro os Φ Ψ h; exact f__law_case_len h
  have st0 : ∀ o0 o1 o2 : Ot, stO0 N__law_case [o0, o1, o2] = [o0, o1, o2, .no, .no, .no, .no, .no, .no, .no, .no, .no] := fun _ _ _ => rfl
  have hu := hu_of hr
  refine ⟨_, _, pss_cons (ps_set (i := 3) sc__law_case.nd rfl (Or.inr rfl) (k_kv G__law_draws hr (by omega) (pa_cons (pv 0) (pa_cons pe_int pa_nil))))
  (pss_cons (ps_set (i := 4) sc__law_case.nd rfl (Or.inl rfl) (pe_callB (k_len K) (by rfl) T.f_len (by decide +kernel) (pa_cons (pe_dget hu (pv 1) pe_str (fun _ _ => rfl)) pa_nil)))
  (pss_cons (ps_set (i := 5) sc__law_case.nd rfl (Or.inl rfl) (pe_callB (call_min2 rfl) (by rfl) T.f_min (by decide +kernel) (pa_cons (pv 2) (pa_cons (pv 4) pa_nil))))
  (pss_cons (ps_if (pt_cmpR op_eq (pe_op op_mod (pe_callTy call_int1 (by rfl) T.f_int (by decide +kernel) (pa_cons (pe_ix (kx_list K) (pv 3) pe_int (fun _ _ => rfl)) pa_nil)) pe_int) pe_int (nomark _)) (pss_one (ps_set (i := 5) sc__law_case.nd rfl (Or.inl rfl) (pe_op op_add pe_int (pe_op op_mod (pe_callTy call_int1 (by rfl) T.f_int (by decide +kernel) (pa_cons (pe_op op_fdiv (pe_ix (kx_list K) (pv 3) pe_int (fun _ _ => rfl)) pe_int) pa_nil)) (pv 5))))) (pss_nil))
  (pss_cons (ps_set (i := 6) sc__law_case.nd rfl (Or.inl rfl) (pe_listRg (by rfl) (by rfl) T.f_list (prg_1 (by rfl) T.f_range (pv 4))))
  (pss_cons (ps_set (i := 7) sc__law_case.nd rfl (Or.inl rfl) (pe_lst pa_nil))
  (pss_cons (ps_for PassesOwn.never rfl (pi_range1 (by rfl) T.f_range (pa_cons (pv 5) pa_nil)) (pg_name (i := 8) sc__law_case.nd rfl (Or.inl rfl))
  (pss_one (ps_expr (k_bm K PySem.F.plainAttrs_list PySem.F.slot_list_append PySem.F.type_list_append mt_append (pv 7) (pa_cons (k_bm K PySem.F.plainAttrs_list PySem.F.slot_list_pop PySem.F.type_list_pop mt_popAt (pv 6) (pa_cons (pe_op op_mod (pe_callTy call_int1 (by rfl) T.f_int (by decide +kernel) (pa_cons (pe_ix (kx_list K) (pv 3) (pe_op op_add pe_int (pv 8)) (fun _ _ => rfl)) pa_nil)) (pe_callB (k_len K) (by rfl) T.f_len (by decide +kernel) (pa_cons (pv 6) pa_nil))) pa_nil)) pa_nil)))))
  (pss_cons (ps_if (pt_cmpR op_eq (pe_op op_mod (pe_callTy call_int1 (by rfl) T.f_int (by decide +kernel) (pa_cons (pe_ix (kx_list K) (pv 3) pe_int (fun _ _ => rfl)) pa_nil)) pe_int) pe_int (nomark _)) (pss_one (ps_set (i := 7) sc__law_case.nd rfl (Or.inl rfl) (pe_op op_cat (pv 7) (pe_slice (ks_list K) (pv 7) po_none (po_some pe_int))))) (pss_nil))
  (pss_cons (ps_set (i := 9) sc__law_case.nd rfl (Or.inr rfl) pe_non)
  (pss_cons (ps_set (i := 10) sc__law_case.nd rfl (Or.inr rfl) pe_non)
  (pss_cons (ps_if (pt_cmpR op_gt (pe_op op_mod (pe_callTy call_int1 (by rfl) T.f_int (by decide +kernel) (pa_cons (pe_ix (kx_list K) (pv 3) pe_int (fun _ _ => rfl)) pa_nil)) pe_int) pe_int (nomark _)) (pss_cons (ps_set (i := 9) sc__law_case.nd rfl (Or.inr rfl) (pe_lc (own := [("_law_one", 11)]) (g := gName 11) (by rfl) sc__law_case.nd (ki_list K (pe_dget hu (pv 1) pe_str (fun _ _ => rfl))) (blkOk_by (own := [("_law_one", 11)]) (N := N__law_case) (sc := defScope s__law_case) (by first | decide +kernel | rfl)) (fun _ _ _ _ _ => pg_name (i := 11) sc__law_case.nd rfl (Or.inl rfl)) (fun _ _ _ _ _ => pts_one (pt_cmpR op_lt (pe_op op_mod (pe_callTy call_int1 (by rfl) T.f_int (by decide +kernel) (pa_cons (pe_ix (kx_list K) (pv 3) pe_int (fun _ _ => rfl)) pa_nil)) pe_int) pe_int (nomark _))) (fun _ _ _ _ _ => pv 11)))
  (pss_cons (ps_set (i := 9) sc__law_case.nd rfl (Or.inr rfl) (pe_lc (own := [("_law_k", 8)]) (g := gName 8) (by rfl) sc__law_case.nd (pi_range1 (by rfl) T.f_range (pa_cons (pe_callB (k_len K) (by rfl) T.f_len (by decide +kernel) (pa_cons (pv 9) pa_nil)) pa_nil)) (blkOk_by (own := [("_law_k", 8)]) (N := N__law_case) (sc := defScope s__law_case) (by first | decide +kernel | rfl)) (fun _ _ _ _ _ => pg_name (i := 8) sc__law_case.nd rfl (Or.inl rfl)) (fun _ _ _ _ _ => pts_one (pt_cmpR op_eq (pe_op op_mod (pe_callTy call_int1 (by rfl) T.f_int (by decide +kernel) (pa_cons (pe_op op_fdiv (pe_ix (kx_list K) (pv 3) pe_int (fun _ _ => rfl)) (pe_ix (kx_list K) (pe_lst (pa_cons pe_int (pa_cons pe_int (pa_cons pe_int pa_nil)))) (pv 8) (fun _ _ => rfl))) pa_nil)) pe_int) pe_int (nomark _))) (fun _ _ _ _ _ => pe_ix (kx_list K) (pv 9) (pv 8) (fun _ _ => rfl))))
  (pss_one (ps_set (i := 9) sc__law_case.nd rfl (Or.inr rfl) (pe_op op_cat (k_revL K (pv 9)) (pe_slice (ks_list K) (pv 9) po_none (po_some pe_int))))))) (pss_nil))
  (pss_cons (ps_if (pt_cmpR op_eq (pe_op op_mod (pe_callTy call_int1 (by rfl) T.f_int (by decide +kernel) (pa_cons (pe_ix (kx_list K) (pv 3) pe_int (fun _ _ => rfl)) pa_nil)) pe_int) pe_int (nomark _)) (pss_cons (ps_set (i := 10) sc__law_case.nd rfl (Or.inr rfl) (pe_callTy (k_list K) (by rfl) T.f_list (by decide +kernel) (pa_cons (pe_dget hu (pv 1) pe_str (fun _ _ => rfl)) pa_nil)))
  (pss_cons (ps_set (i := 10) sc__law_case.nd rfl (Or.inr rfl) (pe_lc (own := [("_law_k", 8)]) (g := gName 8) (by rfl) sc__law_case.nd (pi_range1 (by rfl) T.f_range (pa_cons (pe_callB (k_len K) (by rfl) T.f_len (by decide +kernel) (pa_cons (pv 10) pa_nil)) pa_nil)) (blkOk_by (own := [("_law_k", 8)]) (N := N__law_case) (sc := defScope s__law_case) (by first | decide +kernel | rfl)) (fun _ _ _ _ _ => pg_name (i := 8) sc__law_case.nd rfl (Or.inl rfl)) (fun _ _ _ _ _ => pts_one (pt_cmpR op_eq (pe_op op_mod (pe_callTy call_int1 (by rfl) T.f_int (by decide +kernel) (pa_cons (pe_op op_fdiv (pe_ix (kx_list K) (pv 3) pe_int (fun _ _ => rfl)) (pe_ix (kx_list K) (pe_lst (pa_cons pe_int (pa_cons pe_int (pa_cons pe_int (pa_cons pe_int pa_nil))))) (pv 8) (fun _ _ => rfl))) pa_nil)) pe_int) pe_int (nomark _))) (fun _ _ _ _ _ => pe_ix (kx_list K) (pv 10) (pv 8) (fun _ _ => rfl))))
  (pss_one (ps_set (i := 10) sc__law_case.nd rfl (Or.inr rfl) (pe_op op_cat (k_revL K (pv 10)) (pe_slice (ks_list K) (pv 10) po_none (po_some pe_int))))))) (pss_nil))
  (pss_one (ps_ret (pe_dispN [Str.ofString "states", Str.ofString "lamps", Str.ofString "buttons"] [(Str.ofString "states", _), (Str.ofString "lamps", _), (Str.ofString "buttons", _)] rfl (pps_cons pe_str (pv 7) (pps_cons pe_str (pv 9) (pps_cons pe_str (pv 10) pps_nil))) (by decide) (by decide) (by decide))))))))))))))), VS.fit (s_seq (s_asgD (d_x (v_callQ (a_cons (v_d (d_var (i := 0))) (a_cons (v_d (d_int)) (a_nil))))))
  (s_seq (s_asgD (d_cb lc_len (l_cons (d_dg (d_var (i := 1)) (d_str)) (l_nil))))
  (s_seq (s_asgD (d_cb lc_ii (l_cons (d_var (i := 2)) (l_cons (d_var (i := 4)) (l_nil)))))
  (s_seqM (s_if (t_test (d_op lf_eq (d_op lf_mod (d_cb lc_int (l_cons (d_op lf_ixL (d_var (i := 3)) (d_int)) (l_nil))) (d_int)) (d_int))) (s_asgD (d_op lf_II (d_int) (d_op lf_mod (d_cb lc_int (l_cons (d_op lf_div (d_op lf_ixL (d_var (i := 3)) (d_int)) (d_int)) (l_nil))) (d_var (i := 5))))) (s_next))
  (s_seq (s_asg (v_lrg1 (d_var (i := 4))))
  (s_seq (s_asg (v_lst (a_nil)))
  (s_seq (s_for (tg := .nm 8) (i_rg1 (l_cons (d_var (i := 5)) (l_nil)))
  (s_drop (v_append (i := 7) (v_d (d_x (v_popAt (i := 6) (d_op lf_mod (d_cb lc_int (l_cons (d_op lf_ixL (d_var (i := 3)) (d_op lf_II (d_int) (d_var (i := 8)))) (l_nil))) (d_lenO (i := 6)))))))))
  (s_seqM (s_if (t_test (d_op lf_eq (d_op lf_mod (d_cb lc_int (l_cons (d_op lf_ixL (d_var (i := 3)) (d_int)) (l_nil))) (d_int)) (d_int))) (s_asg (v_cat (d_f (v_var (i := 7))) (d_sl ls_list (d_f (v_var (i := 7))) o_none (o_some (d_int))))) (s_next))
  (s_seq (s_asgD (d_non))
  (s_seq (s_asgD (d_non))
  (s_seqM (s_if (t_test (d_op lf_IB (d_op lf_mod (d_cb lc_int (l_cons (d_op lf_ixL (d_var (i := 3)) (d_int)) (l_nil))) (d_int)) (d_int))) (s_seq (s_asgD (d_lc (tg := .nm 11) (i_list (d_dg (d_var (i := 1)) (d_str))) (t_test (d_op lf_IB (d_op lf_mod (d_cb lc_int (l_cons (d_op lf_ixL (d_var (i := 3)) (d_int)) (l_nil))) (d_int)) (d_int))) (d_var (i := 11))))
  (s_seq (s_asgD (d_lc (tg := .nm 8) (i_rg1 (l_cons (d_cb lc_len (l_cons (d_var (i := 9)) (l_nil))) (l_nil))) (t_test (d_op lf_eq (d_op lf_mod (d_cb lc_int (l_cons (d_op lf_div (d_op lf_ixL (d_var (i := 3)) (d_int)) (d_op lf_ixL (d_lst (l_cons (d_int) (l_cons (d_int) (l_cons (d_int) (l_nil))))) (d_var (i := 8)))) (l_nil))) (d_int)) (d_int))) (d_op lf_ixL (d_var (i := 9)) (d_var (i := 8)))))
  (s_asgD (d_op lf_cat (d_revL (d_var (i := 9))) (d_sl ls_list (d_var (i := 9)) o_none (o_some (d_int))))))) (s_next))
  (s_seqM (s_if (t_test (d_op lf_eq (d_op lf_mod (d_cb lc_int (l_cons (d_op lf_ixL (d_var (i := 3)) (d_int)) (l_nil))) (d_int)) (d_int))) (s_seq (s_asgD (d_cb lc_list (l_cons (d_dg (d_var (i := 1)) (d_str)) (l_nil))))
  (s_seq (s_asgD (d_lc (tg := .nm 8) (i_rg1 (l_cons (d_cb lc_len (l_cons (d_var (i := 10)) (l_nil))) (l_nil))) (t_test (d_op lf_eq (d_op lf_mod (d_cb lc_int (l_cons (d_op lf_div (d_op lf_ixL (d_var (i := 3)) (d_int)) (d_op lf_ixL (d_lst (l_cons (d_int) (l_cons (d_int) (l_cons (d_int) (l_cons (d_int) (l_nil)))))) (d_var (i := 8)))) (l_nil))) (d_int)) (d_int))) (d_op lf_ixL (d_var (i := 10)) (d_var (i := 8)))))
  (s_asgD (d_op lf_cat (d_revL (d_var (i := 10))) (d_sl ls_list (d_var (i := 10)) o_none (o_some (d_int))))))) (s_next))
  (s_ret (v_dispK (ks := [Str.ofString "states", Str.ofString "lamps", Str.ofString "buttons"]) (a_cons (v_d (d_f (v_var (i := 7)))) (a_cons (v_d (d_var (i := 9))) (a_cons (v_d (d_var (i := 10))) (a_nil)))))))))))))))))) ?hc rfl, fun os Φ Ψ hF => ?_⟩
  case hc => first | exact Nat.le_of_ble_eq_true rfl | (unfold FORN; omega)
  obtain ⟨cell, d, o, most, rfl, dw, hm1, hm5, q⟩ := hF
  have tl := dw.tl
  have ll := dw.ll
  have bl := dw.bl
  refine ⟨rfl, ?_⟩
  rw [st0]
  walk_at "ga"
  refine ⟨cell, 9, rfl, by omega, fun xs hx hb => ?_⟩
  walk_at "ga"
  refine e_dgS (wd_rows d o) ?_
  walk_at "ga"
  rw [List.length_map]
  obtain ⟨n0, hn0, hn1, hn2, hn3⟩ : ∃ n : Nat, (if ((d.ts.length : Nat) : Int) < (most : Int) then ((d.ts.length : Nat) : Int) else (most : Int)) = (n : Int) ∧ 1 ≤ n ∧ n ≤ most ∧ n ≤ d.ts.length := by
    split
    · exact ⟨d.ts.length, rfl, tl.1, by omega, by omega⟩
    · exact ⟨most, rfl, hm1, by omega, by omega⟩
  rw [hn0]
  refine seqM_e [5] (fun u => ∃ n : Nat, 1 ≤ n ∧ n ≤ most ∧ n ≤ d.ts.length ∧ u = [(5, .fz (.int (n : Int)))]) (fun N hN => ?_) (fun u ⟨n, h1, h2, h3, e⟩ => ?_)
  · walk_at "ga"
    refine g_xs hx hb (by omega) (by omega) fun v0 a0 b0 => ?_
    walk_at "ga"
    refine ite_any (fun c => ?_) (fun c => ?_)
    · walk_at "ga"
      refine g_xs hx hb (by omega) (by omega) fun v1 a1 b1 => ?_
      walk_at "ga"
      have e0 := Int.emod_nonneg (v1 / 3) (show (n0 : Int) ≠ 0 by omega)
      have e1 := Int.emod_lt_of_pos (v1 / 3) (show (0 : Int) < (n0 : Int) by omega)
      obtain ⟨z, hz⟩ := Int.eq_ofNat_of_zero_le e0
      rw [hz] at e1 ⊢
      exact hN [(5, _)] _ (by walk_at "eq") (by walk_at "hs") ⟨1 + z, by omega, by omega, by omega, by rw [show (1 + (z : Int)) = ((1 + z : Nat) : Int) by omega]⟩
    · walk_at "ga"
      exact hN [(5, _)] _ (by walk_at "eq") (by walk_at "hs") ⟨n0, hn1, hn2, hn3, rfl⟩
  subst e
  clear hn0 hn1 hn2 hn3
  walk_at "ga"
  rw [Int.toNat_natCast, Int.toNat_natCast]
  obtain ⟨p0, hp0, hl0, hr0⟩ := rng_ints d.ts.length
  rw [hp0]
  refine for_r [6, 7, 8] (fun i u => ∃ p q : List Int, p.length + i = d.ts.length ∧ q.length = i ∧ (∀ x ∈ p, 0 ≤ x ∧ x < d.ts.length) ∧ (∀ x ∈ q, 0 ≤ x ∧ x < d.ts.length) ∧ u = [(6, .lst ((p.map .int).map .fz)), (7, .lst ((q.map .int).map .fz))]) rfl ?_ (by walk_at "hu") ?_ ?_
  · exact ⟨[(6, _), (7, _)], by walk_at "hs", p0, [], by omega, rfl, hr0, fun _ h => (nomatch h), rfl⟩
  · intro i u hi ⟨p, q', hpl, hql, hpr, hqr, e⟩
    subst e
    walk_at "ga"
    intro N hN
    walk_at "ga"
    refine g_xs hx hb (by omega) (by omega) fun v a b => ?_
    walk_at "ga"
    rw [List.length_map, List.length_map]
    have e0 := Int.emod_nonneg v (show (p.length : Int) ≠ 0 by omega)
    have e1 := Int.emod_lt_of_pos v (show (0 : Int) < (p.length : Int) by omega)
    refine g_mod (by omega) ?_
    generalize v % (p.length : Int) = z at e0 e1
    obtain ⟨y, hy, hy2⟩ := atL (l := p) e0 e1
    walk_at "ga"
    refine ⟨z.toNat, ixN_nn e0 (by rw [List.length_map, List.length_map]; exact e1), .fz (.int y), by rw [List.getElem?_map, List.getElem?_map, hy2]; rfl, ?_⟩
    rw [map_erase, map_erase]
    walk_at "ga"
    have el := List.length_eraseIdx_of_lt (l := p) (i := z.toNat) (by omega)
    refine hN [(6, _), (7, _)] _ (by walk_at "eq") (by walk_at "hs") ⟨p.eraseIdx z.toNat, q' ++ [y], by omega, by rw [List.length_append]; show q'.length + 1 = _; omega, fun x hm => hpr x (List.mem_of_mem_eraseIdx hm), fun x hm => ?_, by simp only [List.map_append]; rfl⟩
    rcases List.mem_append.mp hm with m | m
    · exact hqr x m
    · rw [List.mem_singleton.mp m]; exact hpr y (List.mem_of_getElem? hy2)
  · intro u ⟨p, q', hpl, hql, hpr, hqr, e⟩
    subst e
    walk_at "ga"
    refine seqM_e [7] (fun u => ∃ q2 : List Int, 1 ≤ q2.length ∧ q2.length ≤ most + 1 ∧ (∀ x ∈ q2, x ∈ q') ∧ u = [(7, .lst ((q2.map .int).map .fz))]) (fun N hN => ?_) (fun u ⟨q2, g1, g2, g3, e⟩ => ?_)
    · walk_at "ga"
      refine g_xs hx hb (by omega) (by omega) fun v0 a0 b0 => ?_
      walk_at "ga"
      refine ite_any (fun c => ?_) (fun c => ?_)
      · walk_at "ga"
        rw [cutG_map, show (some (1 : Int)) = some ((1 : Nat) : Int) from rfl, cutG_take]
        refine ⟨_, _, rfl, rfl, by simp only [List.length_map, List.length_take]; omega, ?_⟩
        rw [← List.map_append]
        walk_at "ga"
        refine hN [(7, _)] _ (by walk_at "eq") (by walk_at "hs") ⟨q' ++ q'.take 1, by rw [List.length_append]; omega, by rw [List.length_append, List.length_take]; omega, fun x hx => ?_, rfl⟩
        rcases List.mem_append.mp hx with m | m
        · exact m
        · exact List.mem_of_mem_take m
      · walk_at "ga"
        exact hN [(7, _)] _ (by walk_at "eq") (by walk_at "hs") ⟨q', by omega, by omega, fun x hx => hx, rfl⟩
    subst e
    walk_at "ga"
    refine seqM_e [9, 11, 8] (fun u => ∃ lx : Option (List Str), (∀ xs, lx = some xs → xs.length ≤ 4 ∧ ∀ x ∈ xs, x ∈ d.ls) ∧ u = [(9, .fz (optD lx))]) (fun N hN => ?_) (fun u ⟨lx, hlx, e⟩ => ?_)
    · walk_at "ga"
      refine g_xs hx hb (by omega) (by omega) fun v0 a0 b0 => ?_
      walk_at "ga"
      refine ite_any (fun c => ?_) (fun c => hN [(9, _)] _ (by walk_at "eq") (by walk_at "hs") ⟨none, fun _ z => (nomatch z), rfl⟩)
      walk_at "ga"
      refine e_dgS (wd_lamps d o) ?_
      walk_at "ga"
      refine lcD_inv (fun i acc => ∃ lit : List Str, acc = lit.map .str ∧ lit.length ≤ i ∧ ∀ x ∈ lit, x ∈ d.ls) ⟨[], rfl, Nat.le_refl _, fun _ h => (nomatch h)⟩ (fun i d2 acc N1 N0 hd2 _ ⟨lit, e1, e2, e3⟩ k1 k0 => ?_) fun acc ⟨lit0, e1, e2, e3⟩ => ?_
      · subst e1
        rw [List.getElem?_map] at hd2
        cases hy : d.ls[i]? with
        | none => rw [hy] at hd2; cases hd2
        | some y =>
        rw [hy] at hd2
        cases hd2
        walk_at "ga"
        refine g_xs hx hb (by omega) (by omega) fun v4 a4 b4 => ?_
        walk_at "ga"
        refine ite_any (fun c => ?_) (fun c => ?_)
        · walk_at "ga"
          refine k1 _ ⟨lit ++ [y], by rw [List.map_append]; rfl, by rw [List.length_append]; show lit.length + 1 ≤ _; omega, fun x hm => ?_⟩
          rcases List.mem_append.mp hm with m | m
          · exact e3 x m
          · rw [List.mem_singleton.mp m]; exact List.mem_of_getElem? hy
        · exact k0 ⟨lit, rfl, by omega, e3⟩
      rw [List.length_map] at e2
      subst e1
      have e3' : ∀ x ∈ lit0, x ∈ d.ls := e3
      clear e3
      walk_at "ga"
      refine lcD_inv (fun i acc => ∃ lit : List Str, acc = lit.map .str ∧ lit.length ≤ i ∧ ∀ x ∈ lit, x ∈ lit0) ⟨[], rfl, Nat.le_refl _, fun _ h => (nomatch h)⟩ (fun i d2 acc N1 N0 hd2 _ ⟨lit, e1, e2, e3⟩ k1 k0 => ?_) fun acc ⟨lit, e1, e2, e3⟩ => ?_
      · subst e1
        obtain ⟨hi, rfl⟩ := rngD_at hd2
        rw [List.length_map, Int.toNat_natCast] at hi
        walk_at "ga"
        refine g_xs hx hb (by omega) (by omega) fun v4 a4 b4 => ?_
        obtain ⟨pv, hpv, _⟩ := atL (l := [(5 : Int), 10, 20]) (i := 0 + (i : Int)) (by omega) (show 0 + (i : Int) < ((3 : Nat) : Int) by omega)
        have pb : 1 ≤ pv ∧ pv ≤ 32 := by
          have := atI_mem hpv
          simp only [List.mem_cons, List.not_mem_nil, or_false] at this
          omega
        walk_at "ga"
        refine g_ixL (atI_map Dt.int hpv) ?_
        walk_at "ga"
        obtain ⟨z, hz, hz2⟩ := atL (l := lit0) (i := 0 + (i : Int)) (by omega) (by omega)
        refine ite_any (fun c => ?_) (fun c => ?_)
        · walk_at "ga"
          refine g_ixL (atI_map Dt.str hz) ?_
          refine k1 _ ⟨lit ++ [z], by rw [List.map_append]; rfl, by rw [List.length_append]; show lit.length + 1 ≤ _; omega, fun x hm => ?_⟩
          rcases List.mem_append.mp hm with m | m
          · exact e3 x m
          · rw [List.mem_singleton.mp m]; exact atI_mem hz
        · exact k0 ⟨lit, rfl, by omega, e3⟩
      rw [rngD_len, List.length_map, Int.toNat_natCast] at e2
      subst e1
      walk_at "ga"
      refine g_cat (by have := cutG_len (lit.map Dt.str) none (some 1); simp only [List.length_map, List.length_reverse] at this ⊢; omega) ?_
      rw [cutG_map, show (some (1 : Int)) = some ((1 : Nat) : Int) from rfl, cutG_take, ← List.map_reverse, ← List.map_append]
      have rl : (lit.reverse ++ lit.take 1).length ≤ lit.length + 1 := by rw [List.length_append, List.length_reverse, List.length_take]; omega
      have rm : ∀ x ∈ lit.reverse ++ lit.take 1, x ∈ lit0 := fun x hm => by
        rcases List.mem_append.mp hm with m | m
        · exact e3 x (List.mem_reverse.mp m)
        · exact e3 x (List.mem_of_mem_take m)
      walk_at "ga"
      refine hN [(9, _)] _ (by walk_at "eq") (by walk_at "hs") ⟨some (lit.reverse ++ lit.take 1), fun xs z => ?_, rfl⟩
      cases z
      exact ⟨by omega, fun x hm => e3' x (rm x hm)⟩
    subst e
    walk_at "ga"
    refine seqM_e [10, 11, 8] (fun u => ∃ bx : Option (List Str), (∀ xs, bx = some xs → xs.length ≤ 5 ∧ ∀ x ∈ xs, x ∈ d.bs) ∧ u = [(10, .fz (optD bx))]) (fun N hN => ?_) (fun u ⟨bx, hbx, e⟩ => ?_)
    · walk_at "ga"
      refine g_xs hx hb (by omega) (by omega) fun v0 a0 b0 => ?_
      walk_at "ga"
      refine ite_any (fun c => ?_) (fun c => hN [(10, _)] _ (by walk_at "eq") (by walk_at "hs") ⟨none, fun _ z => (nomatch z), rfl⟩)
      walk_at "ga"
      refine e_dgS (wd_buttons d o) ?_
      walk_at "ga"
      refine lcD_inv (fun i acc => ∃ lit : List Str, acc = lit.map .str ∧ lit.length ≤ i ∧ ∀ x ∈ lit, x ∈ d.bs) ⟨[], rfl, Nat.le_refl _, fun _ h => (nomatch h)⟩ (fun i d2 acc N1 N0 hd2 _ ⟨lit, e1, e2, e3⟩ k1 k0 => ?_) fun acc ⟨lit, e1, e2, e3⟩ => ?_
      · subst e1
        obtain ⟨hi, rfl⟩ := rngD_at hd2
        rw [List.length_map, Int.toNat_natCast] at hi
        walk_at "ga"
        refine g_xs hx hb (by omega) (by omega) fun v4 a4 b4 => ?_
        obtain ⟨pv, hpv, _⟩ := atL (l := [(4 : Int), 8, 16, 32]) (i := 0 + (i : Int)) (by omega) (show 0 + (i : Int) < ((4 : Nat) : Int) by omega)
        have pb : 1 ≤ pv ∧ pv ≤ 32 := by
          have := atI_mem hpv
          simp only [List.mem_cons, List.not_mem_nil, or_false] at this
          omega
        walk_at "ga"
        refine g_ixL (atI_map Dt.int hpv) ?_
        walk_at "ga"
        obtain ⟨z, hz, hz2⟩ := atL (l := d.bs) (i := 0 + (i : Int)) (by omega) (by omega)
        refine ite_any (fun c => ?_) (fun c => ?_)
        · walk_at "ga"
          refine g_ixL (atI_map Dt.str hz) ?_
          refine k1 _ ⟨lit ++ [z], by rw [List.map_append]; rfl, by rw [List.length_append]; show lit.length + 1 ≤ _; omega, fun x hm => ?_⟩
          rcases List.mem_append.mp hm with m | m
          · exact e3 x m
          · rw [List.mem_singleton.mp m]; exact atI_mem hz
        · exact k0 ⟨lit, rfl, by omega, e3⟩
      rw [rngD_len, List.length_map, Int.toNat_natCast] at e2
      subst e1
      walk_at "ga"
      refine g_cat (by have := cutG_len (lit.map Dt.str) none (some 1); simp only [List.length_map, List.length_reverse] at this ⊢; omega) ?_
      rw [cutG_map, show (some (1 : Int)) = some ((1 : Nat) : Int) from rfl, cutG_take, ← List.map_reverse, ← List.map_append]
      have rl : (lit.reverse ++ lit.take 1).length ≤ lit.length + 1 := by rw [List.length_append, List.length_reverse, List.length_take]; omega
      have rm : ∀ x ∈ lit.reverse ++ lit.take 1, x ∈ d.bs := fun x hm => by
        rcases List.mem_append.mp hm with m | m
        · exact e3 x (List.mem_reverse.mp m)
        · exact e3 x (List.mem_of_mem_take m)
      walk_at "ga"
      refine hN [(10, _)] _ (by walk_at "eq") (by walk_at "hs") ⟨some (lit.reverse ++ lit.take 1), fun xs z => ?_, rfl⟩
      cases z
      exact ⟨by omega, fun x hm => rm x hm⟩
    subst e
    walk_at "ga"
    exact q ⟨q2, lx, bx⟩ ⟨g1, g2, Nat.le_trans (sset_len g3) (by omega), fun x hm => hqr x (g3 x hm), hlx, hbx⟩
end
abbrev strsO (l : List Str) : Ot := .lst ((l.map .str).map .fz)
abbrev intsO (l : List Int) : Ot := .lst ((l.map .int).map .fz)
abbrev intsD (l : List Int) : Dt := .lst (l.map .int)
def cho (known : List Str) : Option (List Str) → List Str
  | none => known
  | some xs => known.filter fun l => decide (l ∈ xs)
theorem chosen_cho {known : List Str} {x : Option (List Str)} (h : ∀ xs, x = some xs → ∀ y ∈ xs, y ∈ known) : chosen known x = .ok (cho known x) := by
  cases x with
  | none => rfl
  | some xs => exact chosen_ok (h xs rfl)
abbrev czD (c : Cz) : Dt := .dic [(.inr (Str.ofString "states"), intsD c.ss), (.inr (Str.ofString "lamps"), optD c.lx), (.inr (Str.ofString "buttons"), optD c.bx)]
theorem cz_states (c : Cz) : valG [((.inr (Str.ofString "states") : Key), intsD c.ss), (.inr (Str.ofString "lamps"), optD c.lx), (.inr (Str.ofString "buttons"), optD c.bx)] (.inr (Str.ofString "states") : Key) = some (intsD c.ss) := rfl
theorem cz_lamps (c : Cz) : valG [((.inr (Str.ofString "states") : Key), intsD c.ss), (.inr (Str.ofString "lamps"), optD c.lx), (.inr (Str.ofString "buttons"), optD c.bx)] (.inr (Str.ofString "lamps") : Key) = some (optD c.lx) := rfl
theorem cz_buttons (c : Cz) : valG [((.inr (Str.ofString "states") : Key), intsD c.ss), (.inr (Str.ofString "lamps"), optD c.lx), (.inr (Str.ofString "buttons"), optD c.bx)] (.inr (Str.ofString "buttons") : Key) = some (optD c.bx) := rfl
abbrev dueO (d : Dv) (c : Cz) : Ot := .dic czKs [intsO (sset c.ss), strsO (cho d.ls c.lx), strsO (cho d.bs c.bx)]
abbrev dueD (d : Dv) (c : Cz) : Dt := .dic [(.inr (Str.ofString "states"), intsD (sset c.ss)), (.inr (Str.ofString "lamps"), dS (cho d.ls c.lx)), (.inr (Str.ofString "buttons"), dS (cho d.bs c.bx))]
theorem due_own (d : Dv) (c : Cz) : toD (dueO d c) = some (dueD d c) := by
  simp only [toD, toDs, toDs_fz, Option.map_some]
  rfl
theorem look_none {α : Type} {k : Str} : ∀ {t : List (Str × α)}, k ∉ t.map (·.1) → t.lookup k = none
  | [], _ => rfl
  | (x, b) :: t, h => by
    have h1 : (k == x) = false := beq_eq_false_iff_ne.mpr fun z => h (by rw [z]; simp)
    simp only [List.lookup, h1]
    exact look_none fun m => h (List.mem_cons_of_mem _ m)
theorem fm_congr {α β : Type} {f g : α → Option β} : ∀ {l : List α}, (∀ x ∈ l, f x = g x) → l.filterMap f = l.filterMap g
  | [], _ => rfl
  | x :: l, h => by rw [List.filterMap_cons, List.filterMap_cons, h x List.mem_cons_self, fm_congr fun y hy => h y (List.mem_cons_of_mem _ hy)]
/-- a table whose keys stand in the order of the buttons -/
theorem fm_self {α β : Type} (f : Str → α → β) : ∀ {bs : List Str} {t : List (Str × α)}, bs.Nodup → (t.map (·.1)).Sublist bs → bs.filterMap (fun b => (t.lookup b).map (f b)) = t.map fun p => f p.1 p.2
  | [], t, _, h => by
    have := List.sublist_nil.mp h
    rw [List.map_eq_nil_iff.mp this]
    rfl
  | b :: bs, [], nd, _ => by
    rw [List.filterMap_eq_nil_iff.mpr fun x _ => by rfl]
    rfl
  | b :: bs, p :: t, nd, h => by
    rw [List.nodup_cons] at nd
    rw [List.map_cons] at h
    cases h with
    | cons _ h =>
      have hb : (p :: t).lookup b = none := look_none fun m => nd.1 (h.subset m)
      rw [List.filterMap_cons, hb]
      exact fm_self f (t := p :: t) nd.2 h
    | cons_cons _ h =>
      obtain ⟨k, a⟩ := p
      have h0 : ((k, a) :: t).lookup k = some a := by simp [List.lookup]
      rw [List.filterMap_cons, h0]
      have e : bs.filterMap (fun b => (((k, a) :: t).lookup b).map (f b)) = bs.filterMap (fun b => (t.lookup b).map (f b)) := by
        refine fm_congr fun b hb => ?_
        have : (b == k) = false := beq_eq_false_iff_ne.mpr fun z => nd.1 (z ▸ hb)
        simp only [List.lookup, this]
      show f k a :: _ = f k a :: _
      rw [e, fm_self f nd.2 h]
theorem look_han {o : Int} {b : Str} : ∀ {t : Tbl}, (hanT o t).lookup b = (t.lookup b).map fun s => (s.1, ordL o s.2)
  | [] => rfl
  | (k, s) :: t => by
    have ih := look_han (o := o) (b := b) (t := t)
    show List.lookup b ((k, (s.1, ordL o s.2)) :: hanT o t) = _
    cases h : (b == k) with
    | true => simp only [List.lookup, h]; rfl
    | false => simp only [List.lookup, h]; exact ih
theorem sub_self : ∀ {ls l : List Str}, ls.Nodup → l.Sublist ls → ls.filter (fun x => decide (x ∈ l)) = l
  | [], l, _, h => by rw [List.sublist_nil.mp h]; rfl
  | b :: ls, [], nd, _ => by rw [List.filter_eq_nil_iff.mpr fun x _ => by simp]
  | b :: ls, y :: l, nd, h => by
    rw [List.nodup_cons] at nd
    cases h with
    | cons _ h =>
      have : b ∉ y :: l := fun m => nd.1 (h.subset m)
      rw [List.filter_cons, decide_eq_false this]
      exact sub_self (l := y :: l) nd.2 h
    | cons_cons _ h =>
      rw [List.filter_cons, decide_eq_true List.mem_cons_self]
      have e : ls.filter (fun x => decide (x ∈ b :: l)) = ls.filter (fun x => decide (x ∈ l)) := List.filter_congr fun x hx => by
        have : x ≠ b := fun z => nd.1 (z ▸ hx)
        simp [this]
      rw [if_pos rfl, e, sub_self nd.2 h]
theorem lit_han {ls : List Str} {o a : Int} {l : List Str} (nd : ls.Nodup) (h : l.Sublist ls) : litOf ls (a, ordL o l) = l := by
  unfold litOf
  rw [← sub_self nd h]
  refine List.filter_congr fun x _ => ?_
  rw [sub_self nd h]
  exact decide_eq_decide.mpr mem_ordL
/-- the device made of what is handed in has the law's steps -/
theorem norm_han {bs ls : List Str} {many : Nat} {t : Tbl} {o : Int} (nb : bs.Nodup) (nl : ls.Nodup) (h : lawT bs ls many t) : normT bs ls (hanT o t) = t := by
  unfold normT
  have e : bs.filterMap (fun b => ((hanT o t).lookup b).map fun s => (b, (s.1, litOf ls s))) = bs.filterMap (fun b => (t.lookup b).map fun s => (b, s)) := by
    refine fm_congr fun b _ => ?_
    rw [look_han]
    cases hl : t.lookup b with
    | none => rfl
    | some s =>
      show some (b, (s.1, litOf ls (s.1, ordL o s.2))) = some (b, s)
      rw [lit_han nl (h.2 _ (look_mem hl)).2]
  rw [e, fm_self (fun b s => (b, s)) nb h.1]
  exact List.map_id _
theorem due_states (d : Dv) (c : Cz) : valG [((.inr (Str.ofString "states") : Key), intsD (sset c.ss)), (.inr (Str.ofString "lamps"), dS (cho d.ls c.lx)), (.inr (Str.ofString "buttons"), dS (cho d.bs c.bx))] (.inr (Str.ofString "states") : Key) = some (intsD (sset c.ss)) := rfl
theorem due_lamps (d : Dv) (c : Cz) : valG [((.inr (Str.ofString "states") : Key), intsD (sset c.ss)), (.inr (Str.ofString "lamps"), dS (cho d.ls c.lx)), (.inr (Str.ofString "buttons"), dS (cho d.bs c.bx))] (.inr (Str.ofString "lamps") : Key) = some (dS (cho d.ls c.lx)) := rfl
theorem due_buttons (d : Dv) (c : Cz) : valG [((.inr (Str.ofString "states") : Key), intsD (sset c.ss)), (.inr (Str.ofString "lamps"), dS (cho d.ls c.lx)), (.inr (Str.ofString "buttons"), dS (cho d.bs c.bx))] (.inr (Str.ofString "buttons") : Key) = some (dS (cho d.bs c.bx)) := rfl
theorem cho_self {known : List Str} {x : Option (List Str)} : known.filter (fun l => decide (l ∈ cho known x)) = cho known x := by
  cases x with
  | none => exact List.filter_eq_self.mpr fun a ha => decide_eq_true ha
  | some xs =>
    show known.filter (fun l => decide (l ∈ known.filter fun l => decide (l ∈ xs))) = known.filter fun l => decide (l ∈ xs)
    refine List.filter_congr fun a ha => decide_eq_decide.mpr ?_
    rw [List.mem_filter, decide_eq_true_iff]
    exact ⟨fun h => h.2, fun h => ⟨ha, h⟩⟩
section
variable {P : Program} {w : World} {K : PySem.W.Frag} {mg : Str → Option Value} {base : Heap}
def F_ldue : FnW := fun os Φ _ => ∃ (d : Dv) (o : Int) (c : Cz), os = [.fz (worldD d o), .fz (czD c)] ∧ d.bs.length ≤ 1000 ∧ d.ls.length ≤ 1000 ∧ c.ss.length < 64 ∧ Φ (dueO d c) os
theorem f__law_due_len {os : List Ot} {Φ : Ot → List Ot → Prop} {Ψ : XW} (h : F_ldue os Φ Ψ) : os.length = 2 := by
  obtain ⟨_, _, _, e, _⟩ := h
  rw [e]; rfl
theorem ok_ldue (T : Txt K mg) : Kv SL P w K mg base 1 0 "_law_due" P__law_due F_ldue := by
  refine kv_of0 (fun i => ([] : List Nat).contains i) T.d__law_due sc__law_due (fun _ _ _ _ _ _ us hl => match us, hl with | [_, _], _ => rfl) ?hl fun f cdv A outer s H E hr => ?_
  case hl => intro os Φ Ψ h; exact f__law_due_len h
  have st0 : ∀ o0 o1 : Ot, stO0 N__law_due [o0, o1] = [o0, o1, .no, .no, .no] := fun _ _ => rfl
  have hu := hu_of hr
  refine ⟨_, _, pss_cons (ps_setLc (i := 2) (own := [("_law_one", 3)]) (g := gName 3) rfl sc__law_due.nd rfl rfl (sw_true rfl rfl rfl (by decide +kernel)) (ki_list K (pe_dget hu (pv 0) pe_str (fun _ _ => rfl))) (blkOk_by (own := [("_law_one", 3)]) (N := N__law_due) (sc := defScope s__law_due) (by first | decide +kernel | rfl)) (fun _ _ _ _ _ => pg_name (i := 3) sc__law_due.nd rfl (Or.inl rfl)) (fun _ _ _ _ _ => pts_one (PW.pt (pw_or (pt_cmpR op_isN (pe_dget hu (pv 1) pe_str (fun _ _ => rfl)) pe_non (nomark _)) (pw_or1 (pt_cmpR (k_in K) (pv 3) (pe_dget hu (pv 1) pe_str (fun _ _ => rfl)) rfl))))) (fun _ _ _ _ _ => pv 3))
  (pss_cons (ps_setLc (i := 4) (own := [("_law_one", 3)]) (g := gName 3) rfl sc__law_due.nd rfl rfl (sw_true rfl rfl rfl (by decide +kernel)) (ki_list K (pe_dget hu (pv 0) pe_str (fun _ _ => rfl))) (blkOk_by (own := [("_law_one", 3)]) (N := N__law_due) (sc := defScope s__law_due) (by first | decide +kernel | rfl)) (fun _ _ _ _ _ => pg_name (i := 3) sc__law_due.nd rfl (Or.inl rfl)) (fun _ _ _ _ _ => pts_one (PW.pt (pw_or (pt_cmpR op_isN (pe_dget hu (pv 1) pe_str (fun _ _ => rfl)) pe_non (nomark _)) (pw_or1 (pt_cmpR (k_in K) (pv 3) (pe_dget hu (pv 1) pe_str (fun _ _ => rfl)) rfl))))) (fun _ _ _ _ _ => pv 3))
  (pss_one (ps_ret (pe_dispN [Str.ofString "states", Str.ofString "lamps", Str.ofString "buttons"] [(Str.ofString "states", _), (Str.ofString "lamps", _), (Str.ofString "buttons", _)] rfl (pps_cons pe_str (pe_callB (cr_sortedSet rfl) (by rfl) T.f_sorted (by decide +kernel) (pa_cons (pe_callTy (cr_setL rfl) (by rfl) T.f_set (by decide +kernel) (pa_cons (pe_dget hu (pv 1) pe_str (fun _ _ => rfl)) pa_nil)) pa_nil)) (pps_cons pe_str (pv 2) (pps_cons pe_str (pv 4) pps_nil))) (by decide) (by decide) (by decide))))), VS.fit (s_seq (s_asg (v_lc (tg := .nm 3) (i_list (d_dg (d_var (i := 0)) (d_str))) (t_or (t_test (d_op lf_isN (d_dg (d_var (i := 1)) (d_str)) (d_non))) (t_test (d_op lf_inS (d_var (i := 3)) (d_dg (d_var (i := 1)) (d_str))))) (v_d (d_var (i := 3)))))
  (s_seq (s_asg (v_lc (tg := .nm 3) (i_list (d_dg (d_var (i := 0)) (d_str))) (t_or (t_test (d_op lf_isN (d_dg (d_var (i := 1)) (d_str)) (d_non))) (t_test (d_op lf_inS (d_var (i := 3)) (d_dg (d_var (i := 1)) (d_str))))) (v_d (d_var (i := 3)))))
  (s_ret (v_dispK (ks := [Str.ofString "states", Str.ofString "lamps", Str.ofString "buttons"]) (a_cons (v_sortSet (d_dg (d_var (i := 1)) (d_str))) (a_cons (v_mv (i := 2)) (a_cons (v_mv (i := 4)) (a_nil)))))))) ?hc rfl, fun os Φ Ψ hF => ?_⟩
  case hc => first | exact Nat.le_of_ble_eq_true rfl | (unfold FORN; omega)
  obtain ⟨d, o, ⟨ss, lx, bx⟩, rfl, hb, hl, hs, q⟩ := hF
  have hs : ss.length < 64 := hs
  refine ⟨rfl, ?_⟩
  rw [st0]
  walk_at "ga"
  refine e_dgS (wd_lamps d o) ?_
  walk_at "ga"
  refine lcD_map d.ls .str (fun l => decide (l ∈ cho d.ls lx)) .str rfl (fun l hl0 N1 N0 h1 h0 => ?_) ?_
  · walk_at "ga"
    refine e_dgS (cz_lamps ⟨ss, lx, bx⟩) ?_
    walk_at "ga"
    cases lx with
    | none =>
      rw [show optD none = Dt.non from rfl]
      refine (if_pos rfl).mpr ?_
      refine (if_pos rfl).mpr ?_
      walk_at "ga"
      exact h1 (decide_eq_true hl0)
    | some xs =>
      rw [show optD (some xs) = Dt.lst (xs.map .str) from rfl]
      refine (if_neg (fun z => by cases z)).mpr ?_
      walk_at "ga"
      refine e_dgS (show valG _ (.inr (Str.ofString "lamps") : Key) = some (Dt.lst (xs.map .str)) from rfl) ?_
      walk_at "ga"
      have em : l ∈ cho d.ls (some xs) ↔ l ∈ xs := by
        show l ∈ d.ls.filter (fun l => decide (l ∈ xs)) ↔ _
        rw [List.mem_filter, decide_eq_true_iff]
        exact ⟨fun h => h.2, fun h => ⟨hl0, h⟩⟩
      refine ite_d (fun c => ?_) (fun c => ?_)
      · walk_at "ga"
        exact h1 (decide_eq_true (em.mpr c))
      · exact h0 (decide_eq_false fun z => c (em.mp z))
  walk_at "ga"
  refine e_dgS (wd_buttons d o) ?_
  walk_at "ga"
  refine lcD_map d.bs .str (fun l => decide (l ∈ cho d.bs bx)) .str rfl (fun l hl0 N1 N0 h1 h0 => ?_) ?_
  · walk_at "ga"
    refine e_dgS (cz_buttons ⟨ss, lx, bx⟩) ?_
    walk_at "ga"
    cases bx with
    | none =>
      rw [show optD none = Dt.non from rfl]
      refine (if_pos rfl).mpr ?_
      refine (if_pos rfl).mpr ?_
      walk_at "ga"
      exact h1 (decide_eq_true hl0)
    | some xs =>
      rw [show optD (some xs) = Dt.lst (xs.map .str) from rfl]
      refine (if_neg (fun z => by cases z)).mpr ?_
      walk_at "ga"
      refine e_dgS (show valG _ (.inr (Str.ofString "buttons") : Key) = some (Dt.lst (xs.map .str)) from rfl) ?_
      walk_at "ga"
      have em : l ∈ cho d.bs (some xs) ↔ l ∈ xs := by
        show l ∈ d.bs.filter (fun l => decide (l ∈ xs)) ↔ _
        rw [List.mem_filter, decide_eq_true_iff]
        exact ⟨fun h => h.2, fun h => ⟨hl0, h⟩⟩
      refine ite_d (fun c => ?_) (fun c => ?_)
      · walk_at "ga"
        exact h1 (decide_eq_true (em.mpr c))
      · exact h0 (decide_eq_false fun z => c (em.mp z))
  walk_at "ga"
  refine e_dgS (cz_states ⟨ss, lx, bx⟩) ?_
  walk_at "ga"
  rw [cho_self, cho_self]
  exact q
end
section
variable {P : Program} {w : World} {K : PySem.W.Frag} {mg : Str → Option Value} {base : Heap}
def F_further : FnW := fun os Φ _ => ∃ cell size : Int, os = [.fz (.int cell), .fz (.int size)] ∧ 0 < size ∧ size ≤ 1000000000000000000000000000000000000000000000000000000000000000000000000000000000000000000 ∧ ∀ v, Φ (.fz (.int v)) os
theorem f__law_further_len {os : List Ot} {Φ : Ot → List Ot → Prop} {Ψ : XW} (h : F_further os Φ Ψ) : os.length = 2 := by
  obtain ⟨_, _, e, _⟩ := h
  rw [e]; rfl
theorem ok_further (T : Txt K mg) : Kv SL P w K mg base 1 0 "_law_further" P__law_further F_further := by
  refine kv_of0 (fun i => ([] : List Nat).contains i) T.d__law_further sc__law_further (fun _ _ _ _ _ _ us hl => match us, hl with | [_, _], _ => rfl) ?hl fun f cdv A outer s H E hr => ?_
  case hl => intro os Φ Ψ h; exact f__law_further_len h
  have st0 : ∀ o0 o1 : Ot, stO0 N__law_further [o0, o1] = [o0, o1, .no] := fun _ _ => rfl
  have hu := hu_of hr
  refine ⟨_, _, pss_cons (ps_set (i := 2) sc__law_further.nd rfl (Or.inl rfl) (pe_op op_fdivW (pe_callB call_abs (by rfl) T.f_abs (by decide +kernel) (pa_cons (pe_callTy call_int1 (by rfl) T.f_int (by decide +kernel) (pa_cons (pv 0) pa_nil)) pa_nil)) (pv 1)))
  (pss_cons (ps_if (pt_cmpR op_gt (pv 2) pe_int (nomark _)) (pss_one (ps_ret (pe_op op_add (pv 2) (pe_op op_pow pe_int pe_int)))) (pss_nil))
  (pss_one (ps_ret (pe_op op_add (pe_op op_mul (pe_callB call_abs (by rfl) T.f_abs (by decide +kernel) (pa_cons (pe_callTy call_int1 (by rfl) T.f_int (by decide +kernel) (pa_cons (pv 0) pa_nil)) pa_nil)) pe_int) pe_int)))), VS.fit (s_seq (s_asgD (d_op lf_divW (d_cb lc_abs (l_cons (d_cb lc_int (l_cons (d_var (i := 0)) (l_nil))) (l_nil))) (d_var (i := 1))))
  (s_seq (s_if (t_test (d_op lf_IB (d_var (i := 2)) (d_int))) (s_retD (d_op lf_II (d_var (i := 2)) (d_op lf_pow (d_int) (d_int)))) (s_next))
  (s_retD (d_op lf_II (d_op lf_mul (d_cb lc_abs (l_cons (d_cb lc_int (l_cons (d_var (i := 0)) (l_nil))) (l_nil))) (d_int)) (d_int))))) ?hc rfl, fun os Φ Ψ hF => ?_⟩
  case hc => first | exact Nat.le_of_ble_eq_true rfl | (unfold FORN; omega)
  obtain ⟨cell, size, rfl, h1, h2, q⟩ := hF
  refine ⟨rfl, ?_⟩
  rw [st0]
  walk_at "ga"
  refine ite_d (fun c => ?_) (fun c => ?_)
  · walk_at "ga"
    refine g_pow 1000000000000000000 (by decide) (by decide) ?_
    walk_at "ga"
    exact q _
  · walk_at "ga"
    exact q _
end
theorem stp_fzs : ∀ ds : List Dt, stpA (ds.map .fz) = ds.map .fz
  | [] => rfl
  | d :: ds => by rw [List.map_cons, stpA, stp_fzs ds]; rfl
theorem stp_tabs : ∀ ts : List Tbl, stpA (ts.map tabO) = ts.map tabO
  | [] => rfl
  | t :: ts => by
    have e : (t.map fun p => Ot.fz (valD p.2)) = (t.map fun p => valD p.2).map .fz := by rw [List.map_map]; rfl
    have e2 : (tabO t).stp = tabO t := by
      show Ot.stp (.dic _ _) = _
      rw [Ot.stp, e, stp_fzs, ← e]
    rw [List.map_cons, stpA, stp_tabs ts, e2]
theorem case_stp (K : PySem.W.Frag) (v : V) (D : Dt) (ps : List Int) (wl ul : List Str) (tb : List Tbl) : toD (caseO K (.av v (.fz D)) ps wl ul tb).stp = some (caseD K D ps wl ul tb) := by
  have e : (caseO K (.av v (.fz D)) ps wl ul tb).stp = caseO K (.fz D) ps wl ul tb := by
    show Ot.stp (.ins _ _ _) = _
    simp only [Ot.stp, stpA, stp_fzs, stp_tabs]
  rw [e]
  exact case_own (.inl rfl) _ _ _ _
theorem sx_av {ρ : List Ot} {k : Nat} {v : V} {e : Dt} (h : ρ[k]? = some (.av v (.fz e))) : Ot.sx ρ (.av v (.fz e)) := by
  unfold Ot.sx
  exact ⟨k, h⟩
theorem tabs_han {d : Dv} (dw : DwP d) (o : Int) (wl : List Str) : tabsOf (hanV d o) wl = d.ts.map (watT wl) := by
  unfold tabsOf
  show (d.ts.map (hanT o)).map _ = _
  rw [List.map_map]
  refine List.map_congr_left fun t ht => ?_
  show watT wl (normT d.bs d.ls (hanT o t)) = _
  rw [norm_han dw.bn.1 dw.ln.1 (dw.tt t ht)]
abbrev wlC (d : Dv) (c : Cz) : List Str := cho d.ls c.lx
abbrev ulC (d : Dv) (c : Cz) : List Str := cho d.bs c.bx
/-- the case's table -/
abbrev tbC (d : Dv) (c : Cz) : List Tbl := d.ts.map (watT (wlC d c))
/-- the case as it stands -/
abbrev casD (K : PySem.W.Frag) (d : Dv) (o : Int) (ts' : List Tbl) (c : Cz) : Dt := caseD K (devD (cD K) (hanV d o) ts') (sset c.ss) (wlC d c) (ulC d c) (tbC d c)
section
variable {P : Program} {w : World} {K : PySem.W.Frag} {mg : Str → Option Value} {base : Heap}
/-- what is handed in, of a world whose lamps may stand in any order -/
structure CzW (d : Dv) (c : Cz) : Prop where
  s6 : c.ss.length ≤ 20
  st : ∀ s ∈ c.ss, 0 ≤ s ∧ s < (d.ts.length : Int)
  ll : ∀ xs, c.lx = some xs → xs.length ≤ 20 ∧ ∀ x ∈ xs, x ∈ d.ls
  bl : ∀ xs, c.bx = some xs → xs.length ≤ 20 ∧ ∀ x ∈ xs, x ∈ d.bs
def F_builtG (K : PySem.W.Frag) : FnW := fun os Φ _ => ∃ (d : Dv) (o : Int) (c : Cz), os = [.fz (worldD d o), .fz (czD c)] ∧ (hanV d o).ok ∧ d.ts.length ≤ 20 ∧ CzW d c ∧ ∀ ts', permT ts' (hanV d o).ts → Φ (.fz (caseD K (devD (cD K) (hanV d o) ts') (sset c.ss) (wlC d c) (ulC d c) (tabsOf (hanV d o) (wlC d c)))) os
theorem f__law_built_len {os : List Ot} {Φ : Ot → List Ot → Prop} {Ψ : XW} (h : F_builtG K os Φ Ψ) : os.length = 2 := by
  obtain ⟨_, _, _, e, _⟩ := h
  rw [e]; rfl
theorem ok_builtG (T : Txt K mg) : Kv SL P w K mg base 8 0 "_law_built" P__law_built (F_builtG K) := by
  have G_Case___init__ := ok_cinit (P := P) (w := w) (base := base) T
  have G_mk_Case_2 := kmr_of T.d_Case___init__ G_Case___init__ 2 [] [("lamps" : Str), ("buttons" : Str)] [0, 1, 2, 3] (by decide) (by decide) (fun _ _ _ _ _ _ us mv ws h1 h2 h3 => match us, mv, ws, h1, h2, h3 with | [_, _, _], [_, _], [], _, _, _ => ⟨_, _, _, _, _, _, rfl, rfl, ⟨_, _, _, _, _, _, rfl, rfl, rfl⟩⟩)
  have G_mk_Case_2_buttons_lamps := kmr_of T.d_Case___init__ G_Case___init__ 2 [("buttons" : Str), ("lamps" : Str)] [] [0, 1, 3, 2] (by decide) (by decide) (fun _ _ _ _ _ _ us mv ws h1 h2 h3 => match us, mv, ws, h1, h2, h3 with | [_, _, _], [], [_, _], _, _, _ => rfl)
  have G_mk_Case_2_lamps := kmr_of T.d_Case___init__ G_Case___init__ 2 [("lamps" : Str)] [("buttons" : Str)] [0, 1, 2, 3] (by decide) (by decide) (fun _ _ _ _ _ _ us mv ws h1 h2 h3 => match us, mv, ws, h1, h2, h3 with | [_, _, _], [_], [_], _, _, _ => ⟨_, _, _, _, _, _, rfl, rfl, rfl⟩)
  have G_mk_Case_0_states_device_buttons := kmr_of T.d_Case___init__ G_Case___init__ 0 [("states" : Str), ("device" : Str), ("buttons" : Str)] [("lamps" : Str)] [1, 0, 3, 2] (by decide) (by decide) (fun _ _ _ _ _ _ us mv ws h1 h2 h3 => match us, mv, ws, h1, h2, h3 with | [_], [_], [_, _, _], _, _, _ => ⟨_, _, _, _, _, _, rfl, rfl, rfl⟩)
  have G_Device___init__ := ok_init (P := P) (w := w) (base := base) T
  refine kv_of0 (fun i => ([] : List Nat).contains i) T.d__law_built sc__law_built (fun _ _ _ _ _ _ us hl => match us, hl with | [_, _], _ => rfl) ?hl fun f cdv A outer s H E hr => ?_
  case hl => intro os Φ Ψ h; exact f__law_built_len h
  have st0 : ∀ o0 o1 : Ot, stO0 N__law_built [o0, o1] = [o0, o1, .no, .no] := fun _ _ => rfl
  have hu := hu_of hr
  refine ⟨_, _, pss_cons (ps_set (i := 2) sc__law_built.nd rfl (Or.inl rfl) (k_make G_Device___init__ hr (by omega) (pa_cons (pe_callTy (k_list K) (by rfl) T.f_list (by decide +kernel) (pa_cons (pe_dget hu (pv 0) pe_str (fun _ _ => rfl)) pa_nil)) (pa_cons (pe_callTy (k_list K) (by rfl) T.f_list (by decide +kernel) (pa_cons (pe_dget hu (pv 0) pe_str (fun _ _ => rfl)) pa_nil)) (pa_cons (pe_dget hu (pv 0) pe_str (fun _ _ => rfl)) pa_nil))) T.g_Device))
  (pss_cons (ps_set (i := 3) sc__law_built.nd rfl (Or.inl rfl) (pe_callTy (k_list K) (by rfl) T.f_list (by decide +kernel) (pa_cons (pe_dget hu (pv 1) pe_str (fun _ _ => rfl)) pa_nil)))
  (pss_cons (ps_if (PW.pt (pw_and (pt_cmpR op_isN (pe_dget hu (pv 1) pe_str (fun _ _ => rfl)) pe_non (nomark _)) (pw_and1 (pt_cmpR op_isN (pe_dget hu (pv 1) pe_str (fun _ _ => rfl)) pe_non (nomark _))))) (pss_one (ps_ret (k_makeK G_mk_Case_2 hr (by omega) takes0 (pa_cons (pv 2) (pa_cons (pv 3) pa_nil)) pk_nil T.g_Case))) (pss_nil))
  (pss_cons (ps_if (pt_cmpR op_isN (pe_dget hu (pv 1) pe_str (fun _ _ => rfl)) pe_non (nomark _)) (pss_one (ps_ret (k_makeK0 G_mk_Case_0_states_device_buttons hr (by omega) takes0 (pk_cons (pv 3) (pk_cons (pv 2) (pk_cons (pe_callTy (k_list K) (by rfl) T.f_list (by decide +kernel) (pa_cons (pe_dget hu (pv 1) pe_str (fun _ _ => rfl)) pa_nil)) pk_nil))) T.g_Case))) (pss_nil))
  (pss_cons (ps_if (pt_cmpR op_isN (pe_dget hu (pv 1) pe_str (fun _ _ => rfl)) pe_non (nomark _)) (pss_one (ps_ret (k_makeK G_mk_Case_2_lamps hr (by omega) takes0 (pa_cons (pv 2) (pa_cons (pv 3) pa_nil)) (pk_cons (pe_callTy (k_list K) (by rfl) T.f_list (by decide +kernel) (pa_cons (pe_dget hu (pv 1) pe_str (fun _ _ => rfl)) pa_nil)) pk_nil) T.g_Case))) (pss_nil))
  (pss_one (ps_ret (k_makeK G_mk_Case_2_buttons_lamps hr (by omega) takes0 (pa_cons (pv 2) (pa_cons (pv 3) pa_nil)) (pk_cons (pe_callTy (k_list K) (by rfl) T.f_list (by decide +kernel) (pa_cons (pe_dget hu (pv 1) pe_str (fun _ _ => rfl)) pa_nil)) (pk_cons (pe_callTy (k_list K) (by rfl) T.f_list (by decide +kernel) (pa_cons (pe_dget hu (pv 1) pe_str (fun _ _ => rfl)) pa_nil)) pk_nil)) T.g_Case))))))), VS.fit (s_seq (s_asgD (d_fq (v_make (a_cons (v_d (d_cb lc_list (l_cons (d_dg (d_var (i := 0)) (d_str)) (l_nil)))) (a_cons (v_d (d_cb lc_list (l_cons (d_dg (d_var (i := 0)) (d_str)) (l_nil)))) (a_cons (v_d (d_dg (d_var (i := 0)) (d_str))) (a_nil)))))))
  (s_seq (s_asgD (d_cb lc_list (l_cons (d_dg (d_var (i := 1)) (d_str)) (l_nil))))
  (s_seq (s_if (t_and (t_test (d_op lf_isN (d_dg (d_var (i := 1)) (d_str)) (d_non))) (t_test (d_op lf_isN (d_dg (d_var (i := 1)) (d_str)) (d_non)))) (s_retD (d_fq (v_avf (i := 2) (v_makeS0 (a_cons (v_cpy (i := 2)) (a_cons (v_d (d_var (i := 3))) (a_nil))) (a_nil))))) (s_next))
  (s_seq (s_if (t_test (d_op lf_isN (d_dg (d_var (i := 1)) (d_str)) (d_non))) (s_retD (d_fq (v_avf (i := 2) (v_makeS0 (a_nil) (a_cons (v_d (d_var (i := 3))) (a_cons (v_cpy (i := 2)) (a_cons (v_d (d_cb lc_list (l_cons (d_dg (d_var (i := 1)) (d_str)) (l_nil)))) (a_nil)))))))) (s_next))
  (s_seq (s_if (t_test (d_op lf_isN (d_dg (d_var (i := 1)) (d_str)) (d_non))) (s_retD (d_fq (v_avf (i := 2) (v_makeS0 (a_cons (v_cpy (i := 2)) (a_cons (v_d (d_var (i := 3))) (a_nil))) (a_cons (v_d (d_cb lc_list (l_cons (d_dg (d_var (i := 1)) (d_str)) (l_nil)))) (a_nil)))))) (s_next))
  (s_retD (d_fq (v_avf (i := 2) (v_makeS0 (a_cons (v_cpy (i := 2)) (a_cons (v_d (d_var (i := 3))) (a_nil))) (a_cons (v_d (d_cb lc_list (l_cons (d_dg (d_var (i := 1)) (d_str)) (l_nil)))) (a_cons (v_d (d_cb lc_list (l_cons (d_dg (d_var (i := 1)) (d_str)) (l_nil)))) (a_nil)))))))))))) ?hc rfl, fun os Φ Ψ hF => ?_⟩
  case hc => first | exact Nat.le_of_ble_eq_true rfl | (unfold FORN; omega)
  obtain ⟨d, o, c, rfl, hok, tl, cp, q⟩ := hF
  have s6 := cp.s6
  refine ⟨rfl, ?_⟩
  rw [st0]
  walk_at "ga"
  refine e_dgS (wd_buttons d o) ?_
  walk_at "ga"
  refine e_dgS (wd_lamps d o) ?_
  walk_at "ga"
  refine e_dgS (wd_given d o) ?_
  walk_at "ga"
  refine ⟨hanV d o, rfl, hok, fun ts' hp => ?_⟩
  refine ⟨rfl, _, _, rfl, _, devD (cD K) (hanV d o) ts', rfl, by simp only [toD, toDs, toDs_fz, Option.map_some]; rfl, ?_⟩
  have ein : initR (hanV d o) c.ss c.lx c.bx = .ok (wlC d c, ulC d c) := by
    rw [init_st fun z hz => by rw [List.length_map]; exact cp.st z hz]
    rw [chosen_cho (known := (hanV d o).ls) fun xs e => (cp.ll xs e).2, chosen_cho (known := (hanV d o).bs) fun xs e => (cp.bl xs e).2]
  walk_at "ga"
  refine e_dgS (cz_states c) ?_
  walk_at "ga"
  have s64 : c.ss.length < 64 := by omega
  have fin2 : Φ (.fz (caseD K (devD (cD K) (hanV d o) ts') (sset c.ss) (wlC d c) (ulC d c) (tabsOf (hanV d o) (wlC d c)))) [.fz (worldD d o), .fz (czD c)] := by
    exact q ts' hp
  cases hlx : c.lx with
  | none =>
    cases hbx : c.bx with
    | none =>
      rw [hlx, hbx] at ein
      walk_at "go"
      refine e_dgS (cz_lamps c) ?_
      rw [hlx]
      walk_at "go"
      refine (if_pos rfl).mpr ?_
      walk_at "go"
      refine e_dgS (cz_buttons c) ?_
      rw [hbx]
      walk_at "go"
      refine (if_pos rfl).mpr ?_
      walk_at "go"
      intro v
      walk_at "ga"
      refine ⟨hanV d o, ts', _, c.ss, none, none, rfl, .inr ⟨v, rfl⟩, hok, hp, s64, ?_⟩
      rw [ein]
      refine ⟨rfl, _, _, rfl, case_sx (sx_av (k := 2) rfl) _ _ _ _, _, rfl, _, _, rfl, case_stp _ _ _ _ _ _ _, ?_⟩
      walk_at "ga"
      exact fin2
    | some bs =>
      rw [hlx, hbx] at ein
      walk_at "go"
      refine e_dgS (cz_lamps c) ?_
      rw [hlx]
      walk_at "go"
      refine (if_pos rfl).mpr ?_
      walk_at "go"
      refine e_dgS (cz_buttons c) ?_
      rw [hbx]
      walk_at "go"
      refine (if_neg (fun z => by cases z)).mpr ?_
      walk_at "go"
      refine e_dgS (cz_lamps c) ?_
      rw [hlx]
      walk_at "go"
      refine (if_pos rfl).mpr ?_
      walk_at "go"
      intro v
      walk_at "ga"
      refine e_dgS (cz_buttons c) ?_
      rw [hbx, show optD (some bs) = .lst (bs.map .str) from rfl]
      walk_at "ga"
      refine ⟨hanV d o, ts', _, c.ss, none, (some bs), rfl, .inr ⟨v, rfl⟩, hok, hp, s64, ?_⟩
      rw [ein]
      refine ⟨rfl, _, _, rfl, case_sx (sx_av (k := 2) rfl) _ _ _ _, _, rfl, _, _, rfl, case_stp _ _ _ _ _ _ _, ?_⟩
      walk_at "ga"
      exact fin2
  | some ls =>
    cases hbx : c.bx with
    | none =>
      rw [hlx, hbx] at ein
      walk_at "go"
      refine e_dgS (cz_lamps c) ?_
      rw [hlx]
      walk_at "go"
      refine (if_neg (fun z => by cases z)).mpr ?_
      walk_at "go"
      refine e_dgS (cz_lamps c) ?_
      rw [hlx]
      walk_at "go"
      refine (if_neg (fun z => by cases z)).mpr ?_
      walk_at "go"
      refine e_dgS (cz_buttons c) ?_
      rw [hbx]
      walk_at "go"
      refine (if_pos rfl).mpr ?_
      walk_at "go"
      intro v
      walk_at "ga"
      refine e_dgS (cz_lamps c) ?_
      rw [hlx, show optD (some ls) = .lst (ls.map .str) from rfl]
      walk_at "ga"
      refine ⟨hanV d o, ts', _, c.ss, (some ls), none, rfl, .inr ⟨v, rfl⟩, hok, hp, s64, ?_⟩
      rw [ein]
      refine ⟨rfl, _, _, rfl, case_sx (sx_av (k := 2) rfl) _ _ _ _, _, rfl, _, _, rfl, case_stp _ _ _ _ _ _ _, ?_⟩
      walk_at "ga"
      exact fin2
    | some bs =>
      rw [hlx, hbx] at ein
      walk_at "go"
      refine e_dgS (cz_lamps c) ?_
      rw [hlx]
      walk_at "go"
      refine (if_neg (fun z => by cases z)).mpr ?_
      walk_at "go"
      refine e_dgS (cz_lamps c) ?_
      rw [hlx]
      walk_at "go"
      refine (if_neg (fun z => by cases z)).mpr ?_
      walk_at "go"
      refine e_dgS (cz_buttons c) ?_
      rw [hbx]
      walk_at "go"
      refine (if_neg (fun z => by cases z)).mpr ?_
      walk_at "go"
      intro v
      walk_at "ga"
      refine e_dgS (cz_buttons c) ?_
      rw [hbx, show optD (some bs) = .lst (bs.map .str) from rfl]
      walk_at "ga"
      refine e_dgS (cz_lamps c) ?_
      rw [hlx, show optD (some ls) = .lst (ls.map .str) from rfl]
      walk_at "ga"
      refine ⟨hanV d o, ts', _, c.ss, (some ls), (some bs), rfl, .inr ⟨v, rfl⟩, hok, hp, s64, ?_⟩
      rw [ein]
      refine ⟨rfl, _, _, rfl, case_sx (sx_av (k := 2) rfl) _ _ _ _, _, rfl, _, _, rfl, case_stp _ _ _ _ _ _ _, ?_⟩
      walk_at "ga"
      exact fin2
def F_built (K : PySem.W.Frag) : FnW := fun os Φ _ => ∃ (d : Dv) (o : Int) (c : Cz), os = [.fz (worldD d o), .fz (czD c)] ∧ DwP d ∧ CzW d c ∧ ∀ ts', permT ts' (hanV d o).ts → Φ (.fz (casD K d o ts' c)) os
theorem ok_built (T : Txt K mg) : Kv SL P w K mg base 8 0 "_law_built" P__law_built (F_built K) :=
  (ok_builtG T).imp (fun os Φ Ψ ⟨d, o, c, e, dw, cw, q⟩ => ⟨d, o, c, e, dw.hok o, by have := dw.tl; omega, cw, fun ts' hp => by rw [tabs_han dw]; exact q ts' hp⟩) (Nat.le_refl _)
end
/-- two tables agree, button by button, by c -/
def sameG (c : Stp → Stp → Bool) (t u : Tbl) : Bool := t.length == u.length && t.all fun p => match u.lookup p.1 with
  | some s => c p.2 s
  | none => false
theorem sameG_iff {c : Stp → Stp → Bool} {t u : Tbl} (nt : (t.map (·.1)).Nodup) (nu : (u.map (·.1)).Nodup) : sameG c t u = true ↔ ∀ k, match t.lookup k, u.lookup k with
    | none, none => True
    | some s, some s' => c s s' = true
    | _, _ => False := by
  unfold sameG
  rw [Bool.and_eq_true, List.all_eq_true, beq_iff_eq]
  constructor
  · intro ⟨hl, ha⟩ k
    cases e : t.lookup k with
    | some s =>
      have := ha _ (look_mem e)
      cases e2 : u.lookup k with
      | some s' => rw [e2] at this; exact this
      | none => rw [e2] at this; cases this
    | none =>
      cases e2 : u.lookup k with
      | none => exact True.intro
      | some s' =>
        have sub : ∀ x ∈ k :: t.map (·.1), x ∈ u.map (·.1) := fun x hx => by
          rcases List.mem_cons.mp hx with rfl | hx
          · exact List.mem_map.mpr ⟨_, look_mem e2, rfl⟩
          · obtain ⟨p, hp, rfl⟩ := List.mem_map.mp hx
            have := ha p hp
            cases e3 : u.lookup p.1 with
            | some z => exact List.mem_map.mpr ⟨_, look_mem e3, rfl⟩
            | none => rw [e3] at this; cases this
        have nd : (k :: t.map (·.1)).Nodup := by
          refine List.nodup_cons.mpr ⟨fun h => ?_, nt⟩
          obtain ⟨p, hp, rfl⟩ := List.mem_map.mp h
          rw [look_of nt hp] at e
          cases e
        have := nodup_sub nd sub
        rw [List.length_cons, List.length_map, List.length_map] at this
        omega
  · intro h
    have one : ∀ {t u : Tbl}, (t.map (·.1)).Nodup → (∀ k, (t.lookup k).isSome = true → (u.lookup k).isSome = true) → t.length ≤ u.length := fun {t u} nt h => by
      have := nodup_sub (ys := u.map (·.1)) nt fun x hx => by
        obtain ⟨p, hp, rfl⟩ := List.mem_map.mp hx
        have := h p.1 (by rw [look_of nt hp]; rfl)
        obtain ⟨s, hs⟩ := Option.isSome_iff_exists.mp this
        exact List.mem_map.mpr ⟨_, look_mem hs, rfl⟩
      rwa [List.length_map, List.length_map] at this
    refine ⟨Nat.le_antisymm (one nt fun k hk => ?_) (one nu fun k hk => ?_), fun p hp => ?_⟩
    · have := h k
      obtain ⟨s, hs⟩ := Option.isSome_iff_exists.mp hk
      rw [hs] at this
      cases e : u.lookup k with
      | some z => rfl
      | none => rw [e] at this; exact this.elim
    · have := h k
      obtain ⟨s, hs⟩ := Option.isSome_iff_exists.mp hk
      rw [hs] at this
      cases e : t.lookup k with
      | some z => rfl
      | none => rw [e] at this; exact this.elim
    · have := h p.1
      rw [look_of nt hp] at this
      cases e : u.lookup p.1 with
      | some z => rw [e] at this; exact this
      | none => rw [e] at this; exact this.elim
def keyC (c : Stp → Stp → Bool) (t u : Tbl) : Key → Bool
  | .inr x => (match t.lookup x, u.lookup x with
    | some s, some s' => c s s'
    | _, _ => false)
  | .inl _ => false
theorem keyC_at {c : Stp → Stp → Bool} {t u : Tbl} {x : Str} {s s' : Stp} (h1 : t.lookup x = some s) (h2 : u.lookup x = some s') : keyC c t u (.inr x) = c s s' := by
  simp only [keyC, h1, h2]
/-- the dicts of two tables compared -/
theorem eq_tbl {m : Nat} {c : Stp → Stp → Bool} {g g' : Stp → Dt} (hc : ∀ s s', EqR m (g s) (g' s') (c s s')) {t u : Tbl} (nt : (t.map (·.1)).Nodup) :
    EqR (m + 1) (.dic (t.map fun p => ((.inr p.1 : Key), g p.2))) (.dic (u.map fun p => ((.inr p.1 : Key), g' p.2))) (sameG c t u) := by
  have nk : ((t.map fun p => ((Sum.inr p.1 : Key), g p.2)).map (·.1)).Nodup := by
    rw [List.map_map]
    rw [show (t.map ((fun p : Key × Dt => p.1) ∘ fun p : Str × Stp => ((Sum.inr p.1 : Key), g p.2))) = (t.map (·.1)).map Sum.inr by rw [List.map_map]; rfl]
    exact List.Pairwise.map _ (fun a b h e => h (Sum.inr.inj e)) nt
  have h := EqR.dic (n := m) (ks := t.map fun p => ((Sum.inr p.1 : Key), g p.2)) (ls := u.map fun p => ((Sum.inr p.1 : Key), g' p.2)) (f := keyC c t u) nk fun k x y hk hy => by
    obtain ⟨p, hp, e⟩ := List.mem_map.mp hk
    cases e
    rw [val_map] at hy
    cases e2 : u.lookup p.1 with
    | none => rw [e2] at hy; cases hy
    | some s' =>
      rw [e2] at hy
      cases hy
      rw [keyC_at (look_of nt hp) e2]
      exact hc _ _
  have e : (((t.map fun p => ((Sum.inr p.1 : Key), g p.2)).length == (u.map fun p => ((Sum.inr p.1 : Key), g' p.2)).length) && (t.map fun p => ((Sum.inr p.1 : Key), g p.2)).all fun p => (valG (u.map fun p => ((Sum.inr p.1 : Key), g' p.2)) p.1).isSome && keyC c t u p.1) = sameG c t u := by
    unfold sameG
    rw [List.length_map, List.length_map, List.all_map]
    refine congrArg _ ?_
    rw [Bool.eq_iff_iff, List.all_eq_true, List.all_eq_true]
    refine forall_congr' fun p => forall_congr' fun hp => ?_
    show ((valG (u.map fun p => ((Sum.inr p.1 : Key), g' p.2)) (.inr p.1)).isSome && keyC c t u (.inr p.1)) = true ↔ _
    rw [val_map]
    cases e2 : u.lookup p.1 with
    | none => exact ⟨fun z => (by cases z), fun z => (by cases z)⟩
    | some s' =>
      rw [keyC_at (look_of nt hp) e2]
      exact Iff.rfl
  rw [e] at h
  exact h
/-- .. and lists of them -/
def tabsG (c : Stp → Stp → Bool) (a b : List Tbl) : Bool := a.length == b.length && (List.range a.length).all fun i => sameG c (a.getD i []) (b.getD i [])
theorem eq_tabs {m : Nat} {c : Stp → Stp → Bool} {g g' : Stp → Dt} (hc : ∀ s s', EqR m (g s) (g' s') (c s s')) {a b : List Tbl} (na : ∀ t ∈ a, (t.map (·.1)).Nodup) :
    EqR (m + 1 + 1) (.lst (a.map fun t => .dic (t.map fun p => ((.inr p.1 : Key), g p.2)))) (.lst (b.map fun t => .dic (t.map fun p => ((.inr p.1 : Key), g' p.2)))) (tabsG c a b) := by
  unfold tabsG
  by_cases hl : a.length = b.length
  · have h := EqR.lst (n := m + 1) (ds := a.map fun t => Dt.dic (t.map fun p => ((.inr p.1 : Key), g p.2))) (es := b.map fun t => Dt.dic (t.map fun p => ((.inr p.1 : Key), g' p.2))) (f := fun i => sameG c (a.getD i []) (b.getD i [])) (by rw [List.length_map, List.length_map, hl]) fun j x y hx hy => by
      rw [List.getElem?_map] at hx hy
      cases e1 : a[j]? with
      | none => rw [e1] at hx; cases hx
      | some t =>
      cases e2 : b[j]? with
      | none => rw [e2] at hy; cases hy
      | some u =>
      rw [e1] at hx
      rw [e2] at hy
      cases hx
      cases hy
      have g1 : a.getD j [] = t := by rw [List.getD_eq_getElem?_getD, e1]; rfl
      have g2 : b.getD j [] = u := by rw [List.getD_eq_getElem?_getD, e2]; rfl
      rw [g1, g2]
      exact eq_tbl hc (na t (List.mem_of_getElem? e1))
    rw [List.length_map] at h
    rw [beq_iff_eq.mpr hl, Bool.true_and]
    exact h
  · rw [beq_eq_false_iff_ne.mpr hl, Bool.false_and]
    exact .lstN (by rw [List.length_map, List.length_map]; exact hl)
/-- tables as the law holds them -/
def sS (s s' : Stp) : Bool := decide (s = s')
theorem eq_stp (s s' : Stp) : EqR 2 (stpD s) (stpD s') (sS s s') := by
  have := EqR.pl (n := 2) (Enc.ok (α := Int × List Str) s) (Enc.ok (α := Int × List Str) s') (Enc.le (α := Int × List Str) s)
  rw [enc_dec] at this
  exact this
/-- a tuple of texts -/
structure TupS where
  l : List Str
instance : DecidableEq TupS := fun a b => if h : a.l = b.l then isTrue (by cases a; cases b; cases h; rfl) else isFalse fun e => h (by rw [e])
instance : Enc TupS := ⟨fun x => .tup (x.l.map Enc.d), fun x => .tuple (x.l.map Enc.p), fun x => by rw [toP, toPs_enc]; rfl, 1, fun x => by rw [PyData.depth]; have := dep_enc x.l; have e : Enc.dep Str = 0 := rfl; omega,
  fun x y => by rw [PyData.eqv]; exact (eqv_enc x.l y.l).trans ⟨fun e => by cases x; cases y; cases e; rfl, fun e => by rw [e]⟩⟩
/-- .. and as a device holds them -/
def sH (ls ls' : List Str) (s s' : Stp) : Bool := decide (s.1 = s'.1 ∧ litOf ls s = litOf ls' s')
theorem eq_held (ls ls' : List Str) (s s' : Stp) : EqR 2 (heldD ls s) (heldD ls' s') (sH ls ls' s s') := by
  have := EqR.pl (n := 2) (Enc.ok (α := Int × TupS) (s.1, ⟨litOf ls s⟩)) (Enc.ok (α := Int × TupS) (s'.1, ⟨litOf ls' s'⟩)) (Enc.le (α := Int × TupS) _)
  rw [enc_dec] at this
  have e : decide (((s.1, ⟨litOf ls s⟩) : Int × TupS) = (s'.1, ⟨litOf ls' s'⟩)) = sH ls ls' s s' := by
    unfold sH
    refine decide_eq_decide.mpr ⟨fun h => ?_, fun h => ?_⟩
    · exact ⟨congrArg (fun x : Int × TupS => x.1) h, congrArg (fun x : Int × TupS => x.2.l) h⟩
    · rw [h.1, h.2]
  rw [e] at this
  exact this
/-- .. by their parts -/
def eqV (a b : Dv) : Bool := decide (a.bs = b.bs) && (decide (a.ls = b.ls) && tabsG (sH a.ls b.ls) a.ts b.ts)
theorem getD_at {α : Type} {l : List (List α)} {i : Nat} (h : i < l.length) : ∃ t, l[i]? = some t ∧ l.getD i [] = t :=
  ⟨l[i], List.getElem?_eq_getElem h, by rw [List.getD_eq_getElem?_getD, List.getElem?_eq_getElem h]; rfl⟩
theorem sameG_perm {c : Stp → Stp → Bool} {t1 t2 u1 u2 : Tbl} (p1 : u1.Perm t1) (p2 : u2.Perm t2) (n1 : (t1.map (·.1)).Nodup) (n2 : (t2.map (·.1)).Nodup) : sameG c u1 u2 = sameG c t1 t2 := by
  rw [Bool.eq_iff_iff, sameG_iff ((p1.map _).nodup_iff.mpr n1) ((p2.map _).nodup_iff.mpr n2), sameG_iff n1 n2]
  refine forall_congr' fun k => ?_
  rw [look_perm p1 n1 k, look_perm p2 n2 k]
theorem tabsG_perm {c : Stp → Stp → Bool} {a b u1 u2 : List Tbl} (h1 : permT u1 a) (h2 : permT u2 b) (n1 : ∀ t ∈ a, (t.map (·.1)).Nodup) (n2 : ∀ t ∈ b, (t.map (·.1)).Nodup) : tabsG c u1 u2 = tabsG c a b := by
  unfold tabsG
  rw [h1.1, h2.1]
  by_cases hl : a.length = b.length
  · refine congrArg _ ?_
    rw [Bool.eq_iff_iff, List.all_eq_true, List.all_eq_true]
    refine forall_congr' fun i => forall_congr' fun hi => ?_
    have hi := List.mem_range.mp hi
    obtain ⟨t1, a1, b1⟩ := getD_at (l := a) hi
    obtain ⟨t2, a2, b2⟩ := getD_at (l := b) (i := i) (by omega)
    obtain ⟨x1, a3, b3⟩ := getD_at (l := u1) (i := i) (by rw [h1.1]; exact hi)
    obtain ⟨x2, a4, b4⟩ := getD_at (l := u2) (i := i) (by rw [h2.1]; omega)
    rw [b1, b2, b3, b4, sameG_perm (h1.2 i x1 t1 a3 a1) (h2.2 i x2 t2 a4 a2) (n1 t1 (List.mem_of_getElem? a1)) (n2 t2 (List.mem_of_getElem? a2))]
  · rw [beq_eq_false_iff_ne.mpr hl, Bool.false_and, Bool.false_and]
section
variable {P : Program} {w : World} {K : PySem.W.Frag} {mg : Str → Option Value} {base : Heap}
def F_eqGP (K : PySem.W.Frag) : FnW := fun os Φ _ => ∃ (v1 v2 : Dv) (u1 u2 : List Tbl), os = [.fz (devD (cD K) v1 u1), .fz (devD (cD K) v2 u2)] ∧ v1.ok ∧ v2.ok ∧ permT u1 v1.ts ∧ permT u2 v2.ts ∧ Φ (.fz (.bl (eqV v1 v2))) os
theorem f_Device___eq___len {K : PySem.W.Frag} {os : List Ot} {Φ : Ot → List Ot → Prop} {Ψ : XW} (h : F_eqGP K os Φ Ψ) : os.length = 2 := by
  obtain ⟨_, _, _, _, e, _⟩ := h
  rw [e]; rfl
theorem ok_eqGP (T : Txt K mg) : KvR SL P w K mg base 1 0 (fun g => Meth K (cD K) "__eq__" g) P_Device___eq__ (F_eqGP K) := by
  refine kvr_of0 (fun i => ([] : List Nat).contains i) T.d_Device___eq__ sc_Device___eq__ (fun _ _ _ _ _ _ us hl => match us, hl with | [_, _], _ => rfl) ?hl fun f cdv A outer s H E hr => ?_
  case hl => intro os Φ Ψ h; exact f_Device___eq___len h
  have st0 : ∀ o0 o1 : Ot, stO0 N_Device___eq__ [o0, o1] = [o0, o1] := fun _ _ => rfl
  have hu := hu_of hr
  refine ⟨_, _, pss_cons (ps_if (pt_not (pt_val (pe_callB (k_isi K) (by rfl) T.f_isinstance (by decide +kernel) (pa_cons (pv 1) (pa_cons (pe_glob (v := .ref (He.ga K "Device")) rfl T.g_Device rfl) pa_nil))))) (pss_one (ps_ret pe_bl)) (pss_nil))
  (pss_cons (ps_if (PW.pt (pw_or (pt_cmpR (k_neP K hr) (k_fld (pv 0)) (k_fld (pv 1)) (nomark _)) (pw_or1 (pt_cmpR (k_neP K hr) (k_fld (pv 0)) (k_fld (pv 1)) (nomark _))))) (pss_one (ps_ret pe_bl)) (pss_nil))
  (pss_one (ps_ret (pe_cmpR (k_eqR K hr) (k_fld (pv 0)) (k_fld (pv 1)) (nomark _))))), VS.fit (s_seq (s_if (t_not (t_B (d_isiC T.cl_Device T.i_Device (d_var (i := 1))))) (s_retD (d_bl)) (s_next))
  (s_seq (s_if (t_or (t_test (d_op lf_neP (d_fld T.cl_Device T.na_Device_button_names (d_var (i := 0))) (d_fld T.cl_Device T.na_Device_button_names (d_var (i := 1))))) (t_test (d_op lf_neP (d_fld T.cl_Device T.na_Device_lamp_names (d_var (i := 0))) (d_fld T.cl_Device T.na_Device_lamp_names (d_var (i := 1)))))) (s_retD (d_bl)) (s_next))
  (s_retD (d_op lf_eqR (d_fld T.cl_Device T.na_Device_steps (d_var (i := 0))) (d_fld T.cl_Device T.na_Device_steps (d_var (i := 1))))))) ?hc rfl, fun os Φ Ψ hF => ?_⟩
  case hc => first | exact Nat.le_of_ble_eq_true rfl | (unfold FORN; omega)
  obtain ⟨v1, v2, u1, u2, rfl, k1, k2, h1, h2, q⟩ := hF
  refine ⟨rfl, ?_⟩
  rw [st0]
  walk_at "gp"
  refine ⟨true, ⟨_, rfl, rfl⟩, ?_⟩
  walk_at "gp"
  unfold eqV at q
  refine if_m ((decide (v1.bs = v2.bs) && decide (v1.ls = v2.ls)) = false) ((decide (v1.bs = v2.bs) && decide (v1.ls = v2.ls)) = true) (fun N2 hA hB => ?_) (fun c => ?_) (fun c => ?_)
  · walk_at "gp"
    refine g_neE (α := List Str) v1.bs v2.bs (by decide) ?_
    walk_at "gp"
    refine ite_n (fun c => hA ?_) (fun c => ?_)
    · rw [decide_eq_false c, Bool.false_and]
    walk_at "gp"
    refine g_neE (α := List Str) v1.ls v2.ls (by decide) ?_
    cases h : decide (v1.ls = v2.ls) with
    | true => exact ⟨_, rfl, hB (by rw [decide_eq_true c, h]; rfl)⟩
    | false => exact ⟨_, rfl, hA (by rw [h, Bool.and_false])⟩
  · rw [← Bool.and_assoc, c, Bool.false_and] at q
    walk_at "gp"
    exact ⟨rfl, q⟩
  · rw [← Bool.and_assoc, c, Bool.true_and] at q
    walk_at "gp"
    refine g_eqR (eq_tabs (eq_held v1.ls v2.ls) fun t ht => ?_) (by decide) ?_
    · obtain ⟨i, hi, e⟩ := List.mem_iff_getElem.mp ht
      have i0 : i < v1.ts.length := h1.1 ▸ hi
      have p1 := h1.2 i t v1.ts[i] (by rw [List.getElem?_eq_getElem hi, e]) (List.getElem?_eq_getElem i0)
      exact (p1.map _).nodup_iff.mpr (k1.2.2.2 _ (List.getElem_mem i0)).1
    · rw [tabsG_perm h1 h2 (fun t ht => (k1.2.2.2 t ht).1) (fun t ht => (k2.2.2.2 t ht).1)]
      walk_at "gp"
      exact ⟨rfl, q⟩
abbrev eqC (v1 v2 : Dv) (p1 p2 : List Int) (w1 w2 b1 b2 : List Str) : Bool := eqV v1 v2 && (decide (p1 = p2) && (decide (w1 = w2) && decide (b1 = b2)))
/-- no case -/
def NoCase (K : PySem.W.Frag) (y : Dt) : Prop := (∃ n, tyD y = some n) ∨ ∃ fs, y = .ins (cD K) fs
def F_eqCG (K : PySem.W.Frag) : FnW := fun os Φ _ => ∃ (v1 : Dv) (u1 : List Tbl) (p1 : List Int) (w1 b1 : List Str) (t1 : List Tbl) (y : Dt), os = [.fz (caseD K (devD (cD K) v1 u1) p1 w1 b1 t1), .fz y] ∧ v1.ok ∧ permT u1 v1.ts ∧
  ((NoCase K y ∧ Φ (.fz (.bl false)) os) ∨ ∃ (v2 : Dv) (u2 : List Tbl) (p2 : List Int) (w2 b2 : List Str) (t2 : List Tbl), y = caseD K (devD (cD K) v2 u2) p2 w2 b2 t2 ∧ v2.ok ∧ permT u2 v2.ts ∧ Φ (.fz (.bl (eqC v1 v2 p1 p2 w1 w2 b1 b2))) os)
theorem f_Case___eq___len {K : PySem.W.Frag} {os : List Ot} {Φ : Ot → List Ot → Prop} {Ψ : XW} (h : F_eqCG K os Φ Ψ) : os.length = 2 := by
  obtain ⟨_, _, _, _, _, _, _, e, _⟩ := h
  rw [e]; rfl
theorem ok_eqCG (T : Txt K mg) : KvR SL P w K mg base 3 0 (fun g => Meth K (cC K) "__eq__" g) P_Case___eq__ (F_eqCG K) := by
  have G_Device___eq__ := ok_eqGP (P := P) (w := w) (base := base) T
  refine kvr_of0 (fun i => ([] : List Nat).contains i) T.d_Case___eq__ sc_Case___eq__ (fun _ _ _ _ _ _ us hl => match us, hl with | [_, _], _ => rfl) ?hl fun f cdv A outer s H E hr => ?_
  case hl => intro os Φ Ψ h; exact f_Case___eq___len h
  have st0 : ∀ o0 o1 : Ot, stO0 N_Case___eq__ [o0, o1] = [o0, o1] := fun _ _ => rfl
  have hu := hu_of hr
  refine ⟨_, _, pss_cons (ps_if (pt_not (pt_val (pe_callB (k_isi K) (by rfl) T.f_isinstance (by decide +kernel) (pa_cons (pv 1) (pa_cons (pe_glob (v := .ref (He.ga K "Case")) rfl T.g_Case rfl) pa_nil))))) (pss_one (ps_ret pe_bl)) (pss_nil))
  (pss_cons (ps_if (PW.pt (pw_or (pt_cmpR (k_neX G_Device___eq__ hr (by omega) T.i_Device T.ne_Device) (k_fld (pv 0)) (k_fld (pv 1)) (nomark _)) (pw_or1 (pt_cmpR (k_neP K hr) (k_fld (pv 0)) (k_fld (pv 1)) (nomark _))))) (pss_one (ps_ret pe_bl)) (pss_nil))
  (pss_one (ps_ret (pe_and (pe_cmpR (k_eqP K hr) (k_fld (pv 0)) (k_fld (pv 1)) (nomark _)) (pe_one (pe_cmpR (k_eqP K hr) (k_fld (pv 0)) (k_fld (pv 1)) (nomark _))))))), VS.fit (s_seq (s_if (t_not (t_B (d_isaC T.cl_Case T.i_Case T.o_Case (d_var (i := 1))))) (s_retD (d_bl)) (s_next))
  (s_seq (s_if (t_or (t_test (d_cmpX (d_fld T.cl_Case T.na_Case_whole (d_var (i := 0))) (d_fld T.cl_Case T.na_Case_whole (d_var (i := 1))))) (t_test (d_op lf_neP (d_fld T.cl_Case T.na_Case_possible (d_var (i := 0))) (d_fld T.cl_Case T.na_Case_possible (d_var (i := 1)))))) (s_retD (d_bl)) (s_next))
  (s_retD (d_and (d_op lf_eqP (d_fld T.cl_Case T.na_Case_watched (d_var (i := 0))) (d_fld T.cl_Case T.na_Case_watched (d_var (i := 1)))) (d_op lf_eqP (d_fld T.cl_Case T.na_Case_usable (d_var (i := 0))) (d_fld T.cl_Case T.na_Case_usable (d_var (i := 1)))))))) ?hc rfl, fun os Φ Ψ hF => ?_⟩
  case hc => first | exact Nat.le_of_ble_eq_true rfl | (unfold FORN; omega)
  obtain ⟨v1, u1, p1, w1, b1, t1, y, rfl, k1, h1, hy⟩ := hF
  refine ⟨rfl, ?_⟩
  rw [st0]
  walk_at "go"
  refine g_isaC ?_
  walk_at "go"
  rcases hy with ⟨hy, q⟩ | ⟨v2, u2, p2, w2, b2, t2, rfl, k2, h2, q⟩
  · have hp : isaP K (cC K) y false := by
      rcases hy with hy | ⟨fs, rfl⟩
      · exact .inr ⟨rfl, .inl hy⟩
      · exact .inr ⟨rfl, .inr ⟨_, fs, rfl, T.cl_Device, T.i_Device, T.sb_Device_Case⟩⟩
    refine ⟨false, hp, ?_⟩
    walk_at "go"
    exact ⟨rfl, q⟩
  · refine e_isaI ?_
    walk_at "go"
    refine ⟨⟨_, rfl⟩, .inl rfl, v1, v2, u1, u2, rfl, k1, k2, h1, h2, _, rfl, ?_⟩
    unfold eqC at q
    cases hv : eqV v1 v2 with
    | false =>
      rw [hv, Bool.false_and] at q
      refine ⟨true, rfl, ?_⟩
      walk_at "go"
      exact ⟨rfl, q⟩
    | true =>
      rw [hv, Bool.true_and] at q
      refine ⟨false, rfl, ?_⟩
      walk_at "go"
      refine g_neE (α := List Int) p1 p2 (by decide) ?_
      by_cases c1 : p1 = p2
      · rw [decide_eq_true c1, Bool.true_and] at q
        rw [decide_eq_true c1]
        walk_at "go"
        refine g_eqE (α := List Str) w1 w2 (by decide) ?_
        by_cases c2 : w1 = w2
        · rw [decide_eq_true c2, Bool.true_and] at q
          rw [decide_eq_true c2]
          walk_at "go"
          refine g_eqE (α := List Str) b1 b2 (by decide) ?_
          walk_at "go"
          exact ⟨rfl, q⟩
        · rw [decide_eq_false c2, Bool.false_and] at q
          rw [decide_eq_false c2]
          walk_at "go"
          exact ⟨rfl, q⟩
      · rw [decide_eq_false c1, Bool.false_and] at q
        rw [decide_eq_false c1]
        walk_at "go"
        exact ⟨rfl, q⟩
end
/-- of the same kind, its lamps in any order -/
structure SwP (d b : Dv) : Prop where
  bs : b.bs.Perm d.bs
  ls : ∀ x ∈ d.ls, x ∈ b.ls
  ok : b.ok
  ll : b.ls.length ≤ 4
  tl : d.ts.length ≤ b.ts.length ∧ b.ts.length ≤ 5
  tt : ∀ t ∈ b.ts, ∀ p ∈ t, p.2.2.Sublist d.ls
theorem hanT_0 (t : Tbl) : hanT 0 t = t := by
  show t.map (fun p => (p.1, (p.2.1, p.2.2))) = t
  exact List.map_id t
theorem hanV_0 (b : Dv) : hanV b 0 = b := by
  show (⟨b.bs, b.ls, b.ts.map (hanT 0)⟩ : Dv) = b
  rw [show b.ts.map (hanT 0) = b.ts from (List.map_congr_left fun t _ => hanT_0 t).trans (List.map_id _)]
theorem world_0 (b : Dv) : worldD b 0 = .dic [(.inr (Str.ofString "buttons"), dS b.bs), (.inr (Str.ofString "lamps"), dS b.ls), (.inr (Str.ofString "rows"), .lst (b.ts.map tblD)), (.inr (Str.ofString "given"), .lst (b.ts.map tblD))] := by
  show Dt.dic [_, _, _, (Sum.inr (Str.ofString "given"), .lst ((b.ts.map (hanT 0)).map tblD))] = _
  rw [show b.ts.map (hanT 0) = b.ts from (List.map_congr_left fun t _ => hanT_0 t).trans (List.map_id _)]
section
variable {P : Program} {w : World} {K : PySem.W.Frag} {mg : Str → Option Value} {base : Heap}
def F_newStep : FnW := fun os Φ _ => ∃ (kind : Int) (d : Dv) (o st : Int) (y : Str), os = [.fz (.int kind), .fz (worldD d o), .fz (.int st), .fz (.str y)] ∧ DwP d ∧ 0 ≤ st ∧ st < d.ts.length ∧ ∀ s : Stp, 0 ≤ s.1 → s.1 < d.ts.length → s.2.Sublist d.ls → Φ (.fz (stpD s)) os
theorem f__law_new_step_len {os : List Ot} {Φ : Ot → List Ot → Prop} {Ψ : XW} (h : F_newStep os Φ Ψ) : os.length = 4 := by
  obtain ⟨_, _, _, _, _, e, _⟩ := h
  rw [e]; rfl
theorem ok_newStep (T : Txt K mg) : Kv SL P w K mg base 1 0 "_law_new_step" P__law_new_step F_newStep := by
  refine kv_of0 (fun i => ([] : List Nat).contains i) T.d__law_new_step sc__law_new_step (fun _ _ _ _ _ _ us hl => match us, hl with | [_, _, _, _], _ => rfl) ?hl fun f cdv A outer s H E hr => ?_
  case hl => intro os Φ Ψ h; exact f__law_new_step_len h
  have st0 : ∀ o0 o1 o2 o3 : Ot, stO0 N__law_new_step [o0, o1, o2, o3] = [o0, o1, o2, o3, .no, .no, .no] := fun _ _ _ _ => rfl
  have hu := hu_of hr
  refine ⟨_, _, pss_cons (ps_set (i := 4) sc__law_new_step.nd rfl (Or.inl rfl) (pe_ix (kx_list K) (pe_dget hu (pv 1) pe_str (fun _ _ => rfl)) (pv 2) (fun _ _ => rfl)))
  (pss_cons (ps_if (pt_cmp (pc_dnotin hu (pv 3) (pv 4))) (pss_one (ps_ret (pe_tup (pa_cons pe_int (pa_cons (pe_lst pa_nil) pa_nil))))) (pss_nil))
  (pss_cons (ps_asg (pe_dget hu (pv 4) (pv 3) (fun _ _ => rfl)) (kg_tup K (n := 2) rfl (pgs_cons (pg_name (i := 5) sc__law_new_step.nd rfl (Or.inl rfl)) (pgs_cons (pg_name (i := 6) sc__law_new_step.nd rfl (Or.inl rfl)) pgs_nil))))
  (pss_cons (ps_if (pt_cmpR op_eq (pv 0) pe_int (nomark _)) (pss_one (ps_ret (pe_tup (pa_cons (pe_op op_mod (pe_callTy call_int1 (by rfl) T.f_int (by decide +kernel) (pa_cons (pe_op op_add (pv 5) pe_int) pa_nil)) (pe_callB (k_len K) (by rfl) T.f_len (by decide +kernel) (pa_cons (pe_dget hu (pv 1) pe_str (fun _ _ => rfl)) pa_nil))) (pa_cons (pv 6) pa_nil))))) (pss_nil))
  (pss_cons (ps_if (pt_cmpR (k_eqP K hr) (pv 6) (pe_lst pa_nil) (nomark _)) (pss_one (ps_ret (pe_tup (pa_cons (pv 5) (pa_cons (pe_slice (ks_list K) (pe_dget hu (pv 1) pe_str (fun _ _ => rfl)) po_none (po_some pe_int)) pa_nil))))) (pss_nil))
  (pss_one (ps_ret (pe_tup (pa_cons (pv 5) (pa_cons (pe_lst pa_nil) pa_nil))))))))), VS.fit (s_seq (s_asgD (d_op lf_ixL (d_dg (d_var (i := 1)) (d_str)) (d_var (i := 2))))
  (s_seq (s_if (t_test (d_dnin (d_var (i := 3)) (d_var (i := 4)))) (s_retD (d_tup (l_cons (d_int) (l_cons (d_lst (l_nil)) (l_nil))))) (s_next))
  (s_seq (s_asgT (.tp [.nm 5, .nm 6]) (d_dg (d_var (i := 4)) (d_var (i := 3))))
  (s_seq (s_if (t_test (d_op lf_eq (d_var (i := 0)) (d_int))) (s_retD (d_tup (l_cons (d_op lf_mod (d_cb lc_int (l_cons (d_op lf_II (d_var (i := 5)) (d_int)) (l_nil))) (d_cb lc_len (l_cons (d_dg (d_var (i := 1)) (d_str)) (l_nil)))) (l_cons (d_var (i := 6)) (l_nil))))) (s_next))
  (s_seq (s_if (t_test (d_op lf_eqP (d_var (i := 6)) (d_lst (l_nil)))) (s_retD (d_tup (l_cons (d_var (i := 5)) (l_cons (d_sl ls_list (d_dg (d_var (i := 1)) (d_str)) o_none (o_some (d_int))) (l_nil))))) (s_next))
  (s_retD (d_tup (l_cons (d_var (i := 5)) (l_cons (d_lst (l_nil)) (l_nil)))))))))) ?hc rfl, fun os Φ Ψ hF => ?_⟩
  case hc => first | exact Nat.le_of_ble_eq_true rfl | (unfold FORN; omega)
  obtain ⟨kind, d, o, st, y, rfl, dw, s0, s1, q⟩ := hF
  have tl := dw.tl
  refine ⟨rfl, ?_⟩
  rw [st0]
  walk_at "ga"
  refine e_dgS (wd_rows d o) ?_
  walk_at "ga"
  obtain ⟨t, ht, _⟩ := atL (l := d.ts) s0 s1
  refine g_ixL (atI_map tblD ht) ?_
  walk_at "ga"
  rw [val_map, Option.isSome_map]
  cases hl : t.lookup y with
  | none =>
    refine (if_pos rfl).mpr ?_
    walk_at "ga"
    exact q (0, []) (by omega) (by show (0 : Int) < _; omega) (List.nil_sublist _)
  | some s =>
    have hs := (dw.tt t (atI_mem ht)).2 (y, s) (look_mem hl)
    have hv : valG (t.map fun p => ((Sum.inr p.1 : Key), stpD p.2)) (.inr y) = some (stpD s) := by rw [val_map, hl]; rfl
    refine (if_neg (fun z => by cases z)).mpr ?_
    walk_at "ga"
    refine e_dgS hv ?_
    walk_at "ga"
    refine ite_any (fun c => ?_) (fun c => ?_)
    · walk_at "ga"
      refine e_dgS (wd_rows d o) ?_
      walk_at "ga"
      rw [List.length_map]
      refine g_mod (by omega) ?_
      walk_at "ga"
      exact q ((s.1 + 1) % (d.ts.length : Int), s.2) (Int.emod_nonneg _ (by omega)) (Int.emod_lt_of_pos _ (by omega)) hs.2
    · walk_at "ga"
      refine g_eqE (α := List Str) s.2 [] (by decide) ?_
      walk_at "ga"
      refine ite_any (fun c => ?_) (fun c => ?_)
      · walk_at "ga"
        refine e_dgS (wd_lamps d o) ?_
        walk_at "ga"
        rw [cutG_map, show (some (1 : Int)) = some ((1 : Nat) : Int) from rfl, cutG_take]
        walk_at "ga"
        exact q (s.1, d.ls.take 1) hs.1.1 hs.1.2 (List.take_sublist _ _)
      · walk_at "ga"
        exact q (s.1, []) hs.1.1 hs.1.2 (List.nil_sublist _)
theorem fzl_tbl (t : Tbl) : FzL (t.map fun p => Ot.fz (stpD p.2)) (t.map fun p => stpD p.2) := by
  have e : (t.map fun p => Ot.fz (stpD p.2)) = (t.map fun p => stpD p.2).map .fz := by rw [List.map_map]; rfl
  rw [e]
  exact FzL.map _
theorem h_dborT {i : Nat} {ρ : List Ot} {w : DW} {Φ : Dt → List Ot → Prop} {Ψ : XW} {t : Tbl} (e : ρ[i]? = some (ownK t)) (q : stN i (.fz (tblD t)) ρ fun ρ' => w ρ' (fun x _ => noD x = true ∧ Φ x ρ) noX) : dBorD i w ρ Φ Ψ := by
  refine h_dborD e (fzl_tbl t) ?_
  rw [List.zip_map']
  exact q
/-- a step more, or none -/
def MoreT (y : Str) (many : Nat) (ls : List Str) (t t2 : Tbl) : Prop := t2 = t ∨ ∃ s : Stp, (0 ≤ s.1 ∧ s.1 < many) ∧ s.2.Sublist ls ∧ t2 = t ++ [(y, s)]
theorem MoreT.law {bs ls : List Str} {many : Nat} {t t2 : Tbl} {y : Str} (h : MoreT y many ls t t2) (w : lawT bs ls many t) : lawT (bs ++ [y]) ls many t2 := by
  rcases h with rfl | ⟨s, h1, h2, rfl⟩
  · exact ⟨w.1.trans (List.sublist_append_left _ _), w.2⟩
  · refine ⟨?_, fun p hp => ?_⟩
    · rw [List.map_append]
      exact w.1.append (List.Sublist.refl _)
    · rcases List.mem_append.mp hp with m | m
      · exact w.2 p m
      · rw [List.mem_singleton.mp m]
        exact ⟨h1, h2⟩
theorem keys_new {a : List Str} {y : Str} {t : Tbl} (h : (t.map (·.1)).Sublist a) (hy : y ∉ a) : (Sum.inr y : Key) ∉ t.map fun p => (.inr p.1 : Key) := fun hm => by
  obtain ⟨p, hp, e⟩ := List.mem_map.mp hm
  exact hy (h.subset (List.mem_map.mpr ⟨p, hp, Sum.inr.inj e⟩))
theorem look_app {t : Tbl} {y : Str} {s : Stp} (h : y ∉ t.map (·.1)) : (t ++ [(y, s)]).lookup y = some s := by
  rw [List.lookup_append, look_none h]
  simp [List.lookup]
def F_otherW : FnW := fun os Φ _ => ∃ (xs : List Int) (d : Dv) (o : Int), os = [.fz (.lst (xs.map .int)), .fz (worldD d o)] ∧ xs.length = 3 ∧ (∀ x ∈ xs, 0 ≤ x ∧ x < 27720) ∧ DwP d ∧ ∀ b, SwP d b → Φ (.fz (worldD b 0)) os
theorem f__law_other_world_len {os : List Ot} {Φ : Ot → List Ot → Prop} {Ψ : XW} (h : F_otherW os Φ Ψ) : os.length = 2 := by
  obtain ⟨_, _, _, e, _⟩ := h
  rw [e]; rfl
theorem ok_otherW (T : Txt K mg) : Kv SL P w K mg base 2 0 "_law_other_world" P__law_other_world F_otherW := by
  have G__law_new_step := ok_newStep (P := P) (w := w) (base := base) T
  refine kv_of0 (fun i => ([] : List Nat).contains i) T.d__law_other_world sc__law_other_world (fun _ _ _ _ _ _ us hl => match us, hl with | [_, _], _ => rfl) ?hl fun f cdv A outer s H E hr => ?_
  case hl => intro os Φ Ψ h; exact f__law_other_world_len h
  have st0 : ∀ o0 o1 : Ot, stO0 N__law_other_world [o0, o1] = [o0, o1, .no, .no, .no, .no, .no, .no, .no, .no, .no, .no, .no, .no, .no] := fun _ _ => rfl
  have hu := hu_of hr
  refine ⟨_, _, pss_cons (ps_set (i := 2) sc__law_other_world.nd rfl (Or.inl rfl) (pe_op op_mod (pe_callTy call_int1 (by rfl) T.f_int (by decide +kernel) (pa_cons (pe_ix (kx_list K) (pv 0) pe_int (fun _ _ => rfl)) pa_nil)) pe_int))
  (pss_cons (ps_set (i := 3) sc__law_other_world.nd rfl (Or.inl rfl) (pe_op op_mod (pe_callTy call_int1 (by rfl) T.f_int (by decide +kernel) (pa_cons (pe_ix (kx_list K) (pv 0) pe_int (fun _ _ => rfl)) pa_nil)) (pe_callB (k_len K) (by rfl) T.f_len (by decide +kernel) (pa_cons (pe_dget hu (pv 1) pe_str (fun _ _ => rfl)) pa_nil))))
  (pss_cons (ps_set (i := 4) sc__law_other_world.nd rfl (Or.inl rfl) (pe_ix (kx_list K) (pe_dget hu (pv 1) pe_str (fun _ _ => rfl)) (pe_op op_mod (pe_callTy call_int1 (by rfl) T.f_int (by decide +kernel) (pa_cons (pe_ix (kx_list K) (pv 0) pe_int (fun _ _ => rfl)) pa_nil)) (pe_callB (k_len K) (by rfl) T.f_len (by decide +kernel) (pa_cons (pe_dget hu (pv 1) pe_str (fun _ _ => rfl)) pa_nil))) (fun _ _ => rfl)))
  (pss_cons (ps_set (i := 5) sc__law_other_world.nd rfl (Or.inl rfl) (pe_callTy (k_list K) (by rfl) T.f_list (by decide +kernel) (pa_cons (pe_dget hu (pv 1) pe_str (fun _ _ => rfl)) pa_nil)))
  (pss_cons (ps_if (pt_cmpR op_eq (pv 2) pe_int (nomark _)) (pss_one (ps_set (i := 5) sc__law_other_world.nd rfl (Or.inl rfl) (k_revL K (pv 5)))) (pss_nil))
  (pss_cons (ps_set (i := 6) sc__law_other_world.nd rfl (Or.inl rfl) (pe_lst pa_nil))
  (pss_cons (ps_set (i := 7) sc__law_other_world.nd rfl (Or.inl rfl) (pe_lst pa_nil))
  (pss_cons (ps_for PassesOwn.never rfl (pi_range1 (by rfl) T.f_range (pa_cons (pe_callB (k_len K) (by rfl) T.f_len (by decide +kernel) (pa_cons (pe_dget hu (pv 1) pe_str (fun _ _ => rfl)) pa_nil)) pa_nil)) (pg_name (i := 8) sc__law_other_world.nd rfl (Or.inl rfl))
  (pss_cons (ps_set (i := 9) sc__law_other_world.nd rfl (Or.inl rfl) pe_dnewK)
  (pss_cons (ps_set (i := 10) sc__law_other_world.nd rfl (Or.inl rfl) pe_dnewK)
  (pss_cons (ps_for PassesOwn.never rfl (ki_list K (pv 5)) (pg_name (i := 11) sc__law_other_world.nd rfl (Or.inl rfl))
  (pss_cons (ps_set (i := 12) sc__law_other_world.nd rfl (Or.inl rfl) (pe_and (pe_cmpR op_eq (pv 8) (pv 3) (nomark _)) (pe_and (pe_cmpR op_eq (pv 11) (pv 4) (nomark _)) (pe_one (pe_cmpR (k_in K) (pv 2) (pe_tup (pa_cons pe_int (pa_cons pe_int (pa_cons pe_int pa_nil)))) rfl)))))
  (pss_cons (ps_if (PW.pt (pw_and (pt_cmp (pc_din hu (pv 11) (pe_ix (kx_list K) (pe_dget hu (pv 1) pe_str (fun _ _ => rfl)) (pv 8) (fun _ _ => rfl)))) (pw_and1 (pt_not (pt_val (pv 12)))))) (pss_one (ps_dput hu (pv 9) (pv 11) (pe_dget hu (pe_ix (kx_list K) (pe_dget hu (pv 1) pe_str (fun _ _ => rfl)) (pv 8) (fun _ _ => rfl)) (pv 11) (fun _ _ => rfl)) rfl)) (pss_nil))
  (pss_cons (ps_if (PW.pt (pw_and (pt_val (pv 12)) (pw_and1 (PW.pt (pw_or (pt_cmpR op_gt (pv 2) pe_int (nomark _)) (pw_or1 (pt_cmp (pc_dnotin hu (pv 11) (pe_ix (kx_list K) (pe_dget hu (pv 1) pe_str (fun _ _ => rfl)) (pv 8) (fun _ _ => rfl)))))))))) (pss_one (ps_dput hu (pv 9) (pv 11) (k_kv G__law_new_step hr (by omega) (pa_cons (pv 2) (pa_cons (pv 1) (pa_cons (pv 8) (pa_cons (pv 11) pa_nil))))) rfl)) (pss_nil))
  (pss_one (ps_if (pt_cmp (pc_din hu (pv 11) (pv 9))) (pss_one (ps_dput hu (pv 10) (pv 11) (pe_tup (pa_cons (pe_ix (kx_tup K) (pe_dget hu (pv 9) (pv 11) (fun _ _ => rfl)) pe_int (fun _ _ => rfl)) (pa_cons (pe_callTy (k_list K) (by rfl) T.f_list (by decide +kernel) (pa_cons (pe_ix (kx_tup K) (pe_dget hu (pv 9) (pv 11) (fun _ _ => rfl)) pe_int (fun _ _ => rfl)) pa_nil)) pa_nil))) rfl)) (pss_nil)))))))
  (pss_cons (ps_expr (k_bm K PySem.F.plainAttrs_list PySem.F.slot_list_append PySem.F.type_list_append mt_append (pv 6) (pa_cons (pv 9) pa_nil)))
  (pss_one (ps_expr (k_bm K PySem.F.plainAttrs_list PySem.F.slot_list_append PySem.F.type_list_append mt_append (pv 7) (pa_cons (pv 10) pa_nil)))))))))
  (pss_cons (ps_set (i := 13) sc__law_other_world.nd rfl (Or.inr rfl) (pe_callTy (k_list K) (by rfl) T.f_list (by decide +kernel) (pa_cons (pe_dget hu (pv 1) pe_str (fun _ _ => rfl)) pa_nil)))
  (pss_cons (ps_if (PW.pt (pw_and (pt_cmpR op_eq (pv 2) pe_int (nomark _)) (pw_and1 (pt_cmpR op_lt (pe_callB (k_len K) (by rfl) T.f_len (by decide +kernel) (pa_cons (pv 13) pa_nil)) pe_int (nomark _))))) (pss_one (ps_expr (k_bm K PySem.F.plainAttrs_list PySem.F.slot_list_append PySem.F.type_list_append mt_append (pv 13) (pa_cons (pe_ix (kx_list K) (pe_lc (own := [("_law_one", 14)]) (g := gName 14) (by rfl) sc__law_other_world.nd (ki_list K (pe_lst (pa_cons pe_str (pa_cons pe_str pa_nil)))) (blkOk_by (own := [("_law_one", 14)]) (N := N__law_other_world) (sc := defScope s__law_other_world) (by first | decide +kernel | rfl)) (fun _ _ _ _ _ => pg_name (i := 14) sc__law_other_world.nd rfl (Or.inl rfl)) (fun _ _ _ _ _ => pts_one (pt_cmpR (k_notIn K) (pv 14) (pv 13) rfl)) (fun _ _ _ _ _ => pv 14)) pe_int (fun _ _ => rfl)) pa_nil)))) (pss_one (ps_if (pt_cmpR op_eq (pv 2) pe_int (nomark _)) (pss_one (ps_set (i := 13) sc__law_other_world.nd rfl (Or.inr rfl) (pe_op op_cat (pe_slice (ks_list K) (pv 13) (po_some pe_int) po_none) (pe_slice (ks_list K) (pv 13) po_none (po_some pe_int))))) (pss_nil))))
  (pss_cons (ps_if (PW.pt (pw_and (pt_cmpR op_eq (pv 2) pe_int (nomark _)) (pw_and1 (pt_cmpR op_lt (pe_callB (k_len K) (by rfl) T.f_len (by decide +kernel) (pa_cons (pv 6) pa_nil)) pe_int (nomark _))))) (pss_cons (ps_expr (k_bm K PySem.F.plainAttrs_list PySem.F.slot_list_append PySem.F.type_list_append mt_append (pv 6) (pa_cons pe_dnewK pa_nil)))
  (pss_one (ps_expr (k_bm K PySem.F.plainAttrs_list PySem.F.slot_list_append PySem.F.type_list_append mt_append (pv 7) (pa_cons pe_dnewK pa_nil))))) (pss_nil))
  (pss_one (ps_ret (pe_dispN [Str.ofString "buttons", Str.ofString "lamps", Str.ofString "rows", Str.ofString "given"] [(Str.ofString "buttons", _), (Str.ofString "lamps", _), (Str.ofString "rows", _), (Str.ofString "given", _)] rfl (pps_cons pe_str (pv 5) (pps_cons pe_str (pv 13) (pps_cons pe_str (pv 6) (pps_cons pe_str (pv 7) pps_nil)))) (by decide) (by decide) (by decide)))))))))))))), VS.fit (s_seq (s_asgD (d_op lf_mod (d_cb lc_int (l_cons (d_op lf_ixL (d_var (i := 0)) (d_int)) (l_nil))) (d_int)))
  (s_seq (s_asgD (d_op lf_mod (d_cb lc_int (l_cons (d_op lf_ixL (d_var (i := 0)) (d_int)) (l_nil))) (d_cb lc_len (l_cons (d_dg (d_var (i := 1)) (d_str)) (l_nil)))))
  (s_seq (s_asgD (d_op lf_ixL (d_dg (d_var (i := 1)) (d_str)) (d_op lf_mod (d_cb lc_int (l_cons (d_op lf_ixL (d_var (i := 0)) (d_int)) (l_nil))) (d_cb lc_len (l_cons (d_dg (d_var (i := 1)) (d_str)) (l_nil))))))
  (s_seq (s_asgD (d_cb lc_list (l_cons (d_dg (d_var (i := 1)) (d_str)) (l_nil))))
  (s_seqM (s_if (t_test (d_op lf_eq (d_var (i := 2)) (d_int))) (s_asgD (d_revL (d_var (i := 5)))) (s_next))
  (s_seq (s_asg (v_lst (a_nil)))
  (s_seq (s_asg (v_lst (a_nil)))
  (s_seq (s_for (tg := .nm 8) (i_rg1 (l_cons (d_cb lc_len (l_cons (d_dg (d_var (i := 1)) (d_str)) (l_nil))) (l_nil)))
  (s_seq (s_asg (v_dn))
  (s_seq (s_asg (v_dn))
  (s_seq (s_for (tg := .nm 11) (i_list (d_var (i := 5)))
  (s_seqM (s_asgD (d_and (d_op lf_eq (d_var (i := 8)) (d_var (i := 3))) (d_and (d_op lf_eq (d_var (i := 11)) (d_var (i := 4))) (d_op lf_inIT (d_var (i := 2)) (d_tup (l_cons (d_int) (l_cons (d_int) (l_cons (d_int) (l_nil)))))))))
  (s_seqM (s_if (t_and (t_test (d_din (d_var (i := 11)) (d_op lf_ixL (d_dg (d_var (i := 1)) (d_str)) (d_var (i := 8))))) (t_not (t_B (d_var (i := 12))))) (s_setD (i := 9) (v_d (d_dg (d_op lf_ixL (d_dg (d_var (i := 1)) (d_str)) (d_var (i := 8))) (d_var (i := 11)))) (d_var (i := 11))) (s_next))
  (s_seqM (s_if (t_and (t_B (d_var (i := 12))) (t_or (t_test (d_op lf_IB (d_var (i := 2)) (d_int))) (t_test (d_dnin (d_var (i := 11)) (d_op lf_ixL (d_dg (d_var (i := 1)) (d_str)) (d_var (i := 8))))))) (s_setD (i := 9) (v_d (d_x (v_callQ (a_cons (v_d (d_var (i := 2))) (a_cons (v_d (d_var (i := 1))) (a_cons (v_d (d_var (i := 8))) (a_cons (v_d (d_var (i := 11))) (a_nil)))))))) (d_var (i := 11))) (s_next))
  (s_if (t_test (d_borD (i := 9) (d_din (d_var (i := 11)) (d_var (i := 9))))) (s_setD (i := 10) (v_d (d_tup (l_cons (d_borD (i := 9) (d_op lf_ixT (d_dg (d_var (i := 9)) (d_var (i := 11))) (d_int))) (l_cons (d_borD (i := 9) (d_cb lc_list (l_cons (d_op lf_ixT (d_dg (d_var (i := 9)) (d_var (i := 11))) (d_int)) (l_nil)))) (l_nil))))) (d_var (i := 11))) (s_next))))))
  (s_seq (s_drop (v_append (i := 6) (v_d (d_f (v_var (i := 9))))))
  (s_drop (v_append (i := 7) (v_d (d_f (v_var (i := 10)))))))))))
  (s_seq (s_asg (v_listC (l_cons (d_dg (d_var (i := 1)) (d_str)) (l_nil))))
  (s_seqM (s_if (t_and (t_test (d_op lf_eq (d_var (i := 2)) (d_int))) (t_test (d_op lf_IB (d_lenO (i := 13)) (d_int)))) (s_drop (v_append (i := 13) (v_d (d_op lf_ixL (d_lc (tg := .nm 14) (i_list (d_lst (l_cons (d_str) (l_cons (d_str) (l_nil))))) (t_test (d_opO (i := 13) lo_inS (d_var (i := 14)))) (d_var (i := 14))) (d_int))))) (s_if (t_test (d_op lf_eq (d_var (i := 2)) (d_int))) (s_asg (v_cat (d_sl ls_list (d_f (v_var (i := 13))) (o_some (d_int)) o_none) (d_sl ls_list (d_f (v_var (i := 13))) o_none (o_some (d_int))))) (s_next)))
  (s_seqM (s_if (t_and (t_test (d_op lf_eq (d_var (i := 2)) (d_int))) (t_test (d_op lf_IB (d_lenO (i := 6)) (d_int)))) (s_seq (s_drop (v_append (i := 6) (v_d (d_f (v_dn)))))
  (s_drop (v_append (i := 7) (v_d (d_f (v_dn)))))) (s_next))
  (s_retD (d_f (v_dispK (ks := [Str.ofString "buttons", Str.ofString "lamps", Str.ofString "rows", Str.ofString "given"]) (a_cons (v_d (d_var (i := 5))) (a_cons (v_d (d_f (v_var (i := 13)))) (a_cons (v_d (d_f (v_var (i := 6)))) (a_cons (v_d (d_f (v_var (i := 7)))) (a_nil))))))))))))))))))) ?hc rfl, fun os Φ Ψ hF => ?_⟩
  case hc => first | exact Nat.le_of_ble_eq_true rfl | (unfold FORN; omega)
  obtain ⟨xs, d, o, rfl, hx, hb, dw, q⟩ := hF
  have tl := dw.tl
  have bl := dw.bl
  have ll := dw.ll
  refine ⟨rfl, ?_⟩
  rw [st0]
  walk_at "ga"
  refine g_xs hx hb (by omega) (by omega) fun v0 a0 b0 => ?_
  walk_at "ga"
  obtain ⟨kind, hk⟩ : ∃ k, v0 % 8 = k := ⟨_, rfl⟩
  rw [hk]
  refine g_xs hx hb (by omega) (by omega) fun v1 a1 b1 => ?_
  walk_at "ga"
  refine e_dgS (wd_rows d o) ?_
  walk_at "ga"
  rw [List.length_map]
  refine g_mod (by omega) ?_
  generalize v1 % (d.ts.length : Int) = here
  walk_at "ga"
  refine e_dgS (wd_buttons d o) ?_
  walk_at "ga"
  refine g_xs hx hb (by omega) (by omega) fun v2 a2 b2 => ?_
  walk_at "ga"
  refine e_dgS (wd_buttons d o) ?_
  walk_at "ga"
  rw [List.length_map]
  refine g_mod (by omega) ?_
  obtain ⟨y0, hy0, _⟩ := atL (l := d.bs) (Int.emod_nonneg v2 (show (d.bs.length : Int) ≠ 0 by omega)) (Int.emod_lt_of_pos v2 (show (0 : Int) < (d.bs.length : Int) by omega))
  refine g_ixL (atI_map Dt.str hy0) ?_
  walk_at "ga"
  refine e_dgS (wd_buttons d o) ?_
  walk_at "ga"
  refine seqM_e [5] (fun u => ∃ ks : List Str, ks.Perm d.bs ∧ u = [(5, .fz (dS ks))]) (fun N hN => ?_) (fun u ⟨ks, hks, e⟩ => ?_)
  · walk_at "ga"
    refine ite_any (fun c => ?_) (fun c => ?_)
    · walk_at "ga"
      rw [← List.map_reverse]
      exact hN [(5, _)] _ (by walk_at "eq") (by walk_at "hs") ⟨_, List.reverse_perm _, rfl⟩
    · exact hN [(5, _)] _ (by walk_at "eq") (by walk_at "hs") ⟨_, List.Perm.refl _, rfl⟩
  subst e
  have knd : ks.Nodup := hks.nodup_iff.mpr dw.bn.1
  have kl : ks.length ≤ 4 := by rw [hks.length_eq]; omega
  walk_at "ga"
  refine e_dgS (wd_rows d o) ?_
  walk_at "ga"
  rw [List.length_map, Int.toNat_natCast]
  refine for_r [6, 7, 8, 9, 10, 11, 12] (fun i u => ∃ ts : List Tbl, ts.length = i ∧ (∀ t ∈ ts, lawT ks d.ls d.ts.length t) ∧ u = [(6, .lst ((ts.map tblD).map .fz)), (7, .lst ((ts.map tblD).map .fz))]) rfl ?_ (by walk_at "hu") ?_ ?_
  · exact ⟨[(6, _), (7, _)], by walk_at "hs", [], rfl, fun _ h => (nomatch h), rfl⟩
  · intro i u hi ⟨ts, hts, tt, e⟩
    subst e
    walk_at "ga"
    intro N hN
    walk_at "ga"
    refine for_x ks .str [9, 10, 11, 12] (fun a u => ∃ t : Tbl, lawT a d.ls d.ts.length t ∧ u = [(9, ownK t), (10, ownK t)]) rfl ?_ (by walk_at "hu") ?_ ?_
    · exact ⟨[(9, _), (10, _)], by walk_at "hs", [], ⟨List.nil_sublist _, fun _ h => (nomatch h)⟩, rfl⟩
    · intro a y b u2 sp ⟨t, tw, e⟩
      subst e
      have ya : y ∉ a := fun m => by
        rw [sp, List.nodup_append] at knd
        exact knd.2.2 y m y List.mem_cons_self rfl
      have yt : y ∉ t.map (·.1) := fun m => ya (tw.1.subset m)
      have tlen : t.length ≤ 4 := by
        have h1 := tw.1.length_le
        have h2 := congrArg List.length sp
        rw [List.length_map] at h1
        rw [List.length_append, List.length_cons] at h2
        omega
      obtain ⟨t0, ht0, _⟩ := atL (l := d.ts) (i := 0 + (i : Int)) (by omega) (by omega)
      have t0w := dw.tt t0 (atI_mem ht0)
      walk_at "ga"
      intro N2 hN2
      walk_at "ga"
      refine seqM_e [12] (fun u => ∃ ch : Bool, u = [(12, .fz (.bl ch))]) (fun N3 hN3 => ?_) (fun u ⟨ch, e⟩ => ?_)
      · walk_at "go"
        refine ite_any (fun c => ?_) (fun c => ?_)
        · walk_at "go"
          refine ite_any (fun c => ?_) (fun c => ?_)
          · walk_at "go"
            refine g_inIT (neg := false) [1, 2, 3] ?_
            walk_at "go"
            exact hN3 [(12, _)] _ (by walk_at "eq") (by walk_at "hs") ⟨_, rfl⟩
          · walk_at "go"
            exact hN3 [(12, _)] _ (by walk_at "eq") (by walk_at "hs") ⟨_, rfl⟩
        · walk_at "go"
          exact hN3 [(12, _)] _ (by walk_at "eq") (by walk_at "hs") ⟨_, rfl⟩
      subst e
      walk_at "ga"
      refine seqM_e [9] (fun u => ∃ t2, MoreT y d.ts.length d.ls t t2 ∧ (ch = true → t2 = t) ∧ u = [(9, ownK t2)]) (fun N3 hN3 => ?_) (fun u ⟨t2, hm, hc, e⟩ => ?_)
      · walk_at "go"
        refine e_dgS (wd_rows d o) ?_
        walk_at "go"
        refine g_ixL (atI_map tblD ht0) ?_
        walk_at "go"
        rw [val_map, Option.isSome_map]
        cases hl : t0.lookup y with
        | none =>
          refine (if_neg (fun z => by cases z)).mpr ?_
          exact hN3 [(9, _)] _ (by walk_at "eq") (by walk_at "hs") ⟨t, .inl rfl, fun _ => rfl, rfl⟩
        | some s =>
          have hs := t0w.2 (y, s) (look_mem hl)
          have hv : valG (t0.map fun p => ((Sum.inr p.1 : Key), stpD p.2)) (.inr y) = some (stpD s) := by rw [val_map, hl]; rfl
          refine (if_pos rfl).mpr ?_
          walk_at "go"
          cases ch with
          | true =>
            refine (if_neg (by decide)).mpr ?_
            exact hN3 [(9, _)] _ (by walk_at "eq") (by walk_at "hs") ⟨t, .inl rfl, fun _ => rfl, rfl⟩
          | false =>
            refine (if_pos (by decide)).mpr ?_
            walk_at "go"
            refine e_dgS (wd_rows d o) ?_
            walk_at "go"
            refine g_ixL (atI_map tblD ht0) ?_
            walk_at "go"
            refine e_dgS hv ?_
            walk_at "go"
            refine e_setDS rfl (keys_new tw.1 ya) (by rw [List.length_map]; omega) ?_
            walk_at "go"
            refine hN3 [(9, _)] _ (by walk_at "eq") (by walk_at "hs") ⟨t ++ [(y, s)], .inr ⟨s, hs.1, hs.2, rfl⟩, fun z => (by cases z), ?_⟩
            simp only [ownK, List.map_append, List.map_cons, List.map_nil]
      subst e
      walk_at "ga"
      refine seqM_e [9] (fun u => ∃ t3, MoreT y d.ts.length d.ls t t3 ∧ u = [(9, ownK t3)]) (fun N3 hN3 => ?_) (fun u ⟨t3, hm3, e⟩ => ?_)
      · cases ch with
        | false =>
          walk_at "go"
          exact hN3 [(9, _)] _ (by walk_at "eq") (by walk_at "hs") ⟨t2, hm, rfl⟩
        | true =>
          have ht2 := hc rfl
          subst ht2
          refine if_m True True (fun N4 h1 h0 => ?_) (fun _ => ?_) (fun _ => ?_)
          · walk_at "go"
            refine ite_any (fun c => ?_) (fun c => ?_)
            · exact h1 trivial
            · walk_at "go"
              refine e_dgS (wd_rows d o) ?_
              walk_at "go"
              refine g_ixL (atI_map tblD ht0) ?_
              walk_at "go"
              exact nn_b (h1 trivial) (h0 trivial)
          · walk_at "ga"
            refine ⟨_, d, o, 0 + (i : Int), y, rfl, dw, by omega, by omega, fun s s0 s1 s2 => ?_⟩
            walk_at "ga"
            refine e_setDS rfl (keys_new tw.1 ya) (by rw [List.length_map]; omega) ?_
            walk_at "ga"
            refine hN3 [(9, _)] _ (by walk_at "eq") (by walk_at "hs") ⟨t2 ++ [(y, s)], .inr ⟨s, ⟨s0, s1⟩, s2, rfl⟩, ?_⟩
            simp only [ownK, List.map_append, List.map_cons, List.map_nil]
          · exact hN3 [(9, _)] _ (by walk_at "eq") (by walk_at "hs") ⟨t2, hm, rfl⟩
      subst e
      have fin := hm3.law (bs := a) tw
      walk_at "go"
      refine h_dborT rfl ?_
      walk_at "go"
      rw [val_map, Option.isSome_map]
      rcases hm3 with rfl | ⟨s, h1, h2, rfl⟩
      · rw [look_none yt]
        walk_at "go"
        refine ⟨rfl, ?_⟩
        walk_at "go"
        exact hN2 [(9, _), (10, _)] _ (by walk_at "eq") (by walk_at "hs") ⟨t3, fin, rfl⟩
      · have hl := look_app (t := t) (y := y) (s := s) yt
        have hv : valG ((t ++ [(y, s)]).map fun p => ((Sum.inr p.1 : Key), stpD p.2)) (.inr y) = some (stpD s) := by rw [val_map, hl]; rfl
        rw [hl]
        walk_at "go"
        refine ⟨rfl, ?_⟩
        refine ⟨true, rfl, ?_⟩
        walk_at "go"
        refine h_dborT rfl ?_
        walk_at "go"
        refine e_dgS hv ?_
        walk_at "go"
        refine ⟨rfl, ?_⟩
        walk_at "go"
        refine h_dborT rfl ?_
        walk_at "go"
        refine e_dgS hv ?_
        walk_at "go"
        refine ⟨noD_strs _, ?_⟩
        walk_at "go"
        refine e_setDS rfl (keys_new tw.1 ya) (by rw [List.length_map]; omega) ?_
        walk_at "go"
        refine hN2 [(9, _), (10, _)] _ (by walk_at "eq") (by walk_at "hs") ⟨t ++ [(y, s)], fin, ?_⟩
        simp only [ownK, List.map_append, List.map_cons, List.map_nil]
    · intro u2 ⟨t, tw, e⟩
      subst e
      walk_at "ga"
      refine hN [(6, _), (7, _)] _ (by walk_at "eq") (by walk_at "hs") ⟨ts ++ [t], by rw [List.length_append, hts]; rfl, fun t2 ht2 => ?_, by simp only [List.map_append]; rfl⟩
      rcases List.mem_append.mp ht2 with m | m
      · exact tt t2 m
      · rw [List.mem_singleton.mp m]
        exact tw
  · intro u ⟨ts, hts, tt, e⟩
    subst e
    walk_at "ga"
    refine e_dgS (wd_lamps d o) ?_
    walk_at "ga"
    refine seqM_e [13, 14] (fun u => ∃ ls2 : List Str, (∀ x ∈ d.ls, x ∈ ls2) ∧ ls2.Nodup ∧ (∀ y ∈ ls2, Nm y) ∧ ls2.length ≤ 3 ∧ u = [(13, .lst ((ls2.map .str).map .fz))]) (fun N hN => ?_) (fun u ⟨ls2, k1, k2, k3, k4, e⟩ => ?_)
    · have same : ∀ ρ', Eqx [13, 14] 0 _ ρ' → Has ρ' [(13, .lst ((d.ls.map .str).map .fz))] → N ρ' := fun ρ' a b => hN [(13, _)] ρ' a b ⟨d.ls, fun _ h => h, dw.ln.1, dw.ln.2, ll, rfl⟩
      refine if_m (d.ls.length < 2) True (fun N2 hA hB => ?_) (fun c => ?_) (fun _ => ?_)
      · walk_at "go"
        refine ite_any (fun c => ?_) (fun c => ?_)
        · walk_at "go"
          rw [List.length_map, List.length_map]
          by_cases c2 : (d.ls.length : Int) < 2
          · rw [decide_eq_true c2]
            exact hA (by omega)
          · rw [decide_eq_false c2]
            exact hB trivial
        · exact hB trivial
      · walk_at "ga"
        refine lcD_map [Str.ofString "lamp", Str.ofString "q"] .str (fun x => decide (x ∉ d.ls)) .str rfl (fun x hx N1 N0 h1 h0 => ?_) ?_
        · walk_at "go"
          refine g_oinS ?_
          walk_at "go"
          refine ite_n (fun c => ?_) (fun c => ?_)
          · walk_at "go"
            exact h1 (decide_eq_true c)
          · exact h0 (decide_eq_false fun z => z c)
        obtain ⟨y, r, er⟩ : ∃ y r, [Str.ofString "lamp", Str.ofString "q"].filter (fun x => decide (x ∉ d.ls)) = y :: r := by
          cases hf : [Str.ofString "lamp", Str.ofString "q"].filter (fun x => decide (x ∉ d.ls)) with
          | cons y r => exact ⟨y, r, rfl⟩
          | nil =>
            have h := List.filter_eq_nil_iff.mp hf
            have := nodup_sub (xs := [Str.ofString "lamp", Str.ofString "q"]) (ys := d.ls) (by decide) fun x hx => Decidable.byContradiction fun z => h x hx (decide_eq_true z)
            simp only [List.length_cons, List.length_nil] at this
            omega
        have hy := List.mem_filter.mp (show y ∈ [Str.ofString "lamp", Str.ofString "q"].filter (fun x => decide (x ∉ d.ls)) by rw [er]; exact List.mem_cons_self)
        have hn : Nm y := by
          have := hy.1
          simp only [List.mem_cons, List.not_mem_nil, or_false] at this
          rcases this with rfl | rfl
          · exact ⟨by decide, by decide, by decide⟩
          · exact ⟨by decide, by decide, by decide⟩
        have hy2 := of_decide_eq_true hy.2
        rw [er]
        obtain ⟨y2, h2, h3⟩ := atL (l := y :: r) (i := 0) (by omega) (by rw [List.length_cons]; omega)
        obtain rfl : y = y2 := Option.some.inj h3
        walk_at "go"
        refine g_ixL (atI_map Dt.str h2) ?_
        walk_at "ga"
        refine hN [(13, _)] _ (by walk_at "eq") (by walk_at "hs") ⟨d.ls ++ [y], fun x hx => List.mem_append_left _ hx, ?_, fun x hx => ?_, by rw [List.length_append]; show d.ls.length + 1 ≤ 3; omega, by simp only [List.map_append, List.map_cons, List.map_nil]⟩
        · rw [List.nodup_append]
          exact ⟨dw.ln.1, by simp, fun a ha b hb => by rw [List.mem_singleton.mp hb]; exact fun z => hy2 (z ▸ ha)⟩
        · rcases List.mem_append.mp hx with m | m
          · exact dw.ln.2 x m
          · rw [List.mem_singleton.mp m]; exact hn
      · walk_at "go"
        refine ite_any (fun c => ?_) (fun c => ?_)
        · walk_at "go"
          rw [cutG_map, cutG_map]
          refine ⟨_, _, rfl, rfl, by have h1 := cutG_len d.ls (some 1) none; have h2 := cutG_len d.ls none (some 1); simp only [List.length_map]; omega, ?_⟩
          rw [← List.map_append]
          have pm := cutG_perm d.ls (n := 1) (by omega)
          walk_at "go"
          exact hN [(13, _)] _ (by walk_at "eq") (by walk_at "hs") ⟨_, fun x hx => pm.mem_iff.mpr hx, pm.nodup_iff.mpr dw.ln.1, fun x hx => dw.ln.2 x (pm.mem_iff.mp hx), by rw [pm.length_eq]; exact ll, rfl⟩
        · exact same _ (by walk_at "eq") (by walk_at "hs")
    subst e
    walk_at "ga"
    refine seqM_e [6, 7] (fun u => ∃ ts2 : List Tbl, (d.ts.length ≤ ts2.length ∧ ts2.length ≤ 5) ∧ (∀ t ∈ ts2, lawT ks d.ls d.ts.length t) ∧ u = [(6, .lst ((ts2.map tblD).map .fz)), (7, .lst ((ts2.map tblD).map .fz))]) (fun N hN => ?_) (fun u ⟨ts2, n1, n2, e⟩ => ?_)
    · refine if_m (ts.length < 5) True (fun N2 hA hB => ?_) (fun c => ?_) (fun _ => ?_)
      · walk_at "go"
        refine ite_any (fun c => ?_) (fun c => ?_)
        · walk_at "go"
          rw [List.length_map, List.length_map]
          by_cases c2 : (ts.length : Int) < 5
          · rw [decide_eq_true c2]
            exact hA (by omega)
          · rw [decide_eq_false c2]
            exact hB trivial
        · exact hB trivial
      · walk_at "ga"
        refine hN [(6, _), (7, _)] _ (by walk_at "eq") (by walk_at "hs") ⟨ts ++ [[]], by rw [List.length_append]; show d.ts.length ≤ ts.length + 1 ∧ ts.length + 1 ≤ 5; omega, fun t ht => ?_, by simp only [List.map_append, List.map_cons, List.map_nil]; rfl⟩
        rcases List.mem_append.mp ht with m | m
        · exact tt t m
        · rw [List.mem_singleton.mp m]
          exact ⟨List.nil_sublist _, fun _ h => (nomatch h)⟩
      · exact hN [(6, _), (7, _)] _ (by walk_at "eq") (by walk_at "hs") ⟨ts, by omega, tt, rfl⟩
    subst e
    walk_at "ga"
    have fin := q ⟨ks, ls2, ts2⟩ ⟨hks, k1, ⟨⟨knd, fun y hy => dw.bn.2 y (hks.mem_iff.mp hy), by show ks.length ≤ 60; omega⟩, ⟨k2, k3, by show ls2.length ≤ 100; omega⟩, by show ts2.length ≤ 100; omega, fun t ht => ⟨(n2 t ht).1.nodup knd, fun p hp => ⟨(n2 t ht).1.subset (List.mem_map.mpr ⟨p, hp, rfl⟩), ⟨((n2 t ht).2 p hp).1.1, by have := ((n2 t ht).2 p hp).1.2; show p.2.1 < (ts2.length : Int); omega⟩, fun l hl => k1 l (((n2 t ht).2 p hp).2.subset hl)⟩⟩⟩, by show ls2.length ≤ 4; omega, n1, fun t ht p hp => ((n2 t ht).2 p hp).2⟩
    rw [world_0] at fin
    exact fin
end
theorem sameG_sym {c c' : Stp → Stp → Bool} (hc : ∀ s s', c s s' = c' s' s) {t u : Tbl} (nt : (t.map (·.1)).Nodup) (nu : (u.map (·.1)).Nodup) : sameG c t u = sameG c' u t := by
  rw [Bool.eq_iff_iff, sameG_iff nt nu, sameG_iff nu nt]
  refine forall_congr' fun k => ?_
  cases t.lookup k with
  | none =>
    cases u.lookup k with
    | none => exact Iff.rfl
    | some _ => exact Iff.rfl
  | some a =>
    cases u.lookup k with
    | none => exact Iff.rfl
    | some b =>
      show c a b = true ↔ c' b a = true
      rw [hc]
theorem tabsG_sym {c c' : Stp → Stp → Bool} (hc : ∀ s s', c s s' = c' s' s) {a b : List Tbl} (na : ∀ t ∈ a, (t.map (·.1)).Nodup) (nb : ∀ t ∈ b, (t.map (·.1)).Nodup) : tabsG c a b = tabsG c' b a := by
  unfold tabsG
  by_cases hl : a.length = b.length
  · rw [beq_iff_eq.mpr hl, beq_iff_eq.mpr hl.symm, hl]
    refine congrArg _ ?_
    rw [Bool.eq_iff_iff, List.all_eq_true, List.all_eq_true]
    refine forall_congr' fun i => forall_congr' fun hi => ?_
    have hi := List.mem_range.mp hi
    obtain ⟨t1, a1, b1⟩ := getD_at (l := a) (i := i) (by omega)
    obtain ⟨t2, a2, b2⟩ := getD_at (l := b) hi
    rw [b1, b2, sameG_sym hc (na t1 (List.mem_of_getElem? a1)) (nb t2 (List.mem_of_getElem? a2))]
  · rw [beq_eq_false_iff_ne.mpr hl, beq_eq_false_iff_ne.mpr (fun z => hl z.symm), Bool.false_and, Bool.false_and]
theorem sH_sym (l1 l2 : List Str) (s s' : Stp) : sH l1 l2 s s' = sH l2 l1 s' s := by
  unfold sH
  exact decide_eq_decide.mpr ⟨fun h => ⟨h.1.symm, h.2.symm⟩, fun h => ⟨h.1.symm, h.2.symm⟩⟩
theorem dec_comm {α : Type} [DecidableEq α] (a b : α) : decide (a = b) = decide (b = a) := decide_eq_decide.mpr ⟨Eq.symm, Eq.symm⟩
theorem eqV_sym {a b : Dv} (ka : a.ok) (kb : b.ok) : eqV a b = eqV b a := by
  unfold eqV
  rw [dec_comm a.bs b.bs, dec_comm a.ls b.ls, tabsG_sym (sH_sym a.ls b.ls) (fun t ht => (ka.2.2.2 t ht).1) (fun t ht => (kb.2.2.2 t ht).1)]
theorem eqC_sym {a b : Dv} (ka : a.ok) (kb : b.ok) {p1 p2 : List Int} {w1 w2 b1 b2 : List Str} : eqC a b p1 p2 w1 w2 b1 b2 = eqC b a p2 p1 w2 w1 b2 b1 := by
  unfold eqC
  rw [eqV_sym ka kb, dec_comm p1 p2, dec_comm w1 w2, dec_comm b1 b2]
/-- the law's steps against those of another world -/
theorem same_han {ls : List Str} {o : Int} (nl : ls.Nodup) {t u : Tbl} (nt : (t.map (·.1)).Nodup) (nu : (u.map (·.1)).Nodup) (ht : ∀ p ∈ t, p.2.2.Sublist ls) (hu : ∀ p ∈ u, p.2.2.Sublist ls) : sameG (sH ls ls) (hanT o t) u = sameG sS u t := by
  have nh : ((hanT o t).map (·.1)).Nodup := by rw [List.map_map]; exact nt
  rw [Bool.eq_iff_iff, sameG_iff nh nu, sameG_iff nu nt]
  refine forall_congr' fun k => ?_
  rw [look_han]
  cases h1 : t.lookup k with
  | none =>
    cases u.lookup k with
    | none => exact Iff.rfl
    | some _ => exact Iff.rfl
  | some a =>
    cases h2 : u.lookup k with
    | none => exact Iff.rfl
    | some b =>
      show sH ls ls (a.1, ordL o a.2) b = true ↔ sS b a = true
      have e1 : litOf ls (a.1, ordL o a.2) = a.2 := lit_han nl (ht _ (look_mem h1))
      have e2 : litOf ls b = b.2 := sub_self nl (hu _ (look_mem h2))
      unfold sH sS
      rw [decide_eq_true_iff, decide_eq_true_iff, e1, e2]
      constructor
      · rintro ⟨h, h'⟩
        exact Prod.ext h.symm h'.symm
      · intro h
        rw [h]
        exact ⟨rfl, rfl⟩
theorem tabs_hanE {ls : List Str} {o : Int} (nl : ls.Nodup) {a b : List Tbl} (na : ∀ t ∈ a, (t.map (·.1)).Nodup) (nb : ∀ t ∈ b, (t.map (·.1)).Nodup) (ha : ∀ t ∈ a, ∀ p ∈ t, p.2.2.Sublist ls) (hb : ∀ t ∈ b, ∀ p ∈ t, p.2.2.Sublist ls) :
    tabsG (sH ls ls) (a.map (hanT o)) b = tabsG sS b a := by
  unfold tabsG
  rw [List.length_map]
  by_cases hl : a.length = b.length
  · rw [beq_iff_eq.mpr hl, beq_iff_eq.mpr hl.symm, hl]
    refine congrArg _ ?_
    rw [Bool.eq_iff_iff, List.all_eq_true, List.all_eq_true]
    refine forall_congr' fun i => forall_congr' fun hi => ?_
    have hi := List.mem_range.mp hi
    obtain ⟨t1, a1, b1⟩ := getD_at (l := a) (i := i) (by omega)
    obtain ⟨t2, a2, b2⟩ := getD_at (l := b) hi
    obtain ⟨t3, a3, b3⟩ := getD_at (l := a.map (hanT o)) (i := i) (by rw [List.length_map]; omega)
    rw [List.getElem?_map, a1] at a3
    cases a3
    rw [b1, b2, b3, same_han nl (na t1 (List.mem_of_getElem? a1)) (nb t2 (List.mem_of_getElem? a2)) (ha t1 (List.mem_of_getElem? a1)) (hb t2 (List.mem_of_getElem? a2))]
  · rw [beq_eq_false_iff_ne.mpr hl, beq_eq_false_iff_ne.mpr (fun z => hl z.symm), Bool.false_and, Bool.false_and]
/-- the due parts -/
def dueB (d b : Dv) (c c2 : Cz) : Bool := decide (sset c2.ss = sset c.ss) && (decide (wlC b c2 = wlC d c) && decide (ulC b c2 = ulC d c))
theorem sw_eq {d b : Dv} {o : Int} {c c2 : Cz} (dw : DwP d) (sw : SwP d b) :
    eqC (hanV d o) b (sset c.ss) (sset c2.ss) (wlC d c) (wlC b c2) (ulC d c) (ulC b c2) = (((tabsG sS b.ts d.ts && decide (b.bs = d.bs)) && decide (b.ls = d.ls)) && dueB d b c c2) := by
  unfold eqC eqV dueB
  show (decide (d.bs = b.bs) && (decide (d.ls = b.ls) && tabsG (sH d.ls b.ls) (d.ts.map (hanT o)) b.ts) && _) = _
  rw [dec_comm d.bs b.bs, dec_comm d.ls b.ls, dec_comm (sset c.ss) (sset c2.ss), dec_comm (wlC d c) (wlC b c2), dec_comm (ulC d c) (ulC b c2)]
  by_cases hl : b.ls = d.ls
  · have e := tabs_hanE (o := o) dw.ln.1 (a := d.ts) (b := b.ts) (fun t ht => ((dw.tt t ht).ok dw.bn.1).1) (fun t ht => (sw.ok.2.2.2 t ht).1) (fun t ht p hp => ((dw.tt t ht).2 p hp).2) sw.tt
    rw [hl, e]
    cases tabsG sS b.ts d.ts <;> cases decide (b.bs = d.bs) <;> simp
  · rw [decide_eq_false hl]
    cases tabsG sS b.ts d.ts <;> cases decide (b.bs = d.bs) <;> simp
theorem due_eqR (d b : Dv) (c c2 : Cz) : EqR 4 (dueD b c2) (dueD d c) (dueB d b c c2) := by
  have pl : ∀ {α : Type} [Enc α] [DecidableEq α] (x y : α), Enc.dep α ≤ 3 → EqR 3 (Enc.d x) (Enc.d y) (decide (x = y)) := fun {α} _ _ x y h => by
    have := EqR.pl (n := 3) (Enc.ok (α := α) x) (Enc.ok (α := α) y) (Nat.le_trans (Enc.le (α := α) x) h)
    rw [enc_dec] at this
    exact this
  have h := EqR.dic (n := 3) (ks := [((.inr (Str.ofString "states") : Key), intsD (sset c2.ss)), (.inr (Str.ofString "lamps"), dS (wlC b c2)), (.inr (Str.ofString "buttons"), dS (ulC b c2))]) (ls := [((.inr (Str.ofString "states") : Key), intsD (sset c.ss)), (.inr (Str.ofString "lamps"), dS (wlC d c)), (.inr (Str.ofString "buttons"), dS (ulC d c))])
    (f := fun k => if k = .inr (Str.ofString "states") then decide (sset c2.ss = sset c.ss) else if k = .inr (Str.ofString "lamps") then decide (wlC b c2 = wlC d c) else decide (ulC b c2 = ulC d c)) (by simp only [List.map_cons, List.map_nil]; decide) fun k x y hk hy => by
      simp only [List.mem_cons, List.not_mem_nil, or_false, Prod.mk.injEq] at hk
      rcases hk with ⟨rfl, rfl⟩ | ⟨rfl, rfl⟩ | ⟨rfl, rfl⟩
      · rw [due_states] at hy
        cases hy
        exact pl (α := List Int) _ _ (by decide)
      · rw [due_lamps] at hy
        cases hy
        exact pl (α := List Str) _ _ (by decide)
      · rw [due_buttons] at hy
        cases hy
        exact pl (α := List Str) _ _ (by decide)
  have e : ∀ z1 z2 z3 : Bool, ((3 : Nat) == 3 && [((.inr (Str.ofString "states") : Key), z1), (.inr (Str.ofString "lamps"), z2), (.inr (Str.ofString "buttons"), z3)].all fun p => p.2) = (z1 && (z2 && z3)) := fun z1 z2 z3 => by cases z1 <;> cases z2 <;> cases z3 <;> rfl
  unfold dueB
  rw [← e]
  exact h
theorem CzP.w {d : Dv} {c : Cz} (h : CzP d 5 c) : CzW d c := ⟨by have := h.s6; omega, h.st, fun xs e => ⟨by have := (h.ll xs e).1; omega, (h.ll xs e).2⟩, fun xs e => ⟨by have := (h.bl xs e).1; omega, (h.bl xs e).2⟩⟩
theorem CzW.sw {d b : Dv} {c : Cz} (h : CzW d c) (sw : SwP d b) : CzW b c := ⟨h.s6, fun s hs => ⟨(h.st s hs).1, by have := (h.st s hs).2; have := sw.tl.1; omega⟩, fun xs e => ⟨(h.ll xs e).1, fun x hx => sw.ls x ((h.ll xs e).2 x hx)⟩, fun xs e => ⟨(h.bl xs e).1, fun x hx => sw.bs.mem_iff.mpr ((h.bl xs e).2 x hx)⟩⟩
theorem key_ne {a b : Str} (h : a ≠ b) : (Sum.inr a : Key) ∉ [(Sum.inr b : Key)] := fun m => h (Sum.inr.inj (List.mem_singleton.mp m))
theorem key_s : (Sum.inr (Str.ofString "states") : Key) ∉ [(Sum.inr (Str.ofString "lamps") : Key), Sum.inr (Str.ofString "buttons")] := fun m => by
  rcases List.mem_cons.mp m with h | h
  · exact absurd (Sum.inr.inj h) (by decide)
  · exact key_ne (by decide) h
theorem key_l : (Sum.inr (Str.ofString "lamps") : Key) ∉ [(Sum.inr (Str.ofString "states") : Key)] := key_ne (by decide)
theorem key_b : (Sum.inr (Str.ofString "lamps") : Key) ∉ [(Sum.inr (Str.ofString "buttons") : Key)] := key_ne (by decide)
theorem key_c : (Sum.inr (Str.ofString "buttons") : Key) ∉ [(Sum.inr (Str.ofString "states") : Key), Sum.inr (Str.ofString "lamps")] := fun m => by
  rcases List.mem_cons.mp m with h | h
  · exact absurd (Sum.inr.inj h) (by decide)
  · exact key_ne (by decide) h
section
variable {P : Program} {w : World} {K : PySem.W.Frag} {mg : Str → Option Value} {base : Heap}
def F_retold : FnW := fun os Φ _ => ∃ (d : Dv) (c : Cz), os = [.fz (czD c)] ∧ CzP d 5 c ∧ ∀ c2, CzW d c2 → Φ (czO c2) os
theorem f__law_retold_len {os : List Ot} {Φ : Ot → List Ot → Prop} {Ψ : XW} (h : F_retold os Φ Ψ) : os.length = 1 := by
  obtain ⟨_, _, e, _⟩ := h
  rw [e]; rfl
theorem ok_retold (T : Txt K mg) : Kv SL P w K mg base 1 0 "_law_retold" P__law_retold F_retold := by
  refine kv_of0 (fun i => ([] : List Nat).contains i) T.d__law_retold sc__law_retold (fun _ _ _ _ _ _ us hl => match us, hl with | [_], _ => rfl) ?hl fun f cdv A outer s H E hr => ?_
  case hl => intro os Φ Ψ h; exact f__law_retold_len h
  have st0 : ∀ o0 : Ot, stO0 N__law_retold [o0] = [o0, .no] := fun _ => rfl
  have hu := hu_of hr
  refine ⟨_, _, pss_cons (ps_set (i := 1) sc__law_retold.nd rfl (Or.inl rfl) (pe_dispN [Str.ofString "states", Str.ofString "lamps", Str.ofString "buttons"] [(Str.ofString "states", _), (Str.ofString "lamps", _), (Str.ofString "buttons", _)] rfl (pps_cons pe_str (pe_op op_cat (k_revL K (pe_dget hu (pv 0) pe_str (fun _ _ => rfl))) (pe_slice (ks_list K) (pe_dget hu (pv 0) pe_str (fun _ _ => rfl)) (po_some (pe_un un_neg pe_int)) po_none)) (pps_cons pe_str pe_non (pps_cons pe_str pe_non pps_nil))) (by decide) (by decide) (by decide)))
  (pss_cons (ps_if (pt_cmpR op_notN (pe_dget hu (pv 0) pe_str (fun _ _ => rfl)) pe_non (nomark _)) (pss_one (ps_dput hu (pv 1) pe_str (pe_op op_cat (k_revL K (pe_dget hu (pv 0) pe_str (fun _ _ => rfl))) (pe_dget hu (pv 0) pe_str (fun _ _ => rfl))) rfl)) (pss_nil))
  (pss_cons (ps_if (pt_cmpR op_notN (pe_dget hu (pv 0) pe_str (fun _ _ => rfl)) pe_non (nomark _)) (pss_one (ps_dput hu (pv 1) pe_str (pe_op op_cat (k_revL K (pe_dget hu (pv 0) pe_str (fun _ _ => rfl))) (pe_dget hu (pv 0) pe_str (fun _ _ => rfl))) rfl)) (pss_nil))
  (pss_one (ps_ret (pv 1))))), VS.fit (s_seq (s_asg (v_dispK (ks := [Str.ofString "states", Str.ofString "lamps", Str.ofString "buttons"]) (a_cons (v_d (d_op lf_cat (d_revL (d_dg (d_var (i := 0)) (d_str))) (d_sl ls_list (d_dg (d_var (i := 0)) (d_str)) (o_some (d_un lf_neg (d_int))) o_none))) (a_cons (v_d (d_non)) (a_cons (v_d (d_non)) (a_nil))))))
  (s_seqM (s_if (t_test (d_op lf_notN (d_dg (d_var (i := 0)) (d_str)) (d_non))) (s_putD (i := 1) (v_d (d_op lf_cat (d_revL (d_dg (d_var (i := 0)) (d_str))) (d_dg (d_var (i := 0)) (d_str)))) (d_str)) (s_next))
  (s_seqM (s_if (t_test (d_op lf_notN (d_dg (d_var (i := 0)) (d_str)) (d_non))) (s_putD (i := 1) (v_d (d_op lf_cat (d_revL (d_dg (d_var (i := 0)) (d_str))) (d_dg (d_var (i := 0)) (d_str)))) (d_str)) (s_next))
  (s_ret (v_var (i := 1)))))) ?hc rfl, fun os Φ Ψ hF => ?_⟩
  case hc => first | exact Nat.le_of_ble_eq_true rfl | (unfold FORN; omega)
  obtain ⟨d, ⟨ss, lx, bx⟩, rfl, cp, q⟩ := hF
  have s6 : ss.length ≤ 6 := cp.s6
  refine ⟨rfl, ?_⟩
  rw [st0]
  walk_at "ga"
  refine e_dgS (cz_states ⟨ss, lx, bx⟩) ?_
  walk_at "ga"
  refine e_dgS (cz_states ⟨ss, lx, bx⟩) ?_
  walk_at "ga"
  refine g_cat (by have := cutG_len (ss.map Dt.int) (some (-1)) none; simp only [List.length_map, List.length_reverse] at this ⊢; omega) ?_
  rw [cutG_map, ← List.map_reverse, ← List.map_append]
  have rl : (ss.reverse ++ cutG ss (some (-1)) none).length ≤ 12 := by have := cutG_len ss (some (-1)) none; rw [List.length_append, List.length_reverse]; omega
  have rm : ∀ x ∈ ss.reverse ++ cutG ss (some (-1)) none, x ∈ ss := fun x hm => by
    rcases List.mem_append.mp hm with m | m
    · exact List.mem_reverse.mp m
    · exact cutG_mem m
  generalize ss.reverse ++ cutG ss (some (-1)) none = s2 at rl rm
  walk_at "ga"
  refine seqM_e [1] (fun u => ∃ l2 : Option (List Str), (∀ xs, l2 = some xs → xs.length ≤ 20 ∧ ∀ x ∈ xs, x ∈ d.ls) ∧ u = [(1, czO ⟨s2, l2, none⟩)]) (fun N hN => ?_) (fun u ⟨l2, hl2, e⟩ => ?_)
  · cases lx with
    | none =>
      refine if_m False True (fun N2 hA hB => ?_) (fun c => c.elim) (fun _ => ?_)
      · walk_at "ga"
        refine e_dgS (cz_lamps ⟨ss, none, bx⟩) ?_
        walk_at "ga"
        exact hB trivial
      · walk_at "ga"
        exact hN [(1, _)] _ (by walk_at "eq") (by walk_at "hs") ⟨none, fun xs z => (nomatch z), rfl⟩
    | some ls =>
      have hl := cp.ll ls rfl
      refine if_m True False (fun N2 hA hB => ?_) (fun _ => ?_) (fun c => c.elim)
      · walk_at "ga"
        refine e_dgS (cz_lamps ⟨ss, some ls, bx⟩) ?_
        walk_at "ga"
        exact hA trivial
      · refine g_putD ?_
        walk_at "ga"
        refine e_dgS (cz_lamps ⟨ss, some ls, bx⟩) ?_
        walk_at "ga"
        refine e_dgS (cz_lamps ⟨ss, some ls, bx⟩) ?_
        walk_at "ga"
        refine g_cat (by simp only [List.length_map, List.length_reverse]; omega) ?_
        rw [← List.map_reverse, ← List.map_append]
        walk_at "ga"
        refine ⟨⟨_, _, _, dc_id rfl⟩, ?_⟩
        walk_at "ga"
        refine ⟨_, .inr (Str.ofString "lamps"), rfl, .inr ⟨[.inr (Str.ofString "states")], [.inr (Str.ofString "buttons")], [.fz (intsD s2)], .fz .non, [.fz .non], dc_id rfl, key_l, key_b, rfl, by decide, ?_⟩⟩
        walk_at "ga"
        refine hN [(1, _)] _ (by walk_at "eq") (by walk_at "hs") ⟨some (ls.reverse ++ ls), fun xs z => ?_, rfl⟩
        cases z
        refine ⟨by rw [List.length_append, List.length_reverse]; omega, fun x hm => ?_⟩
        rcases List.mem_append.mp hm with m | m
        · exact hl.2 x (List.mem_reverse.mp m)
        · exact hl.2 x m
  subst e
  walk_at "ga"
  refine seqM_e [1] (fun u => ∃ b2 : Option (List Str), (∀ xs, b2 = some xs → xs.length ≤ 20 ∧ ∀ x ∈ xs, x ∈ d.bs) ∧ u = [(1, czO ⟨s2, l2, b2⟩)]) (fun N hN => ?_) (fun u ⟨b2, hb2, e⟩ => ?_)
  · cases bx with
    | none =>
      refine if_m False True (fun N2 hA hB => ?_) (fun c => c.elim) (fun _ => ?_)
      · walk_at "ga"
        refine e_dgS (cz_buttons ⟨ss, lx, none⟩) ?_
        walk_at "ga"
        exact hB trivial
      · walk_at "ga"
        exact hN [(1, _)] _ (by walk_at "eq") (by walk_at "hs") ⟨none, fun xs z => (nomatch z), rfl⟩
    | some bs =>
      have hl := cp.bl bs rfl
      refine if_m True False (fun N2 hA hB => ?_) (fun _ => ?_) (fun c => c.elim)
      · walk_at "ga"
        refine e_dgS (cz_buttons ⟨ss, lx, some bs⟩) ?_
        walk_at "ga"
        exact hA trivial
      · refine g_putD ?_
        walk_at "ga"
        refine e_dgS (cz_buttons ⟨ss, lx, some bs⟩) ?_
        walk_at "ga"
        refine e_dgS (cz_buttons ⟨ss, lx, some bs⟩) ?_
        walk_at "ga"
        refine g_cat (by simp only [List.length_map, List.length_reverse]; omega) ?_
        rw [← List.map_reverse, ← List.map_append]
        walk_at "ga"
        refine ⟨⟨_, _, _, dc_id rfl⟩, ?_⟩
        walk_at "ga"
        refine ⟨_, .inr (Str.ofString "buttons"), rfl, .inr ⟨[.inr (Str.ofString "states"), .inr (Str.ofString "lamps")], [], [.fz (intsD s2), .fz (optD l2)], .fz .non, [], dc_id rfl, key_c, List.not_mem_nil, rfl, by decide, ?_⟩⟩
        walk_at "ga"
        refine hN [(1, _)] _ (by walk_at "eq") (by walk_at "hs") ⟨some (bs.reverse ++ bs), fun xs z => ?_, rfl⟩
        cases z
        refine ⟨by rw [List.length_append, List.length_reverse]; omega, fun x hm => ?_⟩
        rcases List.mem_append.mp hm with m | m
        · exact hl.2 x (List.mem_reverse.mp m)
        · exact hl.2 x m
  subst e
  walk_at "ga"
  exact q ⟨s2, l2, b2⟩ ⟨by show s2.length ≤ 20; omega, fun s hs => cp.st s (rm s hs), hl2, hb2⟩
def F_strange21 (K : PySem.W.Frag) : FnW := fun os Φ _ => ∃ (b : Dv) (u : List Tbl) (p : List Int) (wl ul : List Str) (tb : List Tbl) (d : Dv) (o : Int), os = [.fz (caseD K (devD (cD K) b u) p wl ul tb), .fz (worldD d o)] ∧ b.ok ∧ permT u b.ts ∧ p.length ≤ 1000 ∧ Φ (.fz (.bl true)) os
theorem f__law_strange_len {os : List Ot} {Φ : Ot → List Ot → Prop} {Ψ : XW} (h : F_strange21 K os Φ Ψ) : os.length = 2 := by
  obtain ⟨_, _, _, _, _, _, _, _, e, _⟩ := h
  rw [e]; rfl
theorem ok_strange (T : Txt K mg) : Kv SL P w K mg base 5 0 "_law_strange" P__law_strange (F_strange21 K) := by
  have G_Case___eq__ := ok_eqCG (P := P) (w := w) (base := base) T
  have G_Case_device := ok_cdevice (P := P) (w := w) (base := base) T
  refine kv_of0 (fun i => ([] : List Nat).contains i) T.d__law_strange sc__law_strange (fun _ _ _ _ _ _ us hl => match us, hl with | [_, _], _ => rfl) ?hl fun f cdv A outer s H E hr => ?_
  case hl => intro os Φ Ψ h; exact f__law_strange_len h
  have st0 : ∀ o0 o1 : Ot, stO0 N__law_strange [o0, o1] = [o0, o1, .no] := fun _ _ => rfl
  have hu := hu_of hr
  refine ⟨_, _, pss_cons (ps_for PassesOwn.never rfl (ki_list K (pe_lst (pa_cons (k_prop G_Case_device hr (by omega) (pv 0) T.cl_Case) (pa_cons (pe_callTy (k_list K) (by rfl) T.f_list (by decide +kernel) (pa_cons (pe_dget hu (pv 1) pe_str (fun _ _ => rfl)) pa_nil)) (pa_cons (pe_tup (pa_cons pe_int (pa_cons pe_int pa_nil))) (pa_cons pe_int (pa_cons pe_str (pa_cons pe_non pa_nil)))))))) (pg_name (i := 2) sc__law_strange.nd rfl (Or.inl rfl))
  (pss_one (ps_if (PW.pt (pw_or (pt_cmpR (k_eqX G_Case___eq__ hr (by omega)) (pv 0) (pv 2) (nomark _)) (pw_or1 (pt_not (pt_cmpR (k_neX G_Case___eq__ hr (by omega) T.i_Case T.ne_Case) (pv 0) (pv 2) (nomark _)))))) (pss_one (ps_ret pe_bl)) (pss_nil))))
  (pss_one (ps_ret pe_bl)), VS.fit (s_seq (s_for (tg := .nm 2) (i_list (d_lst (l_cons (d_x (v_prop (d_var (i := 0)))) (l_cons (d_cb lc_list (l_cons (d_dg (d_var (i := 1)) (d_str)) (l_nil))) (l_cons (d_tup (l_cons (d_int) (l_cons (d_int) (l_nil)))) (l_cons (d_int) (l_cons (d_str) (l_cons (d_non) (l_nil)))))))))
  (s_if (t_or (t_test (d_cmpX (d_var (i := 0)) (d_var (i := 2)))) (t_not (t_test (d_cmpX (d_var (i := 0)) (d_var (i := 2)))))) (s_retD (d_bl)) (s_next)))
  (s_retD (d_bl))) ?hc rfl, fun os Φ Ψ hF => ?_⟩
  case hc => first | exact Nat.le_of_ble_eq_true rfl | (unfold FORN; omega)
  obtain ⟨b, u, p, wl, ul, tb, d, o, rfl, kb, hu2, hp, q⟩ := hF
  refine ⟨rfl, ?_⟩
  rw [st0]
  walk_at "ga"
  refine ⟨_, p, wl, ul, _, rfl, hp, ?_⟩
  walk_at "ga"
  refine e_dgS (wd_buttons d o) ?_
  walk_at "ga"
  refine for_x [devD (cD K) b u, dS d.bs, .tup [.int 1, .int 2], .int 3, .str (Str.ofString "case"), .non] id [2] (fun a u => u = []) rfl ?_ (by walk_at "hu") ?_ ?_
  · exact ⟨[], by walk_at "hs", rfl⟩
  · intro a y b2 u2 sp e
    subst e
    have hy : NoCase K y ∧ othD K (cC K) y := by
      have hm : y ∈ [devD (cD K) b u, dS d.bs, .tup [.int 1, .int 2], .int 3, .str (Str.ofString "case"), .non] := by rw [sp]; simp
      simp only [List.mem_cons, List.not_mem_nil, or_false] at hm
      rcases hm with rfl | rfl | rfl | rfl | rfl | rfl
      · exact ⟨.inr ⟨_, rfl⟩, .inr T.sb_Device_Case.2⟩
      · exact ⟨.inl ⟨_, rfl⟩, trivial⟩
      · exact ⟨.inl ⟨_, rfl⟩, trivial⟩
      · exact ⟨.inl ⟨_, rfl⟩, trivial⟩
      · exact ⟨.inl ⟨_, rfl⟩, trivial⟩
      · exact ⟨.inl ⟨_, rfl⟩, trivial⟩
    walk_at "ga"
    intro N hN
    walk_at "go"
    refine ⟨⟨_, rfl⟩, hy.2, b, u, p, wl, ul, tb, y, rfl, kb, hu2, .inl ⟨hy.1, _, rfl, ?_⟩⟩
    walk_at "go"
    refine (if_neg (by decide)).mpr ?_
    walk_at "go"
    refine ⟨⟨_, rfl⟩, hy.2, b, u, p, wl, ul, tb, y, rfl, kb, hu2, .inl ⟨hy.1, _, rfl, ?_⟩⟩
    walk_at "go"
    exact hN [] _ (by walk_at "eq") (by walk_at "hs") rfl
  · intro u2 e
    subst e
    walk_at "ga"
    exact q
end
theorem cz_own (c : Cz) : toD (czO c) = some (czD c) := by
  simp only [toD, toDs, toDs_fz, Option.map_some]
  rfl
theorem g_frzT {i : Nat} {ρ : List Ot} {E : EdV} {w : SW} {o : Ot} {d : Dt} (e : ρ[i]? = some o) (t : toD o = some d) (h : stN i (.fz d) ρ fun ρ' => w ρ' E) : sFrz i w ρ E := ⟨_, _, e, t, h⟩
section
variable {P : Program} {w : World} {K : PySem.W.Frag} {mg : Str → Option Value} {base : Heap}
def F_right21 (K : PySem.W.Frag) : FnW := fun os Φ _ => ∃ (cell : Int) (d : Dv) (o : Int) (t : List Tbl) (c : Cz), os = [.fz (.int cell), .fz (worldD d o), .fz (dueD d c), .fz (casD K d o t c), .fz (czD c)] ∧ DwP d ∧ CzP d 5 c ∧ permT t (hanV d o).ts ∧ Φ (.fz (.bl true)) os
theorem f__law_right_len {os : List Ot} {Φ : Ot → List Ot → Prop} {Ψ : XW} (h : F_right21 K os Φ Ψ) : os.length = 5 := by
  obtain ⟨_, _, _, _, _, e, _⟩ := h
  rw [e]; rfl
theorem ok_right (T : Txt K mg) : Kv SL P w K mg base 9 0 "_law_right" P__law_right (F_right21 K) := by
  have G__law_draws := ok_draws (P := P) (w := w) (base := base) T
  have G__law_other_world := ok_otherW (P := P) (w := w) (base := base) T
  have G__law_retold := ok_retold (P := P) (w := w) (base := base) T
  have G__law_case := ok_lcase (P := P) (w := w) (base := base) T
  have G__law_further := ok_further (P := P) (w := w) (base := base) T
  have G__law_built := ok_builtG (P := P) (w := w) (base := base) T
  have G__law_due := ok_ldue (P := P) (w := w) (base := base) T
  have G_Case___eq__ := ok_eqCG (P := P) (w := w) (base := base) T
  have G__law_strange := ok_strange (P := P) (w := w) (base := base) T
  refine kv_of0 (fun i => ([] : List Nat).contains i) T.d__law_right sc__law_right (fun _ _ _ _ _ _ us hl => match us, hl with | [_, _, _, _, _], _ => rfl) ?hl fun f cdv A outer s H E hr => ?_
  case hl => intro os Φ Ψ h; exact f__law_right_len h
  have st0 : ∀ o0 o1 o2 o3 o4 : Ot, stO0 N__law_right [o0, o1, o2, o3, o4] = [o0, o1, o2, o3, o4, .no, .no, .no, .no, .no, .no, .no, .no] := fun _ _ _ _ _ => rfl
  have hu := hu_of hr
  refine ⟨_, _, pss_cons (ps_set (i := 5) sc__law_right.nd rfl (Or.inl rfl) (k_kv G__law_draws hr (by omega) (pa_cons (pv 0) (pa_cons pe_int pa_nil))))
  (pss_cons (ps_set (i := 6) sc__law_right.nd rfl (Or.inl rfl) (k_kv G__law_other_world hr (by omega) (pa_cons (pe_slice (ks_list K) (pv 5) po_none (po_some pe_int)) (pa_cons (pv 1) pa_nil))))
  (pss_cons (ps_set (i := 7) sc__law_right.nd rfl (Or.inl rfl) (k_kv G__law_retold hr (by omega) (pa_cons (pv 4) pa_nil)))
  (pss_cons (ps_if (pt_cmpR op_eq (pe_op op_mod (pe_callTy call_int1 (by rfl) T.f_int (by decide +kernel) (pa_cons (pe_ix (kx_list K) (pv 5) pe_int (fun _ _ => rfl)) pa_nil)) pe_int) pe_int (nomark _)) (pss_one (ps_set (i := 7) sc__law_right.nd rfl (Or.inl rfl) (k_kv G__law_case hr (by omega) (pa_cons (k_kv G__law_further hr (by omega) (pa_cons (pv 0) (pa_cons (pe_op op_pow pe_int pe_int) pa_nil))) (pa_cons (pv 1) (pa_cons pe_int pa_nil)))))) (pss_nil))
  (pss_cons (ps_if (pt_cmpR op_eq (pe_op op_mod (pe_callTy call_int1 (by rfl) T.f_int (by decide +kernel) (pa_cons (pe_ix (kx_list K) (pv 5) pe_int (fun _ _ => rfl)) pa_nil)) pe_int) pe_int (nomark _)) (pss_cons (ps_set (i := 8) sc__law_right.nd rfl (Or.inl rfl) (k_kv G__law_case hr (by omega) (pa_cons (k_kv G__law_further hr (by omega) (pa_cons (pv 0) (pa_cons (pe_op op_pow pe_int pe_int) pa_nil))) (pa_cons (pv 1) (pa_cons pe_int pa_nil)))))
  (pss_cons (ps_set (i := 9) sc__law_right.nd rfl (Or.inl rfl) (pe_ix (kx_list K) (pe_lst (pa_cons pe_str (pa_cons pe_str (pa_cons pe_str pa_nil)))) (pe_op op_mod (pe_callTy call_int1 (by rfl) T.f_int (by decide +kernel) (pa_cons (pe_ix (kx_list K) (pv 5) pe_int (fun _ _ => rfl)) pa_nil)) pe_int) (fun _ _ => rfl)))
  (pss_one (ps_dput hu (pv 7) (pv 9) (pe_dget hu (pv 8) (pv 9) (fun _ _ => rfl)) rfl)))) (pss_nil))
  (pss_cons (ps_set (i := 10) sc__law_right.nd rfl (Or.inl rfl) (k_kv G__law_built hr (by omega) (pa_cons (pv 6) (pa_cons (pv 7) pa_nil))))
  (pss_cons (ps_set (i := 11) sc__law_right.nd rfl (Or.inl rfl) (pe_and (pe_cmpR (k_eqR K hr) (pe_dget hu (pv 6) pe_str (fun _ _ => rfl)) (pe_dget hu (pv 1) pe_str (fun _ _ => rfl)) (nomark _)) (pe_one (pe_cmpR (k_eqP K hr) (pe_dget hu (pv 6) pe_str (fun _ _ => rfl)) (pe_dget hu (pv 1) pe_str (fun _ _ => rfl)) (nomark _)))))
  (pss_cons (ps_set (i := 11) sc__law_right.nd rfl (Or.inl rfl) (pe_and (pv 11) (pe_one (pe_cmpR (k_eqP K hr) (pe_dget hu (pv 6) pe_str (fun _ _ => rfl)) (pe_dget hu (pv 1) pe_str (fun _ _ => rfl)) (nomark _)))))
  (pss_cons (ps_set (i := 11) sc__law_right.nd rfl (Or.inl rfl) (pe_and (pv 11) (pe_one (pe_cmpR (k_eqR K hr) (k_kv G__law_due hr (by omega) (pa_cons (pv 6) (pa_cons (pv 7) pa_nil))) (pv 2) (nomark _)))))
  (pss_cons (ps_for PassesOwn.never rfl (ki_list K (pe_lst (pa_cons (pe_tup (pa_cons (pe_cmpR (k_eqI G_Case___eq__ hr (by omega)) (pv 3) (pv 10) (nomark _)) (pa_cons (pe_cmpR (k_neX G_Case___eq__ hr (by omega) T.i_Case T.ne_Case) (pv 3) (pv 10) (nomark _)) pa_nil))) (pa_cons (pe_tup (pa_cons (pe_cmpR (k_eqI G_Case___eq__ hr (by omega)) (pv 10) (pv 3) (nomark _)) (pa_cons (pe_cmpR (k_neX G_Case___eq__ hr (by omega) T.i_Case T.ne_Case) (pv 10) (pv 3) (nomark _)) pa_nil))) pa_nil)))) (pg_name (i := 12) sc__law_right.nd rfl (Or.inl rfl))
  (pss_one (ps_if (pt_cmpR (k_neP K hr) (pv 12) (pe_tup (pa_cons (pv 11) (pa_cons (pe_not (pv 11)) pa_nil))) (nomark _)) (pss_one (ps_ret pe_bl)) (pss_nil))))
  (pss_one (ps_ret (k_kv G__law_strange hr (by omega) (pa_cons (pv 10) (pa_cons (pv 1) pa_nil)))))))))))))), VS.fit (s_seq (s_asgD (d_x (v_callQ (a_cons (v_d (d_var (i := 0))) (a_cons (v_d (d_int)) (a_nil))))))
  (s_seq (s_asgD (d_x (v_callQ (a_cons (v_d (d_sl ls_list (d_var (i := 5)) o_none (o_some (d_int)))) (a_cons (v_d (d_var (i := 1))) (a_nil))))))
  (s_seq (s_asg (v_callQ (a_cons (v_d (d_var (i := 4))) (a_nil))))
  (s_seqM (s_if (t_test (d_op lf_eq (d_op lf_mod (d_cb lc_int (l_cons (d_op lf_ixL (d_var (i := 5)) (d_int)) (l_nil))) (d_int)) (d_int))) (s_asg (v_callQ (a_cons (v_d (d_x (v_callQ (a_cons (v_d (d_var (i := 0))) (a_cons (v_d (d_op lf_pow (d_int) (d_int))) (a_nil)))))) (a_cons (v_d (d_var (i := 1))) (a_cons (v_d (d_int)) (a_nil)))))) (s_next))
  (s_seqM (s_if (t_test (d_op lf_eq (d_op lf_mod (d_cb lc_int (l_cons (d_op lf_ixL (d_var (i := 5)) (d_int)) (l_nil))) (d_int)) (d_int))) (s_seq (s_asgD (d_f (v_callQ (a_cons (v_d (d_x (v_callQ (a_cons (v_d (d_var (i := 0))) (a_cons (v_d (d_op lf_pow (d_int) (d_int))) (a_nil)))))) (a_cons (v_d (d_var (i := 1))) (a_cons (v_d (d_int)) (a_nil)))))))
  (s_seq (s_asgD (d_op lf_ixL (d_lst (l_cons (d_str) (l_cons (d_str) (l_cons (d_str) (l_nil))))) (d_op lf_mod (d_cb lc_int (l_cons (d_op lf_ixL (d_var (i := 5)) (d_int)) (l_nil))) (d_int))))
  (s_putD (i := 7) (v_d (d_dg (d_var (i := 8)) (d_var (i := 9)))) (d_var (i := 9))))) (s_next))
  (s_seq (s_frz (i := 7) (s_asgD (d_x (v_callQ (a_cons (v_d (d_var (i := 6))) (a_cons (v_d (d_var (i := 7))) (a_nil)))))))
  (s_seqM (s_asgD (d_and (d_op lf_eqR (d_dg (d_var (i := 6)) (d_str)) (d_dg (d_var (i := 1)) (d_str))) (d_op lf_eqP (d_dg (d_var (i := 6)) (d_str)) (d_dg (d_var (i := 1)) (d_str)))))
  (s_seqM (s_asgD (d_and (d_var (i := 11)) (d_op lf_eqP (d_dg (d_var (i := 6)) (d_str)) (d_dg (d_var (i := 1)) (d_str)))))
  (s_seqM (s_frz (i := 7) (s_asgD (d_and (d_var (i := 11)) (d_op lf_eqR (d_f (v_callQ (a_cons (v_d (d_var (i := 6))) (a_cons (v_d (d_var (i := 7))) (a_nil))))) (d_var (i := 2))))))
  (s_seq (s_for (tg := .nm 12) (i_list (d_lst (l_cons (d_tup (l_cons (d_eqI (d_var (i := 3)) (d_var (i := 10))) (l_cons (d_cmpX (d_var (i := 3)) (d_var (i := 10))) (l_nil)))) (l_cons (d_tup (l_cons (d_eqI (d_var (i := 10)) (d_var (i := 3))) (l_cons (d_cmpX (d_var (i := 10)) (d_var (i := 3))) (l_nil)))) (l_nil)))))
  (s_if (t_test (d_op lf_neP (d_var (i := 12)) (d_tup (l_cons (d_var (i := 11)) (l_cons (d_not (d_var (i := 11))) (l_nil)))))) (s_retD (d_bl)) (s_next)))
  (s_retD (d_x (v_callQ (a_cons (v_d (d_var (i := 10))) (a_cons (v_d (d_var (i := 1))) (a_nil)))))))))))))))) ?hc rfl, fun os Φ Ψ hF => ?_⟩
  case hc => first | exact Nat.le_of_ble_eq_true rfl | (unfold FORN; omega)
  obtain ⟨cell, d, o, t, c, rfl, dw, cp, hp, q⟩ := hF
  have tl := dw.tl
  have bl := dw.bl
  have ll := dw.ll
  refine ⟨rfl, ?_⟩
  rw [st0]
  walk_at "ga"
  refine ⟨cell, 5, rfl, by omega, fun xs hx hb => ?_⟩
  walk_at "ga"
  rw [cutG_map, show (some (3 : Int)) = some ((3 : Nat) : Int) from rfl, cutG_take]
  refine ⟨xs.take 3, d, o, rfl, by rw [List.length_take]; omega, fun x hm => hb x (List.mem_of_mem_take hm), dw, fun b sw => ?_⟩
  walk_at "ga"
  refine ⟨d, c, rfl, cp, fun c1 cw1 => ?_⟩
  walk_at "ga"
  refine seqM_e [7] (fun u => ∃ c2, CzW d c2 ∧ u = [(7, czO c2)]) (fun N hN => ?_) (fun u ⟨c2, cw2, e⟩ => ?_)
  · walk_at "ga"
    refine g_xs hx hb (by omega) (by omega) fun v3 a3 b3 => ?_
    walk_at "ga"
    refine ite_any (fun z => ?_) (fun z => ?_)
    · walk_at "ga"
      refine g_pow 16366888723117363200000 (by decide) (by decide) ?_
      walk_at "ga"
      refine ⟨cell, _, rfl, by decide, by decide, fun v => ?_⟩
      walk_at "ga"
      refine ⟨v, d, o, 5, rfl, dw, by omega, by omega, fun c2 cp2 => ?_⟩
      walk_at "ga"
      exact hN [(7, _)] _ (by walk_at "eq") (by walk_at "hs") ⟨c2, cp2.w, rfl⟩
    · exact hN [(7, _)] _ (by walk_at "eq") (by walk_at "hs") ⟨c1, cw1, rfl⟩
  subst e
  clear cw1
  walk_at "ga"
  refine seqM_e [7, 8, 9] (fun u => ∃ c3, CzW d c3 ∧ u = [(7, czO c3)]) (fun N hN => ?_) (fun u ⟨c3, cw3, e⟩ => ?_)
  · walk_at "ga"
    refine g_xs hx hb (by omega) (by omega) fun v3 a3 b3 => ?_
    walk_at "ga"
    refine ite_any (fun z => ?_) (fun z => ?_)
    · walk_at "ga"
      refine g_pow 16366888723117363200000 (by decide) (by decide) ?_
      walk_at "ga"
      refine ⟨cell, _, rfl, by decide, by decide, fun v => ?_⟩
      walk_at "ga"
      refine ⟨v, d, o, 5, rfl, dw, by omega, by omega, fun c4 cp4 => ?_⟩
      have cw4 := cp4.w
      refine ⟨_, cz_own c4, ?_⟩
      walk_at "ga"
      refine g_xs hx hb (by omega) (by omega) fun v4 a4 b4 => ?_
      walk_at "ga"
      obtain ⟨zz, hz⟩ : ∃ y, v4 % 3 = y := ⟨_, rfl⟩
      rw [hz]
      have h3 : zz = 0 ∨ zz = 1 ∨ zz = 2 := by omega
      rcases h3 with rfl | rfl | rfl
      · refine g_ixL (d := .str (Str.ofString "states")) rfl ?_
        walk_at "ga"
        refine g_putD ?_
        walk_at "ga"
        refine e_dgS (cz_states c4) ?_
        walk_at "ga"
        refine ⟨⟨_, _, _, dc_id rfl⟩, ?_⟩
        walk_at "ga"
        refine ⟨_, .inr (Str.ofString "states"), rfl, .inr ⟨[], [.inr (Str.ofString "lamps"), .inr (Str.ofString "buttons")], [], .fz (intsD c2.ss), [.fz (optD c2.lx), .fz (optD c2.bx)], dc_id rfl, List.not_mem_nil, key_s, rfl, by decide, ?_⟩⟩
        walk_at "ga"
        exact hN [(7, _)] _ (by walk_at "eq") (by walk_at "hs") ⟨⟨c4.ss, c2.lx, c2.bx⟩, ⟨cw4.s6, cw4.st, cw2.ll, cw2.bl⟩, rfl⟩
      · refine g_ixL (d := .str (Str.ofString "lamps")) rfl ?_
        walk_at "ga"
        refine g_putD ?_
        walk_at "ga"
        refine e_dgS (cz_lamps c4) ?_
        walk_at "ga"
        refine ⟨⟨_, _, _, dc_id rfl⟩, ?_⟩
        walk_at "ga"
        refine ⟨_, .inr (Str.ofString "lamps"), rfl, .inr ⟨[.inr (Str.ofString "states")], [.inr (Str.ofString "buttons")], [.fz (intsD c2.ss)], .fz (optD c2.lx), [.fz (optD c2.bx)], dc_id rfl, key_l, key_b, rfl, by decide, ?_⟩⟩
        walk_at "ga"
        exact hN [(7, _)] _ (by walk_at "eq") (by walk_at "hs") ⟨⟨c2.ss, c4.lx, c2.bx⟩, ⟨cw2.s6, cw2.st, cw4.ll, cw2.bl⟩, rfl⟩
      · refine g_ixL (d := .str (Str.ofString "buttons")) rfl ?_
        walk_at "ga"
        refine g_putD ?_
        walk_at "ga"
        refine e_dgS (cz_buttons c4) ?_
        walk_at "ga"
        refine ⟨⟨_, _, _, dc_id rfl⟩, ?_⟩
        walk_at "ga"
        refine ⟨_, .inr (Str.ofString "buttons"), rfl, .inr ⟨[.inr (Str.ofString "states"), .inr (Str.ofString "lamps")], [], [.fz (intsD c2.ss), .fz (optD c2.lx)], .fz (optD c2.bx), [], dc_id rfl, key_c, List.not_mem_nil, rfl, by decide, ?_⟩⟩
        walk_at "ga"
        exact hN [(7, _)] _ (by walk_at "eq") (by walk_at "hs") ⟨⟨c2.ss, c2.lx, c4.bx⟩, ⟨cw2.s6, cw2.st, cw2.ll, cw4.bl⟩, rfl⟩
    · exact hN [(7, _)] _ (by walk_at "eq") (by walk_at "hs") ⟨c2, cw2, rfl⟩
  subst e
  clear cw2
  have cwb := cw3.sw sw
  have s20 := cw3.s6
  walk_at "ga"
  refine g_frzT rfl (cz_own c3) ?_
  walk_at "ga"
  refine ⟨b, 0, c3, rfl, by rw [hanV_0]; exact sw.ok, by have := sw.tl; omega, cwb, fun t2 hp2 => ?_⟩
  rw [hanV_0] at hp2
  simp only [hanV_0]
  walk_at "ga"
  obtain ⟨e1, he1⟩ : ∃ e, e = tabsG sS b.ts d.ts := ⟨_, rfl⟩
  obtain ⟨e2, he2⟩ : ∃ e, e = decide (b.bs = d.bs) := ⟨_, rfl⟩
  obtain ⟨e3, he3⟩ : ∃ e, e = decide (b.ls = d.ls) := ⟨_, rfl⟩
  obtain ⟨e4, he4⟩ : ∃ e, e = dueB d b c c3 := ⟨_, rfl⟩
  have key : eqC (hanV d o) b (sset c.ss) (sset c3.ss) (wlC d c) (wlC b c3) (ulC d c) (ulC b c3) = (((e1 && e2) && e3) && e4) := by
    rw [sw_eq dw sw, he1, he2, he3, he4]
  refine seqM_e [11] (fun u => u = [(11, .fz (.bl (e1 && e2)))]) (fun N hN => ?_) (fun u e => ?_)
  · walk_at "ga"
    refine e_dgS (wd_rows b 0) ?_
    walk_at "ga"
    refine e_dgS (wd_rows d o) ?_
    walk_at "ga"
    refine g_eqR (eq_tabs eq_stp fun t ht => (sw.ok.2.2.2 t ht).1) (by decide) ?_
    rw [← he1]
    cases e1 with
    | false =>
      walk_at "ga"
      exact hN [(11, _)] _ (by walk_at "eq") (by walk_at "hs") rfl
    | true =>
      walk_at "ga"
      refine e_dgS (wd_buttons b 0) ?_
      walk_at "ga"
      refine e_dgS (wd_buttons d o) ?_
      walk_at "ga"
      refine g_eqE (α := List Str) b.bs d.bs (by decide) ?_
      rw [← he2]
      walk_at "ga"
      exact hN [(11, _)] _ (by walk_at "eq") (by walk_at "hs") rfl
  subst e
  walk_at "ga"
  refine seqM_e [11] (fun u => u = [(11, .fz (.bl ((e1 && e2) && e3)))]) (fun N hN => ?_) (fun u e => ?_)
  · generalize (e1 && e2) = ea at hN ⊢
    walk_at "ga"
    cases ea with
    | false =>
      walk_at "ga"
      exact hN [(11, _)] _ (by walk_at "eq") (by walk_at "hs") rfl
    | true =>
      walk_at "ga"
      refine e_dgS (wd_lamps b 0) ?_
      walk_at "ga"
      refine e_dgS (wd_lamps d o) ?_
      walk_at "ga"
      refine g_eqE (α := List Str) b.ls d.ls (by decide) ?_
      rw [← he3]
      walk_at "ga"
      exact hN [(11, _)] _ (by walk_at "eq") (by walk_at "hs") rfl
  subst e
  walk_at "ga"
  refine seqM_e [11] (fun u => u = [(11, .fz (.bl (((e1 && e2) && e3) && e4)))]) (fun N hN => ?_) (fun u e => ?_)
  · generalize ((e1 && e2) && e3) = ea at hN ⊢
    refine g_frzT rfl rfl ?_
    walk_at "ga"
    cases ea with
    | false =>
      walk_at "ga"
      exact hN [(11, _)] _ (by walk_at "eq") (by walk_at "hs") rfl
    | true =>
      walk_at "ga"
      refine ⟨b, 0, c3, rfl, by rw [sw.bs.length_eq]; omega, by have := sw.ll; omega, by omega, ?_⟩
      refine ⟨_, due_own b c3, ?_⟩
      walk_at "ga"
      refine g_eqR (due_eqR d b c c3) (by decide) ?_
      rw [← he4]
      walk_at "ga"
      exact hN [(11, _)] _ (by walk_at "eq") (by walk_at "hs") rfl
  subst e
  walk_at "ga"
  refine ⟨_, _, rfl, rfl, hanV d o, t, _, _, _, _, _, rfl, dw.hok o, hp, .inr ⟨b, t2, _, _, _, _, rfl, sw.ok, hp2, _, rfl, ?_⟩⟩
  rw [key]
  walk_at "ga"
  refine ⟨⟨_, rfl⟩, .inl rfl, hanV d o, t, _, _, _, _, _, rfl, dw.hok o, hp, .inr ⟨b, t2, _, _, _, _, rfl, sw.ok, hp2, _, rfl, ?_⟩⟩
  rw [key]
  walk_at "ga"
  refine ⟨_, _, rfl, rfl, b, t2, _, _, _, _, _, rfl, sw.ok, hp2, .inr ⟨hanV d o, t, _, _, _, _, rfl, dw.hok o, hp, _, rfl, ?_⟩⟩
  rw [eqC_sym sw.ok (dw.hok o), key]
  walk_at "ga"
  refine ⟨⟨_, rfl⟩, .inl rfl, b, t2, _, _, _, _, _, rfl, sw.ok, hp2, .inr ⟨hanV d o, t, _, _, _, _, rfl, dw.hok o, hp, _, rfl, ?_⟩⟩
  rw [eqC_sym sw.ok (dw.hok o), key]
  generalize (((e1 && e2) && e3) && e4) = E
  walk_at "ga"
  refine for_x [((E, !E) : Bool × Bool), (E, !E)] Enc.d [12] (fun a u => u = []) rfl ?_ (by walk_at "hu") ?_ ?_
  · exact ⟨[], by walk_at "hs", rfl⟩
  · intro a y b2 u2 sp e
    subst e
    have hy : y = (E, !E) := by
      have hm : y ∈ [((E, !E) : Bool × Bool), (E, !E)] := by rw [sp]; simp
      simpa using hm
    subst hy
    walk_at "ga"
    intro N hN
    walk_at "ga"
    refine g_neE (α := Bool × Bool) (E, !E) (E, !E) (by decide) ?_
    rw [decide_eq_true (rfl : ((E, !E) : Bool × Bool) = (E, !E))]
    walk_at "ga"
    exact hN [] _ (by walk_at "eq") (by walk_at "hs") rfl
  · intro u2 e
    subst e
    walk_at "ga"
    refine ⟨b, t2, _, _, _, _, d, o, rfl, sw.ok, hp2, Nat.le_trans (sset_len (r := c3.ss) fun x h => h) (by omega), ?_⟩
    walk_at "ga"
    exact q
theorem ok_law (T : Txt K mg) : Kp P w K mg base level "law" P_law F_lawB := by
  have G__law_cell_at := ok_cell (P := P) (w := w) (base := base) T
  have G__law_world := ok_world (P := P) (w := w) (base := base) T
  have G__law_case := ok_lcase (P := P) (w := w) (base := base) T
  have G__law_due := ok_ldue (P := P) (w := w) (base := base) T
  have G__law_built := ok_built (P := P) (w := w) (base := base) T
  have G__law_right := ok_right (P := P) (w := w) (base := base) T
  refine kl_of (S := SL) T.d_law sc_law (fun _ _ _ _ _ _ us hl => match us, hl with | [_], _ => rfl) rfl rfl fun f cdv A outer s H E hr => ?_
  have st0 : ∀ o0 : Ot, stO0 N_law [o0] = [o0, .no, .no, .no, .no, .no] := fun _ => rfl
  have hu := hu_of hr
  refine ⟨_, _, _, _, pss_cons (ps_set (i := 1) sc_law.nd rfl (Or.inl rfl) (k_kv G__law_world hr (by omega) (pa_cons (k_kv G__law_cell_at hr (by omega) (pa_cons (pv 0) (pa_cons pe_int pa_nil))) pa_nil)))
  (pss_cons (ps_set (i := 2) sc_law.nd rfl (Or.inl rfl) (k_kv G__law_case hr (by omega) (pa_cons (k_kv G__law_cell_at hr (by omega) (pa_cons (pv 0) (pa_cons pe_int pa_nil))) (pa_cons (pv 1) (pa_cons pe_int pa_nil)))))
  (pss_cons (ps_set (i := 3) sc_law.nd rfl (Or.inl rfl) (k_kv G__law_due hr (by omega) (pa_cons (pv 1) (pa_cons (pv 2) pa_nil))))
  (pss_cons (ps_set (i := 4) sc_law.nd rfl (Or.inl rfl) (k_kv G__law_built hr (by omega) (pa_cons (pv 1) (pa_cons (pv 2) pa_nil))))
  (pss_cons (ps_for PassesOwn.never rfl (ki_list K (pe_op op_cat (pe_lst (pa_cons (pe_op op_fdiv (k_kv G__law_cell_at hr (by omega) (pa_cons (pv 0) (pa_cons pe_int pa_nil))) pe_int) pa_nil)) (pe_slice (ks_list K) (pv 0) (po_some pe_int) (po_some pe_int)))) (pg_name (i := 5) sc_law.nd rfl (Or.inl rfl))
  (pss_one (ps_if (pt_not (pt_val (k_kv G__law_right hr (by omega) (pa_cons (pv 5) (pa_cons (pv 1) (pa_cons (pv 3) (pa_cons (pv 4) (pa_cons (pv 2) pa_nil)))))))) (pss_one (ps_ret pe_bl)) (pss_nil))))
  (pss_one (ps_ret pe_bl)))))), s_seq (s_asgD (d_x (v_callQ (a_cons (v_d (d_x (v_callQ (a_cons (v_d (d_var (i := 0))) (a_cons (v_d (d_int)) (a_nil)))))) (a_nil)))))
  (s_seq (s_asgD (d_f (v_callQ (a_cons (v_d (d_x (v_callQ (a_cons (v_d (d_var (i := 0))) (a_cons (v_d (d_int)) (a_nil)))))) (a_cons (v_d (d_var (i := 1))) (a_cons (v_d (d_int)) (a_nil)))))))
  (s_seq (s_asgD (d_f (v_callQ (a_cons (v_d (d_var (i := 1))) (a_cons (v_d (d_var (i := 2))) (a_nil))))))
  (s_seq (s_asgD (d_x (v_callQ (a_cons (v_d (d_var (i := 1))) (a_cons (v_d (d_var (i := 2))) (a_nil))))))
  (s_seq (s_for (tg := .nm 5) (i_list (d_op lf_cat (d_lst (l_cons (d_op lf_div (d_x (v_callQ (a_cons (v_d (d_var (i := 0))) (a_cons (v_d (d_int)) (a_nil))))) (d_int)) (l_nil))) (d_sl ls_scr (d_var (i := 0)) (o_some (d_int)) (o_some (d_int)))))
  (s_if (t_not (t_B (d_x (v_callQ (a_cons (v_d (d_var (i := 5))) (a_cons (v_d (d_var (i := 1))) (a_cons (v_d (d_var (i := 3))) (a_cons (v_d (d_var (i := 4))) (a_cons (v_d (d_var (i := 2))) (a_nil)))))))))) (s_retD (d_bl)) (s_next)))
  (s_retD (d_bl)))))), ?hc, fun ns hl hb => ?_⟩
  case hc =>
    refine Nat.le_trans (m := 2 ^ 100) ?_ (by decide +kernel)
    unfold FORN
    omega
  rw [st0]
  walk_at "ga"
  refine ⟨ns, 0, rfl, by omega, fun v => ?_⟩
  walk_at "ga"
  refine ⟨v, rfl, fun d o dw o0 o3 => ?_⟩
  walk_at "ga"
  refine ⟨ns, 1, rfl, by omega, fun v1 => ?_⟩
  walk_at "ga"
  refine ⟨v1, d, o, 5, rfl, dw, by omega, by omega, fun c cp => ?_⟩
  refine ⟨_, cz_own c, ?_⟩
  walk_at "ga"
  have tl := dw.tl
  have bl := dw.bl
  have ll := dw.ll
  refine ⟨d, o, c, rfl, by omega, by omega, by have := cp.s6; omega, ?_⟩
  refine ⟨_, due_own d c, ?_⟩
  walk_at "ga"
  refine ⟨d, o, c, rfl, dw, cp.w, fun t hp => ?_⟩
  walk_at "ga"
  refine ⟨ns, 0, rfl, by omega, fun v3 => ?_⟩
  walk_at "ga"
  have cl := cutG_len (ns.map Dt.int) (some 2) (some 60)
  have nl : ns.length ≤ 63 := by omega
  rw [cutG_map, List.length_map, List.length_map] at cl
  refine g_cat (by simp only [List.length_cons, List.length_nil, List.length_map]; omega) ?_
  rw [show [Dt.int (v3 / 7)] ++ (cutG ns (some 2) (some 60)).map Dt.int = (v3 / 7 :: cutG ns (some 2) (some 60)).map Dt.int from rfl]
  walk_at "ga"
  refine for_x (v3 / 7 :: cutG ns (some 2) (some 60)) .int [5] (fun a u => u = []) rfl ?_ (by walk_at "hu") ?_ ?_
  · exact ⟨[], by walk_at "hs", rfl⟩
  · intro a x b u sp e
    subst e
    walk_at "ga"
    intro N hN
    walk_at "ga"
    refine ⟨x, d, o, t, c, rfl, dw, cp, hp, ?_⟩
    walk_at "ga"
    exact hN [] _ (by walk_at "eq") (by walk_at "hs") rfl
  · intro u e
    subst e
    walk_at "ga"
    rfl
end
end T
theorem PySem.Challenge.cw_surepresses_k21_equal_cases_holds : PySem.Challenge.rw_surepresses_k21_equal_cases.Holds :=
  T_fin T.ok_law
